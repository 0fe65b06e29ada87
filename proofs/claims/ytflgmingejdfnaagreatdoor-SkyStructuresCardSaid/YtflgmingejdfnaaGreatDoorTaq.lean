import Derived.Test.YtflgmingejdfnaaGreatDoorTap
import Derived.Test.YtflgmingejdfnaaGreatDoorTah
import Derived.Test.YtflgmingejdfnaaGreatDoorTal
set_option linter.all false
set_option maxRecDepth 100000
open Bool renaming and_eq_true→ye,not_false→xE,not_true→yQ
open Go renaming IntKind→yG
open Int renaming ediv_emod_unique→uR,emod_lt_of_pos→ud,emod_nonneg→uK,gcd→xJ,gcd_dvd_left→vS,gcd_dvd_right→vM,gcd_mul_left→tS,gcd_pos_of_ne_zero_right→vX,lt_tmod_of_pos→tu,mul_comm→wP,mul_ediv_cancel'→uS,mul_ediv_mul_of_pos→ux,mul_nonneg→wL,natAbs_ediv_of_dvd→wW,natCast_mul→xC,reduceEq→ss,reduceLT→uD,tdiv_eq_ediv_of_dvd→uy,tmod_eq_emod_of_nonneg→xp,tmod_lt_of_pos→tr
open List renaming cons_append→yH,drop→um,drop_eq_getElem_cons→yT,drop_eq_nil_of_le→xr,getD_eq_getElem?_getD→xD,getElem?_eq_getElem→xP,length_append→yW,length_map→yL,range→yO,take_length→wK
open Nat renaming ble→yy,ble_eq_true_of_le→yt,blt→yA,div_le_self→uN,gcd→wb,gcd_comm→vH,gcd_rec→yaS,gcd_zero_right→tz,le_of_ble_eq_true→yo,le_refl→yC,min_eq_left→xX,mod_eq_of_lt→vE,mod_lt→ve,pow_le_pow_right→xL,pow_succ→xq,reduceAdd→yc,reduceEqDiff→ya,reduceLeDiff→ym,strongRecOn→wY,zero_add→yp,zero_le→tX
open Option renaming getD_some→vW
open Option.some renaming injEq→yb
namespace VE
section
open Go (IntKind)
section
variable {P:aF} {L:Lib}
def s3 (h:Has P L 3 c3) (C0:Has P L 30 rY) {v:AV} {s:List (List Int)} (hv:cf v s):aj P L 3 [v] (ab (cV s)):=by
 have inner:∀{i:Nat} (hi:i<s.length),s[i].length=s.length->s.length<=16->∀k st,(∃j:Nat,bA [0,3,4] st=⟨[(0,v),(3,ab i),(4,ab j)],[],0,0⟩/\j+k=s.length/\dz (-1000) 1000 (s[i].drop j)=dz (-1000) 1000 s[i])->
   ∃ex st',D P L (.loop [0,3,4] Ff) st=some (ex,st')/\∃tm ct,st'=⟨tm,[],ct,0⟩/\((ex= .ret/\ah tm 2=ab 3/\dz (-1000) 1000 s[i]=true)\/(ex= .exit 2/\ah tm 0=v/\ah tm 3=ab i/\dz (-1000) 1000 s[i]=false)):=by
  intro i hi hr hl
  refine dt (I:=fun k st=>∃j:Nat,st=⟨[(0,v),(3,ab i),(4,ab j)],[],0,0⟩/\j+k=s.length/\dz (-1000) 1000 (s[i].drop j)=dz (-1000) 1000 s[i])
   (Q:=fun ex st=>∃tm ct,st=⟨tm,[],ct,0⟩/\((ex= .ret/\ah tm 2=ab 3/\dz (-1000) 1000 s[i]=true)\/(ex= .exit 2/\ah tm 0=v/\ah tm 3=ab i/\dz (-1000) 1000 s[i]=false))) ?_
  rintro k st ⟨j,rfl,hk,hf⟩;simp only [go_sem,ya,Ff,hv.len];obtain ⟨r,rest,cz,eH⟩:=hv.bt hi;by_cases hj:j<s.length
  ·have zM:(j:Int)<s.length:=by omega
   have K7:j<s[i].length:=by omega
   rw [ZB K7] at hf;by_cases h1:s[i][j]< -1000\/1000<s[i][j]
   ·right
    rw [yS h1] at hf;simp only [go_sem,ya,zM,eH,cz.bt K7,VZ C0,h1,yR,ss];refine ⟨_,_,rfl,by simp,_,_,rfl,.inl ⟨rfl,?_,hf.symm⟩⟩;simp only [go_sem]
   ·left
    rw [yE h1] at hf;simp only [go_sem,ya,zM,eH,cz.bt K7,VZ C0,h1,yM];refine ⟨_,k-1,rfl,by omega,j+1,?_,by omega,hf⟩;rw [wrap64 (by omega) (by omega)];simp only [go_sem,ya,aM,a6 hv.pu,bc _ hv.pu]<;>rfl
  ·right
   simp only [go_sem,show ¬(j:Int)<s.length by omega];refine ⟨_,_,rfl,by simp,_,_,rfl,.inr ⟨rfl,?_,?_,?_⟩⟩
   ·simp only [go_sem,ya]
   ·simp only [go_sem,ya]
   ·rw [<-hf,xr (by omega)];rfl
 have key:=dt (P:=P) (L:=L) (live:=[0,3]) (a:=Fg)
  (I:=fun k st=>∃i:Nat,st=⟨[(0,v),(3,ab i)],[],0,0⟩/\i+k=s.length/\s.length<=16/\dZ s.length (-1000) 1000 (s.drop i)=dZ s.length (-1000) 1000 s)
  (Q:=fun ex st=>∃tm ct,st=⟨tm,[],ct,0⟩/\((ex= .ret/\ah tm 2=ab (dZ s.length (-1000) 1000 s))\/(ex= .exit 0/\dZ s.length (-1000) 1000 s=0))) ?_
 ·unfold aj;rw [aR h];unfold cV;by_cases h1:s.length=0
  ·simp only [go_sem,ya,c3,hv.len,show (s.length:Int)=0 by omega];rw [yS h1]
  ·rw [yE h1];by_cases h2:16<s.length
   ·simp only [go_sem,ya,c3,hv.len,show ¬(s.length:Int)=0 by omega,show (16:Int)<s.length by omega];rw [yS h2]
   ·simp only [go_sem,ya,c3,hv.len,show ¬(s.length:Int)=0 by omega,show ¬(16:Int)<s.length by omega];rw [yE h2];generalize hq:D P L (.loop [0,3] Fg) _=q;obtain ⟨ex,st,rfl,tm,ct,rfl,h2⟩:=cW hq (key s.length) ⟨0,by simp only [go_sem,ya,aM,a6 hv.pu,bc _ hv.pu]<;>rfl,by omega,by omega,rfl⟩
    rcases h2 with ⟨rfl,h2⟩ | ⟨rfl,h2⟩
    ·simp only [go_sem,h2]
    ·rw [h2];simp only [go_sem]
 ·rintro k st ⟨i,rfl,hk,hl,hf⟩;simp only [go_sem,ya,Fg,hv.len];by_cases hi:i<s.length
  ·have dj:(i:Int)<s.length:=by omega
   rw [MN hi] at hf;obtain ⟨r,rest,cz,eH⟩:=hv.bt hi;by_cases h1:s[i].length=s.length
   ·simp only [h1,yap,vo,yM] at hf;simp only [go_sem,ya,dj,eH,cz.len,hv.len,show (s[i].length:Int)=s.length by omega];generalize hq:D P L (.loop [0,3,4] Ff) _=q;obtain ⟨ex,st,rfl,tm,ct,rfl,h2⟩:=cW hq (inner hi h1 hl s.length) ⟨0,by simp only [go_sem,ya,aM,a6 hv.pu,bc _ hv.pu]<;>rfl,by omega,rfl⟩
    rcases h2 with ⟨rfl,h2,h3⟩ | ⟨rfl,h2,h3,h4⟩
    ·right
     rw [yS h3] at hf;exact ⟨_,_,rfl,by simp,_,_,rfl,.inl ⟨rfl,by rw [h2,<-hf]⟩⟩
    ·left
     rw [yE (by simp [h4])] at hf;simp only [go_sem,ya,aM,h2,h3,a6 hv.pu,bc _ hv.pu];refine ⟨_,k-1,rfl,by omega,i+1,?_,by omega,hl,hf⟩;rw [wrap64 (by omega) (by omega)];simp only [go_sem,ya,aM,a6 hv.pu,bc _ hv.pu]<;>rfl
   ·right
    simp only [h1,yap,uj,yR] at hf;simp only [go_sem,ya,dj,eH,cz.len,hv.len,show ¬(s[i].length:Int)=s.length by omega];refine ⟨_,_,rfl,by simp,_,_,rfl,.inl ⟨rfl,?_⟩⟩;simp only [go_sem,<-hf]
  ·right
   simp only [go_sem,show ¬(i:Int)<s.length by omega];refine ⟨_,_,rfl,by simp,_,_,rfl,.inr ⟨rfl,?_⟩⟩;rw [<-hf,xr (by omega)];rfl
end
end
section
def pU (n:Nat) (f:Nat->Nat->Int):List (List Int):=(yO n).map fun r=>(yO n).map fun c=>f c r
def A6 (n:Nat) (f:Nat->Nat->Int):(pU n f).length=n:=by simp [pU]
def II {n:Nat} {f:Nat->Nat->Int} {r:Nat} (h:r<n):(pU n f)[r]'(by rw [A6];exact h)=(yO n).map fun c=>f c r:=by simp [pU]
def bF (f:Nat->Int):Nat->Int
 | 0=>0
 | n+1=>bF f n+f n
def kv (k:List (List Int)) (j i:Nat):Int:=(k.getD j []).getD i 0
def MQ {lo hi:Int} {l:List Int} (h:dz lo hi l=false) (h0:lo<=0/\0<=hi) (i:Nat):lo<=l.getD i 0/\l.getD i 0<=hi:=by
 by_cases hl:i<l.length
 ·have:=Ie h i hl
  grind
 ·grind
def mf {n:Nat} {lo hi:Int} {k:List (List Int)} (h:dZ n lo hi k=0) (h0:lo<=0/\0<=hi) (j i:Nat):lo<=kv k j i/\kv k j i<=hi:=by
 unfold kv;by_cases hl:j<k.length
 ·have:=mc h j hl
  simp only [xD,xP hl,vW];exact MQ this.2 h0 i
 ·grind
def Dl {n:Nat} {lo hi:Int} {s:List (List Int)} (h:dZ n lo hi s=0) (h0:lo<=0/\0<=hi) (c r:Int):lo<=bk s c r/\bk s c r<=hi:=by
 unfold bk;by_cases hl:(r%s.length).toNat<s.length
 ·have:=mc h _ hl
  simp only [xD,xP hl,vW];exact MQ this.2 h0 _
 ·grind
end
section
open Go (IntKind)
section
variable {P:aF} {L:Lib}
def NI {k:yG} {n:Int} (h:0<=n):cQ (.int k n)=some n.toNat:=by
 cases n with
 | ofNat n=>rfl
 | negSucc n=>exact absurd h (by simp)
def Ig {s:List (List Int)} {n:Nat} (hn:s.length=n) (h0:0<n) (hr:∀i (hi:i<s.length),s[i].length=n) (c r:Int):
  ∃(h1:(r%n).toNat<s.length) (h2:(c%n).toNat<(s[(r%n).toNat]'h1).length),bk s c r=(s[(r%n).toNat]'h1)[(c%n).toNat]'h2:=by
 have a2:=ud r (show (0:Int)<n by omega);have b2:=ud c (show (0:Int)<n by omega);unfold bk
 grind
def V3 (h:Has P L 97 CR) (pc:Has P L 134 rA) {v:AV} {s:List (List Int)} (hv:cf v s) {n:Nat} (hn:s.length=n) (h0:0<n) (hl:n<=1000000) (hr:∀i (hi:i<s.length),s[i].length=n) (c r:Int):
  aj P L 97 [v,ab c,ab r] (ab (bk s c r)):=by
 obtain ⟨h1,h2,h3⟩:=Ig hn h0 hr c r;have a1:=uK r (show (n:Int)≠0 by omega);have b1:=uK c (show (n:Int)≠0 by omega);obtain ⟨q,rest,kU,K8⟩:=hv.bt h1;have e1:=Ut pc (n:=r) (m:=(s.length:Int)) (by omega) (by omega);have e2:=Ut pc (n:=c) (m:=(s.length:Int)) (by omega) (by omega);rw [hn] at e1 e2;unfold aj at e1 e2 ⊢;rw [aR h];simp only [go_sem,ya,CR,hv.len,hn,e1,e2,NI a1,NI b1,K8,kU.bt h2,h3]
def kG (l:List Int):AV:= .aB false l.length (l.map ab)
def agL (l:List Int):aX (kG l) l:=gC false l
def agM (s:List (List Int)):gJ aX (s.map kG) s:=by
 induction s with
 | nil=>trivial
 | cons a r ih=>exact ⟨agL a,ih⟩
def agN (e:Bool) (s:List (List Int)):cf (.aB e s.length (s.map kG)) s:=by
 refine ⟨s.map kG,?_,agM s⟩
 have:=sQ e (s.map kG)
 rwa [yL] at this
def j9:List AV->AV
 | []=> .aa
 | a::r=> .au 0 0 (r.length+1)
def og:List AV->List AV->AV
 | _,[]=> .aa
 | [],b::q=> .au 0 0 (q.length+1)
 | _::_,b::q=> .au 1 0 (q.length+1)
def jj:List AV->List AV->Hp
 | [],[]=>[]
 | a::r,[]=>[(0,.cells true true false 1 (a::r))]
 | [],b::q=>[(0,.cells true true false 1 (b::q))]
 | a::r,b::q=>[(1,.cells true true false 1 (b::q)),(0,.cells true true false 1 (a::r))]
def lT:List AV->List AV->Nat
 | [],[]=>0
 | _::_,[]=>1
 | [],_::_=>1
 | _::_,_::_=>2
def EY:j9 []= .aa:=rfl
def zi (a:AV) (r:List AV):j9 (a::r)= .au 0 0 (r.length+1):=rfl
def SW (o:List AV):og o []= .aa:=by cases o<;>rfl
def Rc (b:AV) (q:List AV):og [] (b::q)= .au 0 0 (q.length+1):=rfl
def Re (a:AV) (r:List AV) (b:AV) (q:List AV):og (a::r) (b::q)= .au 1 0 (q.length+1):=rfl
def I6:jj [] []=[]:=rfl
def Bu (a:AV) (r:List AV):jj (a::r) []=[(0,.cells true true false 1 (a::r))]:=rfl
def Rg (b:AV) (q:List AV):jj [] (b::q)=[(0,.cells true true false 1 (b::q))]:=rfl
def Rh (a:AV) (r:List AV) (b:AV) (q:List AV):jj (a::r) (b::q)=[(1,.cells true true false 1 (b::q)),(0,.cells true true false 1 (a::r))]:=rfl
def I7:lT [] []=0:=rfl
def Eu (a:AV) (r:List AV):lT (a::r) []=1:=rfl
def agO (b:AV) (q:List AV):lT [] (b::q)=1:=rfl
def agP (a:AV) (r:List AV) (b:AV) (q:List AV):lT (a::r) (b::q)=2:=rfl
end
end
section
open Go (IntKind)
section
variable {P:aF} {L:Lib}
def cP (k id o:Nat):Bz k (.ptr id o)=some (.ptr id (o+k)):=rfl
def fj {α:Type} (a:α) (l:List α):um 1 (a::l)=l:=rfl
def q9 {α:Type} (a b:α) (l:List α):um 2 (a::b::l)=l:=rfl
def air {α:Type} (a b c:α) (l:List α):um 3 (a::b::c::l)=l:=rfl
def sJ {a b x y:Int} (h1: -a<=x/\x<=a) (h2: -b<=y/\y<=b): -(a*b)<=x*y/\x*y<=a*b:=by
 have p1:=wL (show 0<=a-x by omega) (show 0<=b-y by omega);have p2:=wL (show 0<=a+x by omega) (show 0<=b+y by omega);have p3:=wL (show 0<=a-x by omega) (show 0<=b+y by omega);have p4:=wL (show 0<=a+x by omega) (show 0<=b-y by omega)
 grind
def s7 {k:List (List Int)} {j i:Nat} (hj:j<k.length) (hi:i<k[j].length):k[j][i]=kv k j i:=by
 unfold kv
 grind
end
end
section
open Go (IntKind)
section
variable {P:aF} {L:Lib}
abbrev Nm (n:Int):AV:= .agg [ab n,.aa]
def jr (hp:Hp) (ct id:Nat) (a:Int) (x y:AV):iQ hp ct id 0 2 [.int .i64 a,.aa] (some (.cells true true true 2 [x,y]))=some (.aw [],aY hp id (.cells true true true 2 [.int .i64 a,.aa]),ct):=rfl
def mh (hp:Hp):gX .sl .aa .aa=some true:=rfl
def jM (b:Bool):Fy false (some b)=some (.bool b):=by cases b<;>rfl
def agQ (f:b9) (tm:Env) (hp:Hp) (ct:Nat) (x y:X):aZ P L f tm hp ct (.mn [x,y])=rd hp ct (min2 (aq tm x) (aq tm y)):=by
 simp only [aZ,rd,bf,cA,oQ]
 grind
def Bv (f:b9) (tm:Env) (hp:Hp) (ct:Nat) (x y:X):aZ P L f tm hp ct (.mx [x,y])=rd hp ct (max2 (aq tm x) (aq tm y)):=by
 simp only [aZ,rd,bf,cA,oQ]
 grind
def ab2 (k k':yG) (x y:Int):min2 (.int k x) (.int k' y)=some (.int k (if y<x then y else x)):=rfl
def AX (k k':yG) (x y:Int):max2 (.int k x) (.int k' y)=some (.int k (if y>x then y else x)):=rfl
def eR (n:Int):Int:=if n<0 then -1 else if n=0 then 0 else 1
def agR (n:Int):(if (if n<1 then n else 1)> -1 then (if n<1 then n else 1) else -1)=eR n:=by
 unfold eR
 grind
def n117 (h:Has P L 117 BZ) (n:Int):aj P L 117 [ab n] (Nm n):=by
 unfold aj;rw [aR h];simp only [go_sem,ya,yc,ym,BZ,bL,yp,jr];rfl
def n147 (h:Has P L 147 oY) {n:Int} (hn: -9223372036854775808<n/\n<9223372036854775808):aj P L 147 [Nm n] (Nm (-n)):=by
 unfold aj;rw [aR h]
 simp only [go_sem,ya,yc,ym,oY,bL,jr,mh,jM,cP,yp,fj,show ¬n= -9223372036854775808 by omega,wrap64 (n:=0-n) (by omega) (by omega)];simp only [Int.zero_sub];rfl
def n146 (h:Has P L 146 nN) (n:Int):aj P L 146 [Nm n] (ab (eR n)):=by
 unfold aj;rw [aR h];simp only [go_sem,ya,yc,nN,bL,cP,yp,agQ,Bv,ab2,AX,agR]
def rb (hp:Hp) (p q:Bool):gX .b (.bool p) (.bool q)=some (p==q):=rfl
def n119 (h:Has P L 119 c119) {a b:Int} (ha: -4611686018427387904<a/\a<4611686018427387904) (hb: -4611686018427387904<b/\b<4611686018427387904):aj P L 119 [Nm a,Nm b] (Nm (a+b)):=by
 unfold aj;rw [aR h];have e:decide (a<a+b)=decide (0<b):=by
  by_cases h:0<b
  ·simp only [h,yz];exact wM (by omega)
  ·simp only [h,yD];exact w6 (by omega)
 simp only [go_sem,ya,yc,ym,c119,bL,jr,mh,jM,rb,cP,yp,fj,wrap64 (n:=a+b) (by omega) (by omega),e,beq_self_eq_true];rfl
end
end
section
open Go (IntKind)
section
variable {P:aF} {L:Lib}
def Oz {n:Nat} {sp:List AV->Option AV} (h:L.pure n=some sp) {f:b9} (ap:List AV):b5 P L f n ap=sp ap:=by simp only [b5,h]
abbrev lU (n:Int):AV:= .int .u64 n
def SX {n:Int} (h1:0<=n) (h2:n<18446744073709551616):IntKind.wrap .u64 n=n:=by
 simp only [IntKind.wrap,IntKind.signed,IntKind.bits]
 grind
def Ri (n:Int):lC (.toInt .u64) (ab n)=some (lU (IntKind.wrap .u64 n)):=rfl
def Rj (n:Int):lC (.toInt .i64) (lU n)=some (ab (IntKind.wrap .i64 n)):=rfl
def Rk (b:Bool):Fy true (some b)=some (.bool (!b)):=by cases b<;>rfl
def agS (a b c d:AV):over 0 [a,b] [c,d]=[a,b]:=rfl
def gU (a b:AV) (r:List AV):gK 2 true (a::b::r)=some (.agg [a,b]):=rfl
def oV (a b c d:AV) (r:List AV):gK 4 true (a::b::c::d::r)=some (.agg [a,b,c,d]):=rfl
def n142 (h:Has P L 142 rB) {n:Int} (hn: -9223372036854775808<n/\n<9223372036854775808):aj P L 142 [ab n] (lU n.natAbs):=by
 unfold aj;rw [aR h];by_cases h0:n<0
 ·simp only [go_sem,ya,rB,h0,Ri,wrap64 (n:=0-n) (by omega) (by omega),SX (n:=0-n) (by omega) (by omega)];rw [show 0-n=(n.natAbs:Int) by omega]
 ·simp only [go_sem,ya,rB,h0,Ri,SX (n:=n) (by omega) (by omega)];rw [show n=(n.natAbs:Int) by omega];rfl
def XO {x y:Nat} (hx:x<18446744073709551616) (hy:y<18446744073709551616) (h:x*y<18446744073709551616):qG [lU x,lU y]=some (.aw [lU 0,lU (x*y:Nat)]):=by
 show (bif yA x 18446744073709551616&&yA y 18446744073709551616 then _ else none)=_
 rw [show yA x 18446744073709551616=true from yt (by omega),show yA y 18446744073709551616=true from yt (by omega)];simp only [Bool.and_self,yi,Nat.div_eq_of_lt h,vE h];rfl
def n100 (h:Has P L 100 zu) (nS:Has P L 142 rB) (Ux:L.pure 143=some qG) {a b:Int} (ha: -4611686018427387904<a/\a<4611686018427387904) (hb: -4611686018427387904<b/\b<4611686018427387904) (hm:a.natAbs*b.natAbs<4611686018427387904):aj P L 100 [Nm a,Nm b] (Nm (a*b)):=by
 have e1:=n142 nS (n:=a) (by omega);have e2:=n142 nS (n:=b) (by omega);have e3:b5 P L (D P L) 143 [lU a.natAbs,lU b.natAbs]=some (.aw [lU 0,lU (a.natAbs*b.natAbs:Nat)]):=by
  rw [Oz Ux];exact XO (by omega) (by omega) (by omega)
 unfold aj at e1 e2 ⊢;rw [aR h];have key:∃m:Nat,a.natAbs*b.natAbs=m:=⟨_,rfl⟩;obtain ⟨m,eu⟩:=key;rw [eu] at e3 hm;by_cases hs:(decide (a<0)==decide (b<0))=true
 ·have e5:a*b=(m:Int):=by
   have:decide (a<0)=decide (b<0):=eq_of_beq hs
   have mW:(a<0)=(b<0):=by simpa using this
   rw [<-eu];by_cases h1:a<0
   ·have h2:b<0:=mW▸h1;rw [xC,show (a.natAbs:Int)= -a by omega,show (b.natAbs:Int)= -b by omega,Int.neg_mul_neg]
   ·have h2:¬b<0:=mW▸h1;rw [xC,show (a.natAbs:Int)=a by omega,show (b.natAbs:Int)=b by omega]
  rw [e5]
  simp only [go_sem,ya,yc,ym,zu,bL,jr,mh,jM,Rk,yQ,rb,cP,yp,fj,e1,e2,e3,show (m:Int)<=9223372036854775807 by omega,hs,Rj,wrap64 (n:=(m:Int)) (by omega) (by omega)];rfl
 ·have hs:(decide (a<0)==decide (b<0))=false:=by simpa using hs
  have e5:a*b=0-(m:Int):=by
   rw [<-eu];by_cases h1:a<0
   ·have h2:¬b<0:=fun h2=>by simp [h1,h2] at hs
    rw [xC,show (a.natAbs:Int)= -a by omega,show (b.natAbs:Int)=b by omega,Int.neg_mul];omega
   ·have h2:b<0:=by
     by_cases h2:b<0
     ·exact h2
     ·simp [h1,h2] at hs
    rw [xC,show (a.natAbs:Int)=a by omega,show (b.natAbs:Int)= -b by omega,Int.mul_neg];omega
  rw [e5]
  simp only [go_sem,ya,yc,ym,zu,bL,jr,mh,jM,Rk,xE,rb,cP,yp,fj,e1,e2,e3,show (m:Int)<=9223372036854775807 by omega,hs,Rj,wrap64 (n:=(m:Int)) (by omega) (by omega),wrap64 (n:=0-(m:Int)) (by omega) (by omega)];rfl
def n163 (h:Has P L 163 oZ) (mE:Has P L 147 oY) {n:Int} (hn: -9223372036854775808<n/\n<9223372036854775808):aj P L 163 [Nm n] (Nm n.natAbs):=by
 have e1:=n147 mE hn;unfold aj at e1 ⊢;rw [aR h];by_cases h0:n<0
 ·simp only [go_sem,ya,yc,oZ,bL,jr,cP,yp,h0,gU,df,e1];rw [show -n=(n.natAbs:Int) by omega];rfl
 ·simp only [go_sem,ya,yc,oZ,bL,jr,cP,yp,h0,gU];rw [show ((n.natAbs:Nat):Int)=n by omega];rfl
def ZZ {a b:Int} (hb:0<b):(a.tmod b<0->a/b=a.tdiv b-1/\a%b=a.tmod b+b)/\(¬a.tmod b<0->a/b=a.tdiv b/\a%b=a.tmod b):=by
 have h1:=Int.mul_tdiv_add_tmod a b;have h2:a.tmod b<b:=tr a hb;have h3: -b<a.tmod b:=tu a hb;refine ⟨fun h=>(uR hb).2 ⟨?_,?_,?_⟩,fun h=>(uR hb).2 ⟨?_,?_,?_⟩⟩
 ·grind
 ·omega
 ·omega
 ·omega
 ·omega
 ·omega
def n164 (h:Has P L 164 mA) {a b:Int} (ha: -4611686018427387904<a/\a<4611686018427387904) (hb:0<b/\b<4611686018427387904):aj P L 164 [Nm a,Nm b] (.aw [Nm (a/b),Nm (a%b)]):=by
 obtain ⟨f1,f2⟩:=ZZ (a:=a) hb.1;have hq: -4611686018427387904<a.tdiv b/\a.tdiv b<4611686018427387904:=by
  have:=Int.natAbs_tdiv_le_natAbs a b
  omega
 have hr: -4611686018427387904<a.tmod b/\a.tmod b<4611686018427387904:=by
  have:=tr a hb.1
  have:=tu a hb.1
  omega
 unfold aj;rw [aR h];by_cases h0:a.tmod b<0
 ·obtain ⟨g1,g2⟩:=f1 h0;rw [g1,g2]
  simp only [go_sem,ya,yc,ym,mA,bL,jr,mh,jM,cP,yp,fj,show ¬a= -9223372036854775808 by omega,dX _ _ _ (show b≠0 by omega),eJ _ _ _ (show b≠0 by omega),h0,wrap64 (n:=a.tdiv b) (by omega) (by omega),wrap64 (n:=a.tdiv b-1) (by omega) (by omega),wrap64 (n:=a.tmod b+b) (by omega) (by omega)];rfl
 ·obtain ⟨g1,g2⟩:=f2 h0;rw [g1,g2]
  simp only [go_sem,ya,yc,ym,mA,bL,jr,mh,jM,cP,yp,fj,show ¬a= -9223372036854775808 by omega,dX _ _ _ (show b≠0 by omega),eJ _ _ _ (show b≠0 by omega),h0,wrap64 (n:=a.tdiv b) (by omega) (by omega)];rfl
def n148 (h:Has P L 148 zB) (jU:Has P L 146 nN) (kH:Has P L 164 mA) {a b:Int} (ha: -4611686018427387904<a/\a<4611686018427387904) (hb:0<b/\b<4611686018427387904):aj P L 148 [Nm a,Nm b] (Nm (a/b)):=by
 have e1:=n146 jU b;have e2:=n164 kH ha hb;have e3:eR b=1:=by unfold eR;rw [yE (by omega),yE (by omega)]
 rw [e3] at e1;unfold aj at e1 e2 ⊢;rw [aR h];simp only [go_sem,ya,yc,zB,uD,yD,bL,jr,yp,gU,df,e1,e2,oz];rfl
def ab3 (a b:Nat) (hb:b≠0):wb b (a%b)=wb a b:=by
 rw [vH b,<-yaS,vH]
def agT (jU:Has P L 146 nN) (kH:Has P L 164 mA) (G:Nat):
  ∀k s,(∃x y:Nat,bA [2,3,4] s=⟨[(2,.ptr 0 0),(3,.ptr 1 0),(4,.ptr 2 0)],[(2,.cells true true true 2 [ab 0,.aa]),(1,.cells true true true 2 [ab y,.aa]),(0,.cells true true true 2 [ab x,.aa])],3,0⟩/\x<4611686018427387904/\y<4611686018427387904/\wb x y=G/\y=k)->
   ∃ex s',D P L (.loop [2,3,4] Bf) s=some (ex,s')/\∃tm,s'=⟨tm,[(2,.cells true true true 2 [ab 0,.aa]),(1,.cells true true true 2 [ab 0,.aa]),(0,.cells true true true 2 [ab G,.aa])],3,0⟩/\ex= .exit 0/\ah tm 2= .ptr 0 0/\ah tm 4= .ptr 2 0:=by
 refine dt (I:=fun k s=>∃x y:Nat,s=⟨[(2,.ptr 0 0),(3,.ptr 1 0),(4,.ptr 2 0)],[(2,.cells true true true 2 [ab 0,.aa]),(1,.cells true true true 2 [ab y,.aa]),(0,.cells true true true 2 [ab x,.aa])],3,0⟩/\x<4611686018427387904/\y<4611686018427387904/\wb x y=G/\y=k)
  (Q:=fun ex s'=>∃tm,s'=⟨tm,[(2,.cells true true true 2 [ab 0,.aa]),(1,.cells true true true 2 [ab 0,.aa]),(0,.cells true true true 2 [ab G,.aa])],3,0⟩/\ex= .exit 0/\ah tm 2= .ptr 0 0/\ah tm 4= .ptr 2 0) ?_
 rintro k s ⟨x,y,rfl,hx,hy,hG,rfl⟩;have e1:=n146 jU (y:Int);by_cases Ai:y=0
 ·right
  subst Ai;have e3:eR ((0:Nat):Int)=0:=rfl;rw [e3] at e1;simp only [go_sem,ya,Bf,yz,yQ,gU,df,e1];obtain rfl:x=G:=by rw [<-hG,tz]
  exact ⟨_,_,rfl,by simp,_,rfl,rfl,by simp only [go_sem,ya],by simp only [go_sem,ya]⟩
 ·left
  have e3:eR (y:Int)=1:=by unfold eR;rw [yE (by omega),yE (by omega)]
  rw [e3] at e1;have e2:=n164 kH (a:=x) (b:=y) (by omega) (by omega);rw [show ((x:Int)%(y:Int))=((x%y:Nat):Int) from rfl] at e2;have aV:=ve x (show 0<y by omega);simp only [go_sem,ya,yc,Bf,ss,yD,xE,bL,jr,gU,df,e1,e2,oz];refine ⟨_,x%y,rfl,aV,y,x%y,?_,hy,by omega,by rw [<-hG];exact ab3 x y Ai,rfl⟩
  simp only [go_sem,ya,yc,aM,agS,Bool.true_and]
def n130 (h:Has P L 130 zy) (rG:Has P L 163 oZ) (mE:Has P L 147 oY) (jU:Has P L 146 nN) (kH:Has P L 164 mA) {a b:Int} (ha: -4611686018427387904<a/\a<4611686018427387904) (hb: -4611686018427387904<b/\b<4611686018427387904):aj P L 130 [Nm a,Nm b] (Nm (xJ a b:Nat)):=by
 have e1:=n163 rG mE (n:=a) (by omega);have e2:=n163 rG mE (n:=b) (by omega);unfold aj at e1 e2 ⊢;rw [aR h];simp only [go_sem,ya,yc,zy,bL,jr,gU,df,e1,e2,cI,yp];generalize hq:D P L (.loop [2,3,4] Bf) _=q;obtain ⟨ex,s,rfl,tm,rfl,rfl,h2,h4⟩:=cW hq (agT (P:=P) (L:=L) jU kH (xJ a b) b.natAbs) ⟨a.natAbs,b.natAbs,by simp only [go_sem,ya,yc,aM],by omega,by omega,rfl,rfl⟩;simp only [go_sem,ya,yc,aM,h2,h4,jr,gU];rfl
abbrev Fq (n d:Int):AV:= .agg [ab n,.aa,ab d,.aa]
def js (hp:Hp) (ct id:Nat) (a b:Int) (x y z w:AV):iQ hp ct id 0 4 [.int .i64 a,.aa,.int .i64 b,.aa] (some (.cells true true true 4 [x,y,z,w]))=some (.aw [],aY hp id (.cells true true true 4 [.int .i64 a,.aa,.int .i64 b,.aa]),ct):=rfl
def Ev (tm:Env) (x y z w:AV) (a:Int) (r:List (Nat×Nat×X)):BP tm [x,y,z,w] 0 2 [.int .i64 a,.aa] r=fill tm [.int .i64 a,.aa,z,w] r:=rfl
def Ew (tm:Env) (x y z w:AV) (a:Int) (r:List (Nat×Nat×X)):BP tm [x,y,z,w] 2 2 [.int .i64 a,.aa] r=fill tm [x,y,.int .i64 a,.aa] r:=rfl
def n101 (h:Has P L 101 zx) (Ci:Has P L 148 zB) (FD:Has P L 130 zy) (rG:Has P L 163 oZ) (mE:Has P L 147 oY) (jU:Has P L 146 nN) (kH:Has P L 164 mA) {a b:Int} (ha: -4611686018427387904<a/\a<4611686018427387904) (hb:0<b/\b<4611686018427387904):
  aj P L 101 [Nm a,Nm b] (Fq (a/(xJ a b:Nat)) (b/(xJ a b:Nat))):=by
 have e1:=n146 jU b;have e3:eR b=1:=by unfold eR;rw [yE (by omega),yE (by omega)]
 rw [e3] at e1;have e2:=n130 FD rG mE jU kH ha (b:=b) (by omega);have hg:(0:Int)<(xJ a b:Nat):=by
  have:=vX a (show b≠0 by omega)
  omega
 have j0:((xJ a b:Nat):Int)<4611686018427387904:=by
  have:=Int.gcd_le_natAbs_right a (show b≠0 by omega)
  omega
 have e4:=n148 Ci jU kH ha (b:=(xJ a b:Nat)) ⟨hg,j0⟩;have e5:=n148 Ci jU kH (a:=b) (b:=(xJ a b:Nat)) (by omega) ⟨hg,j0⟩;unfold aj at e1 e2 e4 e5 ⊢;rw [aR h];by_cases pM:b=1
 ·subst pM;rw [Int.gcd_one];simp only [go_sem,ya,yc,zx,uD,yD,yz,bL,js,gU,df,e1,cP,yp,fj,mh,jM,Ev,Ew];rw [show a/((1:Nat):Int)=a from Int.ediv_one a];rfl
 ·simp only [go_sem,ya,yc,zx,uD,yD,bL,jr,js,gU,df,e1,cP,yp,fj,mh,jM,pM,e2,e4,e5,cI,Ev,Ew];rfl
def K9 (h:Has P L 98 CS) (n d:Int):aj P L 98 [Fq n d] (.bool (decide (d=1))):=by
 unfold aj;rw [aR h];simp only [go_sem,ya,yc,CS,bL,cP,yp,q9,air,mh,jM]
end
end
section
def aS (a b:Int):Int:=a/(xJ a b:Nat)
def aQ (a b:Int):Int:=b/(xJ a b:Nat)
def Eh {a b:Int} (hb:0<b):(0:Int)<(xJ a b:Nat):=by
 have:=vX a (show b≠0 by omega)
 omega
def MR {a b k:Int} (hk:0<k):aS (k*a) (k*b)=aS a b:=by
 unfold aS;rw [tS,xC,show (k.natAbs:Int)=k by omega,ux _ _ hk]
def MS {a b k:Int} (hk:0<k):aQ (k*a) (k*b)=aQ a b:=by
 unfold aQ;rw [tS,xC,show (k.natAbs:Int)=k by omega,ux _ _ hk]
def qP (a b:Int):a=(xJ a b:Nat)*aS a b:=(uS (vS a b)).symm
def s8 (a b:Int):b=(xJ a b:Nat)*aQ a b:=(uS (vM a b)).symm
def mg {a b:Int} (hb:0<b):0<aQ a b:=by
 have h1:=Eh (a:=a) hb;have h2:=s8 a b;rcases Int.lt_trichotomy (aQ a b) 0 with h | h | h
 ·have:=Int.mul_neg_of_pos_of_neg h1 h;omega
 ·grind
 ·exact h
def ko (a b:Int):(aS a b).natAbs<=a.natAbs:=by
 unfold aS;rw [wW (vS a b)];exact uN _ _
def lh (a b:Int):(aQ a b).natAbs<=b.natAbs:=by
 unfold aQ;rw [wW (vM a b)];exact uN _ _
def ajR {a b c d:Int} (hb:0<b) (hd:0<d) (h:a*d=c*b):aS a b=aS c d/\aQ a b=aQ c d:=by
 have e1:aS (d*a) (d*b)=aS (b*c) (b*d):=by rw [wP d a,h,wP c b,wP d b]
 have e2:aQ (d*a) (d*b)=aQ (b*c) (b*d):=by rw [wP d a,h,wP c b,wP d b]
 rw [MR hd,MR hb] at e1;rw [MS hd,MS hb] at e2;exact ⟨e1,e2⟩
def fO (a b:Int):List Nat:=if aQ a b=1 then bE (aS a b) else bE (aS a b)++[47]++bE (aQ a b)
end
section
def SY {a b:Nat} (h:¬a<b):yA a b=false:=by
 cases hb:yA a b with
 | false=>rfl
 | true=>exact absurd (yo hb) (by omega)
def IJ:∀(f n:Nat) (acc:List Nat),n<f->jm f n acc=jm f n []++acc
 | 0,_,_,h=>by omega
 | f+1,n,acc,h=>by
  simp only [jm];by_cases h1:n<10
  ·rw [show yA n 10=true from yt h1];rfl
  ·rw [show yA n 10=false from SY (by omega)];rw [IJ f (n/10) _ (by omega),IJ f (n/10) [48+n%10] (by omega)]
   simp
def HI {f n:Nat} (h:n<10):jm (f+1) n []=[48+n]:=by
 simp only [jm];rw [show yA n 10=true from yt h];rfl
def IK {f n:Nat} (h:¬n<10) (hf:n<=f):jm (f+1) n []=jm f (n/10) []++[48+n%10]:=by
 rw [<-IJ f (n/10) _ (by omega)];simp only [jm];rw [show yA n 10=false from SY (by omega)];rfl
def ab4:∀(n f:Nat),n<f->jm f n []=aD n:=by
 intro n
 induction n using wY with
 | _ n ih=>
  intro f hf;obtain ⟨g,rfl⟩:∃g,f=g+1:=⟨f-1,by omega⟩;by_cases h:n<10
  ·rw [HI h];unfold aD;rw [HI h]
  ·rw [IK h (by omega),ih (n/10) (by omega) g (by omega)];unfold aD;rw [IK h (yC n),ih (n/10) (by omega) n (by omega)];rfl
def kj {n:Nat} (h:n<10):aD n=[48+n]:=HI h
def li {n:Nat} (h:¬n<10):aD n=aD (n/10)++[48+n%10]:=by
 rw [show aD n=jm (n+1) n [] from rfl,IK h (yC n),ab4 (n/10) n (by omega)]
def oF:∀{k n:Nat},n<10^(k+1)->(aD n).length<=k+1
 | 0,n,h=>by rw [kj (by simpa using h)];simp
 | k+1,n,h=>by
  by_cases h1:n<10
  ·rw [kj h1];simp
  ·rw [li h1,yW]
   have:n/10<10^(k+1):=by
    grind
   have:=oF this
   grind
def DC {n:Nat} (h:n<18446744073709551616):(aD n).length<=20:=oF (k:=19) (by omega)
def oG (n:Nat):bE (n:Int)=aD n:=rfl
def qv {n:Int} (h:n<0):bE n=45::aD n.natAbs:=by
 cases n with
 | ofNat n=>exact absurd h (by simp)
 | negSucc n=>rfl
def bV:List Nat->Nat
 | []=>0
 | b::r=>if b=47 then 0 else bV r+1
def XP {s:List Nat} {i:Nat} (h:i<s.length):bV (s.drop i)=if s[i]=47 then 0 else bV (s.drop (i+1))+1:=by
 rw [yT h];rfl
def DK:∀s:List Nat,bV s<=s.length
 | []=>yC _
 | b::r=>by
  unfold bV
  have:=DK r
  grind
def ep:List Nat->Bool
 | []=>true
 | b::r=>yy 48 b&&yy b 57&&ep r
def G5:∀(a b:List Nat),ep (a++b)=(ep a&&ep b)
 | [],b=>by simp [ep]
 | x::a,b=>by simp [ep,G5 a b,Bool.and_assoc]
def qj (n:Nat):ep (aD n)=true:=by
 induction n using wY with
 | _ n ih=>
  by_cases h:n<10
  ·rw [kj h];simp [ep];omega
  ·rw [li h,G5,ih (n/10) (by omega)];simp [ep];omega
def AD:∀{s:List Nat} (r:List Nat),ep s=true->bV (s++r)=s.length+bV r
 | [],r,_=>by simp
 | b::s,r,h=>by
  simp only [ep,ye] at h;have h1:=yo h.1.1;simp only [yH,bV,List.length_cons];rw [yE (by omega),AD r h.2];omega
def Dm:∀(l:List Nat) (a d:Nat),d<10->dT (l++[48+d]) a=(dT l a).map (fun v=>10*v+d)
 | [],a,d,h=>by
  simp only [List.nil_append,dT];rw [show yy 48 (48+d)=true from yt (by omega),show yy (48+d) 57=true from yt (by omega)]
  simp
 | b::l,a,d,h=>by
  simp only [yH,dT]
  cases (yy 48 b&&yy b 57) with
  | true=>exact Dm l _ d h
  | false=>rfl
def oA (n:Nat):dT (aD n) 0=some n:=by
 induction n using wY with
 | _ n ih=>
  by_cases h:n<10
  ·rw [kj h]
   have:=Dm [] 0 n h
   simpa [dT] using this
  ·rw [li h,Dm _ _ _ (by omega),ih (n/10) (by omega)]
   simp;omega
def Z0 {s:List Nat} {i a v:Nat} (h:i<s.length) (hv:dT (s.drop i) a=some v):48<=s[i]/\s[i]<=57/\dT (s.drop (i+1)) (10*a+(s[i]-48))=some v:=by
 rw [yT h] at hv;simp only [dT] at hv
 cases hb:(yy 48 s[i]&&yy s[i] 57) with
 | false=>rw [hb] at hv;cases hv
 | true=>
  simp_all
def gm:Nat->Nat->List Nat
 | 0,_=>[]
 | k+1,n=>gm k (n/10)++[48+n%10]
def Ih:∀k n,(gm k n).length=k
 | 0,_=>rfl
 | k+1,n=>by simp [gm,Ih k]
def Ii:∀(k m r:Nat),0<m->r<10^k->aD (m*10^k+r)=aD m++gm k r
 | 0,m,r,_,h=>by simp at h;subst h;simp [gm]
 | k+1,m,r,hm,h=>by
  have h1:m*10^(k+1)+r=(m*10^k)*10+r:=by grind
  have hp:0<m*10^k:=Nat.mul_pos hm (Nat.pow_pos (by decide));have e1:(m*10^(k+1)+r)/10=m*10^k+r/10:=by omega
  have e2:(m*10^(k+1)+r)%10=r%10:=by omega
  rw [li (by omega),e1,e2,Ii k m (r/10) hm (by rw [xq] at h;omega)];simp [gm]
def OA:∀(k r a:Nat),r<10^k->dT (gm k r) a=some (a*10^k+r)
 | 0,r,a,h=>by simp at h;subst h;simp [gm,dT]
 | k+1,r,a,h=>by
  rw [gm,Dm _ _ _ (ve _ (by decide)),OA k (r/10) a (by omega)];simp only [Option.map_some,yb,xq]
  grind
def ab5 {m:Nat} (h:1000000000<=m):aD m=aD (m/1000000000)++gm 9 (m%1000000000):=by
 have:=Ii 9 (m/1000000000) (m%1000000000) (by omega) (by omega)
 grind
end
section
open Go (IntKind)
def fP (s:List Nat) (l h:Option Nat):Option AV:=
 match l,h with
 | some l,some h=>bif yy l h&&yy h s.length then some (.str ((s.take h).drop l)) else none
 | _,_=>none
def dM (hp:Hp) (s:List Nat) (tm:Env) (lo hi:Option X):fu hp .str (.str s) tm lo hi=fP s (cR tm 0 lo) (cR tm s.length hi):=by
 unfold fP;simp only [fu]
 grind
def ei (tm:Env) (d:Nat):cR tm d none=some d:=rfl
def dH (tm:Env) (d:Nat) (x:X):cR tm d (some x)=cQ (aq tm x):=rfl
def jo {s:List Nat} {l h:Nat} (h1:l<=h) (h2:h<=s.length):fP s (some l) (some h)=some (.str ((s.take h).drop l)):=by
 simp [fP,yt h1,yt h2]
def fJ {a b:List Nat} (h:a.length+b.length<=9223372036854775807):binOp .add (.str a) (.str b)=some (.str (a++b)):=by
 show By .add a b=_
 simp only [By,yt h,yi]
def aed (k:yG) (n:Int):lC (.toInt .i64) (.int k n)=some (ab (IntKind.wrap .i64 n)):=rfl
def jJ (a b:List Nat):binOp .eql (.str a) (.str b)=some (.bool (dA a b)):=rfl
def ll {s:List Nat} {i:Nat} (h:i<s.length):kB i (.str s)=some (.int .u8 (s[i]:Nat)):=by
 simp only [kB,xP h]
def MT {r:Nat} (h:r<10):fP [48,49,50,51,52,53,54,55,56,57] (some r) (some (r+1))=some (.str [48+r]):=by
 have:r=0\/r=1\/r=2\/r=3\/r=4\/r=5\/r=6\/r=7\/r=8\/r=9:=by omega
 rcases this with rfl | rfl | rfl | rfl | rfl | rfl | rfl | rfl | rfl | rfl<;>rfl
section
variable {P:aF} {L:Lib}
def JY (h:Has P L 292 nP) {n:Nat} (hn:n<9223372036854775808):aj P L 292 [ab n,ab 1] (.str (aD n)):=by
 have key:=dt (P:=P) (L:=L) (live:=[0,1,5]) (a:=jL)
  (I:=fun k st=>∃(m:Nat) (s:List Nat),st=⟨[(0,ab m),(1,ab 1),(5,.str s)],[],0,0⟩/\m<=n/\m+(1-s.length)=k/\s.length<=20/\((s=[]/\m=n)\/(0<s.length/\(m=0->s=aD n)/\(0<m->aD n=aD m++s))))
  (Q:=fun ex st=>∃tm ct,st=⟨tm,[],ct,0⟩/\ex= .exit 0/\ah tm 5= .str (aD n)) ?_
 ·unfold aj;rw [aR h];simp only [go_sem,nP];generalize hq:D P L (.loop [0,1,5] jL) _=q;obtain ⟨ex,st,rfl,tm,ct,rfl,rfl,h2⟩:=cW hq (key (n+1)) ⟨n,[],by simp only [go_sem,ya,aM]<;>rfl,by omega,rfl,by simp,.inl ⟨rfl,rfl⟩⟩
  simp only [go_sem,aM,h2]
 ·rintro k st ⟨m,s,rfl,hm,hk,hl,hs⟩;by_cases mX:0<m\/s.length<1
  ·left
   have hc:((decide ((0:Int)<m))=true)\/((decide ((0:Int)<m))=false/\((s.length:Nat):Int)<1):=by
    by_cases h0:0<m
    ·exact .inl (wM (by omega))
    ·exact .inr ⟨w6 (by omega),by omega⟩
   have hr:((m:Int)).tmod 10=((m%10:Nat):Int):=by rw [xp (by omega)];rfl
   have hq:((m:Int)).tdiv 10=((m/10:Nat):Int):=by rw [Int.tdiv_eq_ediv_of_nonneg (by omega)];rfl
   have hd:=MT (r:=m%10) (by omega);have fin:∃s' k',D P L jL ⟨[(0,ab m),(1,ab 1),(5,.str s)],[],0,0⟩=some (.normal,s')/\k'<k/\bA [0,1,5] s'=⟨[(0,ab (m/10:Nat)),(1,ab 1),(5,.str ([48+m%10]++s))],[],0,0⟩/\m/10+(1-([48+m%10]++s).length)=k':=by
    rcases hc with hc | ⟨hc,rU⟩
    ·have hc:(0:Int)<m:=of_decide_eq_true hc
     simp only [go_sem,ya,yc,jL,hc,eJ _ _ _ (show (10:Int)≠0 by decide),dX _ _ _ (show (10:Int)≠0 by decide),hr,hq,wrapN (n:=m%10+1) (by omega),wrap64 (n:=((m/10:Nat):Int)) (by omega) (by omega),dM,dH,show ((m%10:Nat):Int)+1=((m%10+1:Nat):Int) from rfl,hd,fJ (a:=[48+m%10]) (b:=s) (by simp;omega)];refine ⟨_,_,rfl,?_,by simp only [go_sem,ya,aM],rfl⟩
     simp;omega
    ·have hc:¬(0:Int)<m:=of_decide_eq_false hc
     simp only [go_sem,ya,yc,jL,hc,rU,eJ _ _ _ (show (10:Int)≠0 by decide),dX _ _ _ (show (10:Int)≠0 by decide),hr,hq,wrapN (n:=m%10+1) (by omega),wrap64 (n:=((m/10:Nat):Int)) (by omega) (by omega),dM,dH,show ((m%10:Nat):Int)+1=((m%10+1:Nat):Int) from rfl,hd,fJ (a:=[48+m%10]) (b:=s) (by simp;omega)];refine ⟨_,_,rfl,?_,by simp only [go_sem,ya,aM],rfl⟩
     simp;omega
   obtain ⟨s',k',f1,f2,f3,f4⟩:=fin;refine ⟨s',k',f1,f2,m/10,[48+m%10]++s,f3,by omega,f4,?_,.inr ⟨by simp,fun h0=>?_,fun h0=>?_⟩⟩
   ·have ans:=DC (n:=n) (by omega);rcases hs with ⟨rfl,rfl⟩ | ⟨h1,h2,h3⟩
    ·simp
    ·by_cases h0:0<m
     ·have e:=congrArg List.length (h3 h0);have e2:0<(aD m).length:=by
       by_cases h9:m<10
       ·rw [kj h9];simp
       ·rw [li h9];simp
      simp only [yW] at e
      simp;omega
     ·omega
   ·have h9:m<10:=by omega
    rcases hs with ⟨rfl,rfl⟩ | ⟨h1,h2,h3⟩
    ·rw [kj h9,vE h9];rfl
    ·have:0<m:=by omega
     rw [h3 this,kj h9,vE h9]
   ·have h9:¬m<10:=by omega
    rcases hs with ⟨rfl,rfl⟩ | ⟨h1,h2,h3⟩
    ·rw [li h9];simp
    ·rw [h3 (by omega),li h9];simp
  ·right
   simp only [go_sem,ya,jL,show ¬(0:Int)<m by omega,show ¬((s.length:Nat):Int)<1 by omega];refine ⟨_,_,rfl,by simp,_,_,rfl,rfl,?_⟩;simp only [go_sem,ya];rcases hs with ⟨rfl,rfl⟩ | ⟨h1,h2,h3⟩
   ·simp at mX
   ·rw [h2 (by omega)]
def ajS (h:Has P L 291 Ca) {a b:Nat} (ha:a<9223372036854775808) (hb:b<9223372036854775808):aj P L 291 [ab a,ab b] (ab (wb a b)):=by
 have key:=dt (P:=P) (L:=L) (live:=[0,1]) (a:=Bo)
  (I:=fun k st=>∃x y:Nat,st=⟨[(0,ab x),(1,ab y)],[],0,0⟩/\y=k/\wb x y=wb a b)
  (Q:=fun ex st=>∃tm ct,st=⟨tm,[],ct,0⟩/\ex= .exit 0/\ah tm 0=ab (wb a b)) ?_
 ·unfold aj;rw [aR h];simp only [go_sem,Ca];generalize hq:D P L (.loop [0,1] Bo) _=q;obtain ⟨ex,st,rfl,tm,ct,rfl,rfl,h2⟩:=cW hq (key b) ⟨a,b,by simp only [go_sem,ya,aM]<;>rfl,rfl,rfl⟩
  simp only [go_sem,aM,h2]
 ·rintro k st ⟨x,y,rfl,rfl,hg⟩;by_cases hy:y=0
  ·right
   subst hy;simp only [go_sem,ya,Bo,show ¬(0:Int)<((0:Nat):Int) by omega];refine ⟨_,_,rfl,by simp,_,_,rfl,rfl,?_⟩;simp only [go_sem,ya];rw [<-hg,tz]
  ·left
   have hr:((x:Int)).tmod y=((x%y:Nat):Int):=by rw [xp (by omega)];rfl
   simp only [go_sem,ya,Bo,show (0:Int)<y by omega,eJ _ _ _ (show (y:Int)≠0 by omega),hr];refine ⟨_,x%y,rfl,ve _ (by omega),y,x%y,by simp only [go_sem,ya,aM],rfl,?_⟩;rw [<-hg,vH y,<-yaS,vH]
end
end
section
open Go (IntKind)
section
variable {P:aF} {L:Lib}
def Cj (h:Has P L 272 B6) {s:List Nat} (hl:s.length<=1000000000000):aj P L 272 [.str s] (ab (bV s)):=by
 have key:=dt (P:=P) (L:=L) (live:=[0,3]) (a:=s5)
  (I:=fun k st=>∃i:Nat,st=⟨[(0,.str s),(3,ab i)],[],0,0⟩/\i+k=s.length/\i+bV (s.drop i)=bV s)
  (Q:=fun ex st=>∃tm ct,st=⟨tm,[],ct,0⟩/\((ex= .ret/\ah tm 2=ab (bV s))\/(ex= .exit 0/\ah tm 0= .str s/\bV s=s.length))) ?_
 ·unfold aj;rw [aR h];simp only [go_sem,B6];generalize hq:D P L (.loop [0,3] s5) _=q;obtain ⟨ex,st,rfl,tm,ct,rfl,h2⟩:=cW hq (key s.length) ⟨0,by simp only [go_sem,ya,aM]<;>rfl,by omega,by simp⟩
  rcases h2 with ⟨rfl,h2⟩ | ⟨rfl,h2,h3⟩
  ·simp only [go_sem,h2]
  ·simp only [go_sem,aM,h2,h3]
 ·rintro k st ⟨i,rfl,hk,hs⟩;by_cases hi:i<s.length
  ·rw [XP hi] at hs;by_cases h7:s[i]=47
   ·right
    rw [yS h7] at hs;simp only [go_sem,ya,s5,show (i:Int)<s.length by omega,ll hi,show ((s[i]:Nat):Int)=47 by omega];refine ⟨_,_,rfl,by simp,_,_,rfl,.inl ⟨rfl,?_⟩⟩;rw [<-hs];rfl
   ·left
    rw [yE h7] at hs;simp only [go_sem,ya,s5,show (i:Int)<s.length by omega,ll hi,show ¬((s[i]:Nat):Int)=47 by omega];refine ⟨_,k-1,rfl,by omega,i+1,?_,by omega,by omega⟩;rw [wrap64 (by omega) (by omega)];simp only [go_sem,ya,aM]<;>rfl
  ·right
   simp only [go_sem,ya,s5,show ¬(i:Int)<s.length by omega];refine ⟨_,_,rfl,by simp,_,_,rfl,.inr ⟨rfl,by simp only [go_sem,ya],?_⟩⟩;rw [xr (by omega)] at hs;simp only [bV] at hs;omega
def Cl (h:Has P L 290 zD) {s:List Nat} {v:Nat} (hl:s.length<=18) (hv:dT s 0=some v):aj P L 290 [.str s] (ab v):=by
 have key:=dt (P:=P) (L:=L) (live:=[0,3,4]) (a:=Bn)
  (I:=fun k st=>∃i a:Nat,st=⟨[(0,.str s),(3,ab a),(4,ab i)],[],0,0⟩/\i+k=s.length/\a<10^i/\dT (s.drop i) a=some v)
  (Q:=fun ex st=>∃tm ct,st=⟨tm,[],ct,0⟩/\ex= .exit 0/\ah tm 3=ab v) ?_
 ·unfold aj;rw [aR h];simp only [go_sem,zD];generalize hq:D P L (.loop [0,3,4] Bn) _=q;obtain ⟨ex,st,rfl,tm,ct,rfl,rfl,h2⟩:=cW hq (key s.length) ⟨0,0,by simp only [go_sem,ya,aM]<;>rfl,by omega,by simp,hv⟩
  simp only [go_sem,aM,h2]
 ·rintro k st ⟨i,a,rfl,hk,ha,hs⟩;by_cases hi:i<s.length
  ·left
   obtain ⟨h1,h2,h3⟩:=Z0 hi hs;have hp:10^i<=10^17:=xL (by decide) (by omega);have hb:IntKind.wrap .i64 ((s[i]:Nat):Int)=((s[i]:Nat):Int):=wrap64 (by omega) (by omega)
   simp only [go_sem,ya,Bn,show (i:Int)<s.length by omega,ll hi,aed,hb,wrap64 (n:=10*(a:Int)) (by omega) (by omega),wrap64 (n:=10*(a:Int)+(s[i]:Nat)) (by omega) (by omega),wrap64 (n:=10*(a:Int)+(s[i]:Nat)-48) (by omega) (by omega)];refine ⟨_,k-1,rfl,by omega,i+1,10*a+(s[i]-48),?_,by omega,?_,h3⟩
   ·rw [wrap64 (by omega) (by omega),show 10*(a:Int)+(s[i]:Nat)-48=((10*a+(s[i]-48):Nat):Int) by omega];simp only [go_sem,ya,aM]<;>rfl
   ·rw [xq];omega
  ·right
   simp only [go_sem,ya,Bn,show ¬(i:Int)<s.length by omega];refine ⟨_,_,rfl,by simp,_,_,rfl,rfl,?_⟩;rw [xr (by omega)] at hs;simp only [dT,yb] at hs;subst hs;simp only [go_sem,ya]
def Ei (a:Int):(if 0-a>a then 0-a else a)=(a.natAbs:Int):=by omega
def D0 (a b:Int):a.tdiv (xJ a b:Nat)=aS a b:=uy (vS a b)
def D1 (a b:Int):b.tdiv (xJ a b:Nat)=aQ a b:=uy (vM a b)
def me (n:Int):(if n<0 then [45] else [])++aD n.natAbs=bE n:=by
 split
 ·rename_i h;rw [qv h];rfl
 ·rename_i h;obtain ⟨m,rfl⟩:∃m:Nat,n=m:=⟨n.toNat,by omega⟩;rfl
def Ij {n:Int} (h:n.natAbs<18446744073709551616):(bE n).length<=21:=by
 rw [<-me]
 have:=DC h
 grind
def aee {a b:Int} (hb:0<b):fO a b=(if 1<aQ a b then (bE (aS a b)++[47])++aD (aQ a b).natAbs else bE (aS a b)):=by
 have h:=mg (a:=a) hb;unfold fO;by_cases h1:aQ a b=1
 ·grind
 ·rw [yE h1,yS (by omega)];obtain ⟨m,hm⟩:∃m:Nat,aQ a b=m:=⟨(aQ a b).toNat,by omega⟩;rw [hm];rfl
def ajT (h:Has P L 277 rD) (JZ:Has P L 291 Ca) (kI:Has P L 292 nP) {a b:Int} (ha: -4000000000000000000<=a/\a<=4000000000000000000) (hb:0<b/\b<=4000000000000000000):
  aj P L 277 [ab a,ab b] (.str (fO a b)):=by
 have hn:=ko a b;have hd:=lh a b;have hp:=mg (a:=a) hb.1;have e1:=ajS JZ (a:=a.natAbs) (b:=b.natAbs) (by omega) (by omega);have e2:=JY kI (n:=(aS a b).natAbs) (by omega);have e3:=JY kI (n:=(aQ a b).natAbs) (by omega);have hg:=Eh (a:=a) hb.1;rw [show ((b.natAbs:Nat):Int)=b by omega,show wb a.natAbs b.natAbs=xJ a b from rfl] at e1;rw [show (((aQ a b).natAbs:Nat):Int)=aQ a b by omega] at e3;have kP:=Ij (n:=aS a b) (by omega);have mM:=DC (n:=(aS a b).natAbs) (by omega);have hl3:=DC (n:=(aQ a b).natAbs) (by omega);have hT:=aee (a:=a) hb.1;have hS:=me (aS a b);unfold aj at e1 e2 e3 ⊢;rw [aR h];by_cases h0:aS a b<0
 ·rw [yS h0] at hS;by_cases h1:1<aQ a b
  ·rw [yS h1] at hT
   simp only [go_sem,ya,rD,show ¬a< -4000000000000000000 by omega,show ¬4000000000000000000<a by omega,show ¬b< -4000000000000000000 by omega,show ¬4000000000000000000<b by omega,show ¬b<0 by omega,wrap64 (n:=0-a) (by omega) (by omega),Bv,AX,Ei,e1,dX _ _ _ (show ((xJ a b:Nat):Int)≠0 by omega),D0,D1,wrap64 (n:=aS a b) (by omega) (by omega),wrap64 (n:=aQ a b) (by omega) (by omega),h0,wrap64 (n:=0-aS a b) (by omega) (by omega),e2,fJ (a:=[45]) (b:=aD (aS a b).natAbs) (by simp;omega),hS,h1,fJ (a:=bE (aS a b)) (b:=[47]) (by simp;omega),e3,fJ (a:=bE (aS a b)++[47]) (b:=aD (aQ a b).natAbs) (by simp;omega),hT]
  ·rw [yE h1] at hT
   simp only [go_sem,ya,rD,show ¬a< -4000000000000000000 by omega,show ¬4000000000000000000<a by omega,show ¬b< -4000000000000000000 by omega,show ¬4000000000000000000<b by omega,show ¬b<0 by omega,wrap64 (n:=0-a) (by omega) (by omega),Bv,AX,Ei,e1,dX _ _ _ (show ((xJ a b:Nat):Int)≠0 by omega),D0,D1,wrap64 (n:=aS a b) (by omega) (by omega),wrap64 (n:=aQ a b) (by omega) (by omega),h0,wrap64 (n:=0-aS a b) (by omega) (by omega),e2,fJ (a:=[45]) (b:=aD (aS a b).natAbs) (by simp;omega),hS,h1,hT]
 ·rw [yE h0] at hS;by_cases h1:1<aQ a b
  ·rw [yS h1] at hT
   simp only [go_sem,ya,rD,show ¬a< -4000000000000000000 by omega,show ¬4000000000000000000<a by omega,show ¬b< -4000000000000000000 by omega,show ¬4000000000000000000<b by omega,show ¬b<0 by omega,wrap64 (n:=0-a) (by omega) (by omega),Bv,AX,Ei,e1,dX _ _ _ (show ((xJ a b:Nat):Int)≠0 by omega),D0,D1,wrap64 (n:=aS a b) (by omega) (by omega),wrap64 (n:=aQ a b) (by omega) (by omega),h0,wrap64 (n:=0-aS a b) (by omega) (by omega),e2,fJ (a:=[]) (b:=aD (aS a b).natAbs) (by simp;omega),hS,h1,fJ (a:=bE (aS a b)) (b:=[47]) (by simp;omega),e3,fJ (a:=bE (aS a b)++[47]) (b:=aD (aQ a b).natAbs) (by simp;omega),hT]
  ·rw [yE h1] at hT
   simp only [go_sem,ya,rD,show ¬a< -4000000000000000000 by omega,show ¬4000000000000000000<a by omega,show ¬b< -4000000000000000000 by omega,show ¬4000000000000000000<b by omega,show ¬b<0 by omega,wrap64 (n:=0-a) (by omega) (by omega),Bv,AX,Ei,e1,dX _ _ _ (show ((xJ a b:Nat):Int)≠0 by omega),D0,D1,wrap64 (n:=aS a b) (by omega) (by omega),wrap64 (n:=aQ a b) (by omega) (by omega),h0,wrap64 (n:=0-aS a b) (by omega) (by omega),e2,fJ (a:=[]) (b:=aD (aS a b).natAbs) (by simp;omega),hS,h1,hT]
end
end
section
open Go (IntKind)
def TT (n:Int) (d:Nat):List Nat:=bE n++(if d=1 then [] else 47::aD d)
def aef {a b:Int} (hb:0<b):fO a b=TT (aS a b) (aQ a b).toNat:=by
 have h:=mg (a:=a) hb;unfold fO TT;by_cases h1:aQ a b=1
 ·grind
 ·rw [yE h1,yE (by omega)];obtain ⟨m,hm⟩:∃m:Nat,aQ a b=m:=⟨(aQ a b).toNat,by omega⟩;rw [hm,List.append_assoc];rfl
def qw (n:Nat):0<(aD n).length:=by
 by_cases h:n<10
 ·rw [kj h];simp
 ·rw [li h];simp
def IL:∀(n:Nat),n<10^(aD n).length:=by
 intro n
 induction n using wY with
 | _ n ih=>
  by_cases h:n<10
  ·rw [kj h];simpa using h
  ·have:=ih (n/10) (by omega)
   rw [li h,yW,List.length_singleton,xq];omega
def OB {n:Nat} (h:(aD n).length<=9):n<1000000000:=
 Nat.lt_of_lt_of_le (IL n) (by simpa using xL (show 0<10 by decide) h)
def DL (n:Nat):∃b r,aD n=b::r/\48<=b/\b<=57:=by
 cases hq:aD n with
 | nil=>have:=qw n;rw [hq] at this;simp at this
 | cons b r=>
  have:=qj n
  rw [hq] at this;simp only [ep,ye] at this
  simp_all
section
variable {P:aF} {L:Lib}
def rH (s:List Nat):kB 0 (.str (45::s))=some (.int .u8 45):=rfl
def I8 (q:Bool) (n:Int) (d:Nat):AV:=if q=true then .aw [ab n,ab d,.bool true] else .aw [ab 0,ab 0,.bool false]
def gh (d:Nat):List Nat:=if d=1 then [] else 47::aD d
def MU (d:Nat):bV (gh d)=0:=by unfold gh;split<;>rfl
def ajU (h:Has P L 276 kF) (rI:Has P L 272 B6) (nT:Has P L 290 zD) {n:Int} {d:Nat} (hl:(TT n d).length<=20000000000):
  ∃q:Bool,aj P L 276 [.str (TT n d)] (I8 q n d)/\(q=true->n.natAbs<1000000000/\d<1000000000):=by
 generalize hs:TT n d=s at hl;by_cases hZ:20<s.length
 ·refine ⟨false,?_,fun h=>by cases h⟩;unfold aj;rw [aR h];simp only [go_sem,ya,kF,show (20:Int)<s.length by omega];rfl
 ·have hu:∃u,u=aD n.natAbs++gh d:=⟨_,rfl⟩;obtain ⟨u,hu⟩:=hu;have hK:∃K,K=(aD n.natAbs).length:=⟨_,rfl⟩;obtain ⟨K,hK⟩:=hK;have FP:bV u=K:=by rw [hu,AD _ (qj _),MU,hK];rfl
  have hlen:u.length=K+(gh d).length:=by rw [hu,hK,yW]
  have hp:=qw n.natAbs;obtain ⟨b,r,hb,pM,Gv⟩:=DL n.natAbs;have sb:(n<0/\s=45::u)\/(¬n<0/\s=u):=by
   by_cases h0:n<0
   ·left;refine ⟨h0,?_⟩;rw [<-hs,hu,TT,qv h0];rfl
   ·right;refine ⟨h0,?_⟩;rw [<-hs,hu,TT,<-me,yE h0];rfl
  have hul:u.length<=s.length:=by rcases sb with ⟨_,e⟩ | ⟨_,e⟩<;>rw [e]<;>simp
  have Aj:0<u.length:=by omega
  have lQ:u[0]=b:=by
   have:u=b::(r++gh d):=by rw [hu,hb];rfl
   simp [this]
  have e1:=Cj rI (s:=u) (by omega);rw [FP] at e1;have fG:fP u (some 0) (some K)=some (.str (aD n.natAbs)):=by
   rw [jo (by omega) (by omega),List.drop_zero,hu,hK,List.take_left]
  unfold aj at e1;by_cases h9:9<K
  ·refine ⟨false,?_,fun h=>by cases h⟩;unfold aj;rw [aR h];rcases sb with ⟨h0,e⟩ | ⟨h0,e⟩
   ·have hZ:¬20<u.length+1:=by rw [e] at hZ;exact hZ
    have kS:fP (45::u) (some 1) (some (u.length+1))=some (.str u):=by rw [jo (s:=45::u) (l:=1) (h:=u.length+1) (by omega) (by simp)];simp
    rw [e];simp only [go_sem,ya,kF,show ¬(20:Int)<((u.length+1:Nat):Int) by omega,show (0:Int)<((u.length+1:Nat):Int) by omega,rH,dM,ei,dH,kS,e1,show (9:Int)<(K:Int) by omega];rfl
   ·rw [e];simp only [go_sem,ya,kF,show ¬(20:Int)<(u.length:Nat) by omega,show (0:Int)<(u.length:Nat) by omega,ll Aj,lQ,show ¬((b:Nat):Int)=45 by omega,e1,show (9:Int)<(K:Int) by omega];rfl
  ·by_cases rR:10<(gh d).length
   ·refine ⟨false,?_,fun h=>by cases h⟩;unfold aj;rw [aR h];rcases sb with ⟨h0,e⟩ | ⟨h0,e⟩
    ·have hZ:¬20<u.length+1:=by rw [e] at hZ;exact hZ
     have kS:fP (45::u) (some 1) (some (u.length+1))=some (.str u):=by rw [jo (s:=45::u) (l:=1) (h:=u.length+1) (by omega) (by simp)];simp
     rw [e]
     simp only [go_sem,ya,kF,show ¬(20:Int)<((u.length+1:Nat):Int) by omega,show (0:Int)<((u.length+1:Nat):Int) by omega,rH,dM,ei,dH,kS,e1,show ¬(9:Int)<(K:Int) by omega,wrap64 (n:=(u.length:Int)-(K:Int)) (by omega) (by omega),show (10:Int)<(u.length:Int)-(K:Int) by omega];rfl
    ·rw [e]
     simp only [go_sem,ya,kF,show ¬(20:Int)<(u.length:Nat) by omega,show (0:Int)<(u.length:Nat) by omega,ll Aj,lQ,show ¬((b:Nat):Int)=45 by omega,e1,show ¬(9:Int)<(K:Int) by omega,wrap64 (n:=(u.length:Int)-(K:Int)) (by omega) (by omega),show (10:Int)<(u.length:Int)-(K:Int) by omega];rfl
   ·have e2:=Cl nT (s:=aD n.natAbs) (by omega) (oA n.natAbs);unfold aj at e2;have hm:=OB (n:=n.natAbs) (by omega);by_cases hd:d=1
    ·subst hd;have n7:gh 1=[]:=rfl;refine ⟨true,?_,fun _=>⟨hm,by decide⟩⟩;rw [n7] at hlen;simp only [List.length_nil,Nat.add_zero] at hlen;unfold aj;rw [aR h];rcases sb with ⟨h0,e⟩ | ⟨h0,e⟩
     ·have hZ:¬20<u.length+1:=by rw [e] at hZ;exact hZ
      have kS:fP (45::u) (some 1) (some (u.length+1))=some (.str u):=by rw [jo (s:=45::u) (l:=1) (h:=u.length+1) (by omega) (by simp)];simp
      rw [e]
      simp only [go_sem,ya,kF,show ¬(20:Int)<((u.length+1:Nat):Int) by omega,show (0:Int)<((u.length+1:Nat):Int) by omega,rH,dM,ei,dH,kS,e1,show ¬(9:Int)<(K:Int) by omega,wrap64 (n:=(u.length:Int)-(K:Int)) (by omega) (by omega),show ¬(10:Int)<(u.length:Int)-(K:Int) by omega,fG,e2,show ¬(K:Int)<(u.length:Int) by omega,wrap64 (n:=0-(n.natAbs:Int)) (by omega) (by omega)];rw [show 0-(n.natAbs:Int)=n by omega];rfl
     ·rw [e]
      simp only [go_sem,ya,kF,show ¬(20:Int)<(u.length:Nat) by omega,show (0:Int)<(u.length:Nat) by omega,ll Aj,lQ,show ¬((b:Nat):Int)=45 by omega,dM,ei,dH,e1,show ¬(9:Int)<(K:Int) by omega,wrap64 (n:=(u.length:Int)-(K:Int)) (by omega) (by omega),show ¬(10:Int)<(u.length:Int)-(K:Int) by omega,fG,e2,show ¬(K:Int)<(u.length:Int) by omega];rw [show (n.natAbs:Int)=n by omega];rfl
    ·have n7:gh d=47::aD d:=yE hd;have V4:(gh d).length=(aD d).length+1:=by rw [n7];rfl
     have hpd:=qw d;have hd9:=OB (n:=d) (by omega);have e3:=Cl nT (s:=aD d) (by omega) (oA d);unfold aj at e3;have rU:fP u (some (K+1)) (some u.length)=some (.str (aD d)):=by
      rw [jo (by omega) (yC _),wK,hu,n7,hK,show (aD n.natAbs).length+1=(aD n.natAbs++[47]).length by simp,show aD n.natAbs++47::aD d=(aD n.natAbs++[47])++aD d by simp,List.drop_left]
     refine ⟨true,?_,fun _=>⟨hm,hd9⟩⟩;unfold aj;rw [aR h];rcases sb with ⟨h0,e⟩ | ⟨h0,e⟩
     ·have hZ:¬20<u.length+1:=by rw [e] at hZ;exact hZ
      have kS:fP (45::u) (some 1) (some (u.length+1))=some (.str u):=by rw [jo (s:=45::u) (l:=1) (h:=u.length+1) (by omega) (by simp)];simp
      rw [e]
      simp only [go_sem,ya,kF,show ¬(20:Int)<((u.length+1:Nat):Int) by omega,show (0:Int)<((u.length+1:Nat):Int) by omega,rH,dM,ei,dH,kS,e1,show ¬(9:Int)<(K:Int) by omega,wrap64 (n:=(u.length:Int)-(K:Int)) (by omega) (by omega),show ¬(10:Int)<(u.length:Int)-(K:Int) by omega,fG,e2,show (K:Int)<(u.length:Int) by omega,wrapN (n:=K+1) (by omega),show (K:Int)+1=((K+1:Nat):Int) from rfl,rU,e3,wrap64 (n:=0-(n.natAbs:Int)) (by omega) (by omega)];rw [show 0-(n.natAbs:Int)=n by omega];rfl
     ·rw [e]
      simp only [go_sem,ya,kF,show ¬(20:Int)<(u.length:Nat) by omega,show (0:Int)<(u.length:Nat) by omega,ll Aj,lQ,show ¬((b:Nat):Int)=45 by omega,dM,ei,dH,e1,show ¬(9:Int)<(K:Int) by omega,wrap64 (n:=(u.length:Int)-(K:Int)) (by omega) (by omega),show ¬(10:Int)<(u.length:Int)-(K:Int) by omega,fG,e2,show (K:Int)<(u.length:Int) by omega,wrapN (n:=K+1) (by omega),show (K:Int)+1=((K+1:Nat):Int) from rfl,rU,e3];rw [show (n.natAbs:Int)=n by omega];rfl
end
end
section
open Go (IntKind)
section
variable {P:aF} {L:Lib}
def J0 (h:Has P L 302 mD) {v:AV} {l:List Int} (hv:aX v l) (i:Nat):aj P L 302 [v,ab i] (ab (l.getD i 0)):=by
 unfold aj;rw [aR h];by_cases hi:i<l.length
 ·simp only [go_sem,ya,mD,hv.len,show (i:Int)<l.length by omega,hv.bt hi];simp [xD,xP hi]
 ·simp only [go_sem,ya,mD,hv.len,show ¬(i:Int)<l.length by omega];simp [xD,List.getElem?_eq_none (Nat.le_of_not_lt hi)]
def aeg {hp:Hp} {e:Bool} {n:Nat} {cs:List AV} {tm:Env} {h:Nat} {x:X} (hx:cR tm n (some x)=some h) (hh:h<=n):
  fu hp (.sl 1) (.aB e n cs) tm none (some x)=some (.aB (e&&Nat.beq h n) h (cs.take h)):=by
 simp only [fu,hx,ei];simp [yt hh,slice];rw [show yy 0 h=true from yt (tX _)];rfl
def pf (h:Has P L 300 iL) {v:AV} {l:List Int} (hv:aX v l) (hl:l.length<=20000000000):∃r,aj P L 300 [v] r/\aX r (cX l)/\shut r=r:=by
 rcases hv with ⟨rfl,h0⟩ | ⟨e,rfl⟩
 ·have:l=[]:=by simpa using h0
  subst this;refine ⟨.aa,?_,ni,rfl⟩;unfold aj;rw [aR h];simp only [go_sem,ya,iL,I3,qJ,aM,show ¬(0:Int)<0 by decide]
 ·have key:=dt (P:=P) (L:=L) (live:=[0]) (a:=qJ)
   (I:=fun k st=>∃(i:Nat) (e:Bool),st=⟨[(0,.aB e i ((l.take i).map ab))],[],0,0⟩/\i<=l.length/\i=k/\cX (l.take i)=cX l)
   (Q:=fun ex st=>∃tm ct,st=⟨tm,[],ct,0⟩/\ex= .exit 0/\∃i e,ah tm 0= .aB e i ((l.take i).map ab)/\i<=l.length/\l.take i=cX l) ?_
  ·have hlen:(l.map ab).length=l.length:=by simp
   rw [hlen];have rJ:∃i e',aj P L 300 [.aB e l.length (l.map ab)] (.aB e' i ((l.take i).map ab))/\i<=l.length/\l.take i=cX l:=by
    unfold aj;rw [aR h];simp only [go_sem,iL];generalize hq:D P L (.loop [0] qJ) _=q;obtain ⟨ex,st,rfl,tm,ct,rfl,rfl,i,e',h2,h3,h4⟩:=cW hq (key l.length) ⟨l.length,e,by simp only [go_sem,ya,aM,wK],yC _,rfl,by rw [wK]⟩;simp only [go_sem,aM,h2];exact ⟨i,e',rfl,h3,h4⟩
   obtain ⟨i,e',g1,g2,g3⟩:=rJ;refine ⟨_,g1,?_,rfl⟩;rw [<-g3]
   have:=gC e' (l.take i)
   rwa [List.length_take,xX g2] at this
  ·rintro k st ⟨i,e,rfl,hi,rfl,ht⟩
   cases i with
   | zero=>
    right
    simp only [go_sem,ya,qJ,show ¬(0:Int)<((0:Nat):Int) by omega];exact ⟨_,_,rfl,by simp,_,_,rfl,rfl,0,e,by simp only [go_sem,ya],tX _,by simpa [cX] using ht⟩
   | succ i=>
    have hi1:i<l.length:=by omega
    have jf:l.take (i+1)=l.take i++[l[i]]:=List.take_succ_eq_append_getElem hi1;have iR:um i ((l.take (i+1)).map ab)=[AV.int .i64 l[i]]:=by
     rw [jf,List.map_append,List.drop_left' (by simp;omega)];rfl
    have Gw:fw 1 i (.aB e (i+1) ((l.take (i+1)).map ab))=some (.ay [AV.int .i64 l[i]]):=by
     rw [Ef e _ (by omega),Nat.mul_one,iR]
    by_cases h0:l[i]=0
    ·left
     have pg:∀tm x,cR tm (i+1) (some x)=some i->fu [] (.sl 1) (.aB e (i+1) ((l.take (i+1)).map ab)) tm none (some x)=some (.aB (e&&Nat.beq i (i+1)) i ((l.take i).map ab)):=fun tm x hx=>by
      rw [aeg hx (by omega),<-List.map_take,List.take_take,xX (by omega)]
     simp only [go_sem,ya,qJ,show (0:Int)<((i+1:Nat):Int) by omega,show ((i+1:Nat):Int)-1=(i:Int) by omega,wrapN (n:=i) (by omega),Gw,h0,pg,dH];refine ⟨_,i,rfl,by omega,i,_,by simp only [go_sem,aM]<;>rfl,by omega,rfl,?_⟩
     rw [<-ht,jf,h0,AI]
    ·right
     simp only [go_sem,ya,qJ,show (0:Int)<((i+1:Nat):Int) by omega,show ((i+1:Nat):Int)-1=(i:Int) by omega,wrapN (n:=i) (by omega),Gw,h0];refine ⟨_,_,rfl,by simp,_,_,rfl,rfl,i+1,e,by simp only [go_sem,ya],by omega,?_⟩;rw [<-ht,jf,DB h0]
end
end
section
open Go (IntKind)
abbrev uc (n:Nat):AV:= .int .u64 (n:Int)
def dB (v:AV) (l:List Nat):Prop:=b4 v (l.map uc)
section
variable {v:AV} {l:List Nat}
def dB.len (h:dB v l) {hp:Hp}:fh hp 1 v=some (.int .i64 (l.length:Nat)):=by
 have:=b4.len (hp:=hp) h
 grind
def dB.pu (h:dB v l):aI v=true:=b4.pu h
def dB.aE (h:dB v l) (n:Nat) {hp:Hp}:freeze (n+1) hp v=some (v,hp):=b4.aE h n
def dB.shut (h:dB v l):VE.shut v=v:=b4.shut h
def dB.bW (h:dB v l):VE.bW v=v:=b4.bW h
def dB.dI (h:dB v l) {hp:Hp}:result hp v=some v:=b4.dI h
def dB.one (h:dB v l):cm v=true:=b4.one h
def dB.cells (h:dB v l):cellsOf v=[v]:=b4.cells h
def dB.bt (h:dB v l) {i:Nat} (hi:i<l.length):fw 1 i v=some (.ay (uc (l.getD i 0)::(l.map uc).drop (i+1))):=by
 have:=b4.bt h (i:=i) (by simpa using hi)
 grind
def aeh (e:Bool) (l:List Nat):dB (.aB e l.length (l.map uc)) l:=by
 have:=sQ e (l.map uc)
 rwa [yL] at this
def ab6:dB .aa []:=ni
end
section
variable {P:aF} {L:Lib} {f:b9}
def ais {a b:Nat} (h:a<b):yA a b=true:=by simp_all
end
end
end VE
