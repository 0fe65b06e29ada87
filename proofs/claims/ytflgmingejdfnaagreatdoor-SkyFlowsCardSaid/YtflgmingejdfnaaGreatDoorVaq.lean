import Derived.Test.YtflgmingejdfnaaGreatDoorVap
import Derived.Test.YtflgmingejdfnaaGreatDoorVao
import Derived.Test.YtflgmingejdfnaaGreatDoorVah
import Derived.Test.YtflgmingejdfnaaGreatDoorVal
set_option linter.all false
set_option maxRecDepth 100000
open Bool renaming and_eq_true→yf
open Go renaming IntKind→yU
open Int renaming ediv_emod_unique→uD,emod_lt_of_pos→wZ,emod_nonneg→wW,gcd→xX,gcd_dvd_left→uJ,gcd_dvd_right→uA,gcd_pos_of_ne_zero_right→uP,lt_tmod_of_pos→yal,mul_ediv_cancel'→tV,mul_nonneg→vW,natAbs_ediv_of_dvd→vP,reduceEq→tk,reduceLT→tF,tdiv_eq_ediv_of_dvd→tp,tmod_eq_emod_of_nonneg→xm,tmod_lt_of_pos→yak
open List renaming cons_append→y8,drop→xv,drop_eq_getElem_cons→yO,drop_eq_nil_of_le→xj,getD_eq_getElem?_getD→xM,getElem?_eq_getElem→wh,length_append→yQ,length_cons→yv,length_map→xx,length_nil→yF,length_take→yT,map_append→xq,map_take→yaS,range→xh,replicate→yA,take_length→wz,take_of_length_le→yL,take_succ_eq_append_getElem→wj
open Nat renaming beq→yr,ble→yE,ble_eq_true_of_le→yu,blt→yG,div_le_self→uy,gcd→wi,gcd_comm→um,gcd_rec→ybI,gcd_zero_right→yam,le_of_ble_eq_true→yt,le_refl→yD,min_eq_left→wE,mod_eq_of_lt→yP,mod_lt→xC,mul_one→yi,pow_le_pow_right→xn,pow_succ→xg,reduceAdd→yb,reduceEqDiff→ya,reduceLeDiff→yg,strongRecOn→vR,zero_add→yd,zero_le→tC
open Option renaming getD_some→vK
open Option.some renaming injEq→yc
namespace VE
section
open Go (IntKind)
section
variable {P:aK} {L:Lib}
def s3 (h:Has P L 3 c3) (Af:Has P L 30 BK) {v:AV} {s:List (List Int)} (hv:cK v s):ae P L 3 [v] (aa (fo s)):=by
 have inner:∀{i:Nat} (hi:i<s.length),s[i].length=s.length->s.length<=16->∀k st,(∃j:Nat,bH [0,3,4] st=⟨[(0,v),(3,aa i),(4,aa j)],[],0,0⟩/\j+k=s.length/\df (-1000) 1000 (s[i].drop j)=df (-1000) 1000 s[i])->
   ∃ex st',D P L (.loop [0,3,4] M1) st=some (ex,st')/\∃tm ct,st'=⟨tm,[],ct,0⟩/\((ex= .ret/\af tm 2=aa 3/\df (-1000) 1000 s[i]=true)\/(ex= .exit 2/\af tm 0=v/\af tm 3=aa i/\df (-1000) 1000 s[i]=false)):=by
  intro i hi hr hl
  refine cC (I:=fun k st=>∃j:Nat,st=⟨[(0,v),(3,aa i),(4,aa j)],[],0,0⟩/\j+k=s.length/\df (-1000) 1000 (s[i].drop j)=df (-1000) 1000 s[i])
   (Q:=fun ex st=>∃tm ct,st=⟨tm,[],ct,0⟩/\((ex= .ret/\af tm 2=aa 3/\df (-1000) 1000 s[i]=true)\/(ex= .exit 2/\af tm 0=v/\af tm 3=aa i/\df (-1000) 1000 s[i]=false))) ?_
  rintro k st ⟨j,rfl,hk,hf⟩;simp only [go_sem,ya,M1,hv.len];obtain ⟨r,rest,cw,fh⟩:=hv.bj hi;by_cases hj:j<s.length
  ·have qj:(j:Int)<s.length:=by omega
   have Vk:j<s[i].length:=by omega
   rw [ajV Vk] at hf;by_cases h1:s[i][j]< -1000\/1000<s[i][j]
   ·right
    rw [yJ h1] at hf;simp only [go_sem,ya,qj,fh,cw.bj Vk,s30 Af,h1,y7,tk];refine ⟨_,_,rfl,by simp,_,_,rfl,.inl ⟨rfl,?_,hf.symm⟩⟩;simp only [go_sem]
   ·left
    rw [yz h1] at hf;simp only [go_sem,ya,qj,fh,cw.bj Vk,s30 Af,h1,yR];refine ⟨_,k-1,rfl,by omega,j+1,?_,by omega,hf⟩;rw [wrap64 (by omega) (by omega)];simp only [go_sem,ya,aD,aM hv.pu,aQ _ hv.pu]<;>rfl
  ·right
   simp only [go_sem,show ¬(j:Int)<s.length by omega];refine ⟨_,_,rfl,by simp,_,_,rfl,.inr ⟨rfl,?_,?_,?_⟩⟩
   ·simp only [go_sem,ya]
   ·simp only [go_sem,ya]
   ·rw [<-hf,xj (by omega)];rfl
 have key:=cC (P:=P) (L:=L) (live:=[0,3]) (a:=M2)
  (I:=fun k st=>∃i:Nat,st=⟨[(0,v),(3,aa i)],[],0,0⟩/\i+k=s.length/\s.length<=16/\eR s.length (-1000) 1000 (s.drop i)=eR s.length (-1000) 1000 s)
  (Q:=fun ex st=>∃tm ct,st=⟨tm,[],ct,0⟩/\((ex= .ret/\af tm 2=aa (eR s.length (-1000) 1000 s))\/(ex= .exit 0/\eR s.length (-1000) 1000 s=0))) ?_
 ·unfold ae;rw [av h];unfold fo;by_cases h1:s.length=0
  ·simp only [go_sem,ya,c3,hv.len,show (s.length:Int)=0 by omega];rw [yJ h1]
  ·rw [yz h1];by_cases h2:16<s.length
   ·simp only [go_sem,ya,c3,hv.len,show ¬(s.length:Int)=0 by omega,show (16:Int)<s.length by omega];rw [yJ h2]
   ·simp only [go_sem,ya,c3,hv.len,show ¬(s.length:Int)=0 by omega,show ¬(16:Int)<s.length by omega];rw [yz h2];generalize hq:D P L (.loop [0,3] M2) _=q;obtain ⟨ex,st,rfl,tm,ct,rfl,h2⟩:=cd hq (key s.length) ⟨0,by simp only [go_sem,ya,aD,aM hv.pu,aQ _ hv.pu]<;>rfl,by omega,by omega,rfl⟩
    rcases h2 with ⟨rfl,h2⟩ | ⟨rfl,h2⟩
    ·simp only [go_sem,h2]
    ·rw [h2];simp only [go_sem]
 ·rintro k st ⟨i,rfl,hk,hl,hf⟩;simp only [go_sem,ya,M2,hv.len];by_cases hi:i<s.length
  ·have cz:(i:Int)<s.length:=by omega
   rw [X4 hi] at hf;obtain ⟨r,rest,cw,fh⟩:=hv.bj hi;by_cases h1:s[i].length=s.length
   ·simp only [h1,tB,wO,yR] at hf;simp only [go_sem,ya,cz,fh,cw.len,hv.len,show (s[i].length:Int)=s.length by omega];generalize hq:D P L (.loop [0,3,4] M1) _=q;obtain ⟨ex,st,rfl,tm,ct,rfl,h2⟩:=cd hq (inner hi h1 hl s.length) ⟨0,by simp only [go_sem,ya,aD,aM hv.pu,aQ _ hv.pu]<;>rfl,by omega,rfl⟩
    rcases h2 with ⟨rfl,h2,h3⟩ | ⟨rfl,h2,h3,h4⟩
    ·right
     rw [yJ h3] at hf;exact ⟨_,_,rfl,by simp,_,_,rfl,.inl ⟨rfl,by rw [h2,<-hf]⟩⟩
    ·left
     rw [yz (by simp [h4])] at hf;simp only [go_sem,ya,aD,h2,h3,aM hv.pu,aQ _ hv.pu];refine ⟨_,k-1,rfl,by omega,i+1,?_,by omega,hl,hf⟩;rw [wrap64 (by omega) (by omega)];simp only [go_sem,ya,aD,aM hv.pu,aQ _ hv.pu]<;>rfl
   ·right
    simp only [h1,tB,td,y7] at hf;simp only [go_sem,ya,cz,fh,cw.len,hv.len,show ¬(s[i].length:Int)=s.length by omega];refine ⟨_,_,rfl,by simp,_,_,rfl,.inl ⟨rfl,?_⟩⟩;simp only [go_sem,<-hf]
  ·right
   simp only [go_sem,show ¬(i:Int)<s.length by omega];refine ⟨_,_,rfl,by simp,_,_,rfl,.inr ⟨rfl,?_⟩⟩;rw [<-hf,xj (by omega)];rfl
end
end
section
open Go (IntKind)
section
variable {P:aK} {L:Lib}
def s37 (h:Has P L 37 Ow) (J7:Has P L 38 JS) {v:AV} {l:List Int} (hv:bq v l) (hl:l.length<=33) (ho:df 0 1000 l=false):ae P L 37 [aa 0,v,.fn (.f 38) [] []] (aa (dG l)):=by
 have key:=cC (P:=P) (L:=L) (live:=[0,2,9,10,11]) (a:=Mx)
  (I:=fun k st=>∃i:Nat,st=⟨[(0,aa (dG (l.take i))),(2,.fn (.f 38) [] []),(9,v),(10,aa l.length),(11,aa i)],[],0,0⟩/\i+k=l.length)
  (Q:=fun ex st=>∃tm ct,st=⟨tm,[],ct,0⟩/\ex= .exit 0/\af tm 0=aa (dG l)) ?_
 ·unfold ae;rw [av h];simp only [go_sem,ya,Ow,hv.len];generalize hq:D P L (.loop [0,2,9,10,11] Mx) _=q;obtain ⟨ex,st,rfl,tm,ct,rfl,rfl,h2⟩:=cd hq (key l.length) ⟨0,by simp only [go_sem,ya,aD,aM hv.pu,aQ _ hv.pu]<;>rfl,by omega⟩
  simp only [go_sem,aD,h2]
 ·rintro k st ⟨i,rfl,hk⟩;simp only [go_sem,ya,Mx];by_cases hi:i<l.length
  ·have cz:(i:Int)<l.length:=by omega
   left
   have hb:=KW (Qd ho i);have ht:(l.take i).length=i:=by rw [yT];omega
   have hg:=Hu ho i hi
   simp only [go_sem,ya,cz,hv.bj hi,s38 J7,wrap64 (n:=dG (l.take i)+l[i]) (by omega) (by omega)];refine ⟨_,k-1,rfl,by omega,i+1,?_,by omega⟩;rw [wrap64 (by omega) (by omega),Cb hi];simp only [go_sem,ya,aD,aM hv.pu,aQ _ hv.pu]<;>rfl
  ·right
   simp only [go_sem,show ¬(i:Int)<l.length by omega];refine ⟨_,_,rfl,by simp,_,_,rfl,rfl,?_⟩;simp only [go_sem,ya];rw [yL (by omega)]
def YY {l:List Int} {f:Int->Int} {i:Nat} (h:i<l.length):((l.take (i+1)).map f).map aa=((l.take i).map f).map aa++[AV.int .i64 (f l[i])]:=by
 rw [wj h,xq,xq];rfl
def s35 (h:Has P L 35 Ou) {v:AV} {l:List Int} (hv:bq v l) (hl:l.length<=1000000) {g:Nat} {f:Int->Int} (hg:∀x,ae P L g [aa x] (aa (f x))):
  ∃r,ae P L 35 [v,.fn (.f g) [] []] r/\bq (shut r) (l.map f):=by
 have key:=cC (P:=P) (L:=L) (live:=[1,5,8,9,10]) (a:=CE)
  (I:=fun k st=>∃i:Nat,i+k=l.length/\((i=0/\st=⟨[(1,.fn (.f g) [] []),(5,.ab),(8,v),(9,aa l.length),(10,aa i)],[],0,0⟩)\/
   (0<i/\st=⟨[(1,.fn (.f g) [] []),(5,.ak 0 0 i),(8,v),(9,aa l.length),(10,aa i)],[(0,.cells true true false 1 (((l.take i).map f).map aa))],1,0⟩)))
  (Q:=fun ex st=>∃tm hp ct,st=⟨tm,hp,ct,0⟩/\ex= .exit 0/\((l.length=0/\af tm 5= .ab)\/(0<l.length/\af tm 5= .ak 0 0 l.length/\ap hp 0=some (.cells true true false 1 ((l.map f).map aa))))) ?_
 ·unfold ae;rw [av h];simp only [go_sem,ya,Ou,hv.len];generalize hq:D P L (.loop [1,5,8,9,10] CE) _=q;obtain ⟨ex,st,rfl,tm,hp,ct,rfl,rfl,h2⟩:=cd hq (key l.length) ⟨0,by omega,.inl ⟨rfl,by simp only [go_sem,ya,aD,aM hv.pu,aQ _ hv.pu]<;>rfl⟩⟩
  rcases h2 with ⟨h2,h3⟩ | ⟨h2,h3,h4⟩
  ·refine ⟨.ab,by simp only [go_sem,aD,h3],?_⟩;rw [List.eq_nil_of_length_eq_zero h2];exact qV
  ·refine ⟨.cG false 1 l.length ((l.map f).map aa),?_,?_⟩
   ·simp only [go_sem,yb,aD,h3,h4];exact PP (Hx _ _ _) (by simp) (by decide)
   ·have:=fN false (l.map f)
    rwa [xx] at this
 ·rintro k st ⟨i,hk,bf⟩;by_cases hi:i<l.length
  ·have cz:(i:Int)<l.length:=by omega
   left
   rcases bf with ⟨h0,rfl⟩ | ⟨h0,rfl⟩
   ·subst h0;simp only [go_sem,ya,yb,Nat.reduceMul,Nat.reduceLT,yg,yi,CE,show ((0:Nat):Int)<l.length from cz,hv.bj hi,hg,lY];refine ⟨_,k-1,rfl,by omega,1,by omega,.inr ⟨by omega,?_⟩⟩;rw [wrap64 (by omega) (by omega),YY hi];simp only [go_sem,ya,yb,aD,aM hv.pu,aQ _ hv.pu]<;>rfl
   ·have hlen:(((l.take i).map f).map aa).length=i:=by simp;omega
    simp only [go_sem,ya,yb,yg,yi,CE,cz,hv.bj hi,hg]
    rw [lk (ex:=false) (pu:=true) (cs:=((l.take i).map f).map aa) (by simp only [go_sem,ya]) (by rw [hlen,yi]) (by omega) (by omega) (by decide) (by simp only [go_sem])];simp only [go_sem,ya,yb];refine ⟨_,k-1,rfl,by omega,i+1,by omega,.inr ⟨by omega,?_⟩⟩;rw [wrap64 (by omega) (by omega),YY hi];simp only [go_sem,ya,yb,aD,aM hv.pu,aQ _ hv.pu]<;>rfl
  ·right
   rcases bf with ⟨h0,rfl⟩ | ⟨h0,rfl⟩
   ·simp only [go_sem,ya,CE,show ¬(i:Int)<l.length by omega];refine ⟨_,_,rfl,by simp,_,_,_,rfl,rfl,.inl ⟨by omega,?_⟩⟩;simp only [go_sem,ya]
   ·simp only [go_sem,ya,CE,show ¬(i:Int)<l.length by omega];refine ⟨_,_,rfl,by simp,_,_,_,rfl,rfl,.inr ⟨by omega,?_,?_⟩⟩
    ·simp only [go_sem,ya];rw [show i=l.length by omega]
    ·simp only [go_sem];rw [yL (by omega)]
end
end
section
def Ag (n:Nat) (f:Nat->Nat->Int):List (List Int):=(xh n).map fun r=>(xh n).map fun c=>f c r
def sQ (n:Nat) (f:Nat->Nat->Int):(Ag n f).length=n:=by simp [Ag]
def LV {n:Nat} {f:Nat->Nat->Int} {r:Nat} (h:r<n):(Ag n f)[r]'(by rw [sQ];exact h)=(xh n).map fun c=>f c r:=by simp [Ag]
def mU (x:Int):Int:=(39373*x)%2147483647
def A4 (x:Int):Nat->Int
 | 0=>x
 | k+1=>mU (A4 x k)
def Xx (x:Int):0<=mU x/\mU x<=2147483646:=by
 unfold mU;omega
def aid {key:Int} (h:0<=key/\key<=2147483646):∀k,0<=A4 key k/\A4 key k<=2147483646
 | 0=>h
 | k+1=>Xx _
def oL:List Int->Int->Nat
 | [],_=>0
 | w::r,t=>if t<w then 0 else 1+oL r (t-w)
def aiY {w:List Int} {t:Int}:∀k,k<w.length->(∀j,j<k->dG (w.take (j+1))<=t)->oL w t=k+oL (w.drop k) (t-dG (w.take k)):=by
 intro k
 induction k with
 | zero=>intro _ _;simp [dG]
 | succ k ih=>
  intro hk h;have h1:=ih (by omega) (fun j hj=>h j (by omega));have pk:k<w.length:=by omega
  have h2:=h k (by omega);rw [Cb pk] at h2;rw [h1,yO pk,oL,yz (by omega),Cb pk,show t-dG (w.take k)-w[k]=t-(dG (w.take k)+w[k]) by omega];omega
def amM {w:List Int} {t:Int} {k:Nat} (hk:k<w.length) (h:∀j,j<k->dG (w.take (j+1))<=t) (ht:t<dG (w.take (k+1))):oL w t=k:=by
 rw [aiY k hk h,yO hk,oL,yJ (by rw [Cb hk] at ht;omega)];omega
def amN {w:List Int}:∀{t:Int},t<dG w->0<=t->oL w t<w.length:=by
 induction w with
 | nil=>intro t h h0;simp [dG] at h;omega
 | cons a r ih=>
  intro t h h0;simp only [oL,yv]
  split
  ·omega
  ·have:=ih (t:=t-a) (by simp only [dG] at h;omega) (by omega)
   omega
def Mf (key:Int) (w:List Int) (k:Nat):Int:=(oL w (A4 key (k+1)%dG w):Int)-(w.length/2:Nat)
def jB (f:Nat->Int):Nat->Int
 | 0=>0
 | n+1=>jB f n+f n
def PQ {f:Nat->Int} {b:Int} (h:∀k,-b<=f k/\f k<=b):∀n:Nat,-(b*n)<=jB f n/\jB f n<=b*n
 | 0=>by simp [jB]
 | n+1=>by
  have h1:=PQ h n;have h2:=h n;have e:b*((n+1:Nat):Int)=b*n+b:=by grind
  simp only [jB,e];omega
def kv (k:List (List Int)) (j i:Nat):Int:=(k.getD j []).getD i 0
def sR (s k:List (List Int)) (c r:Nat):Int:=
 jB (fun j=>jB (fun i=>kv k j i*dE s ((c:Int)+i-(k.length/2:Nat)) ((r:Int)+j-(k.length/2:Nat))) k.length) k.length
def X9 {lo hi:Int} {l:List Int} (h:df lo hi l=false) (h0:lo<=0/\0<=hi) (i:Nat):lo<=l.getD i 0/\l.getD i 0<=hi:=by
 by_cases hl:i<l.length
 ·have:=Hu h i hl
  grind
 ·grind
def amO {n:Nat} {lo hi:Int} {k:List (List Int)} (h:eR n lo hi k=0) (h0:lo<=0/\0<=hi) (j i:Nat):lo<=kv k j i/\kv k j i<=hi:=by
 unfold kv;by_cases hl:j<k.length
 ·have:=DP h j hl
  simp only [xM,wh hl,vK];exact X9 this.2 h0 i
 ·grind
def KG {n:Nat} {lo hi:Int} {s:List (List Int)} (h:eR n lo hi s=0) (h0:lo<=0/\0<=hi) (c r:Int):lo<=dE s c r/\dE s c r<=hi:=by
 unfold dE;by_cases hl:(r%s.length).toNat<s.length
 ·have:=DP h _ hl
  simp only [xM,wh hl,vK];exact X9 this.2 h0 _
 ·grind
end
section
open Go (IntKind)
section
variable {P:aK} {L:Lib}
def qS {k:yU} {n:Int} (h:0<=n):dV (.int k n)=some n.toNat:=by
 cases n with
 | ofNat n=>rfl
 | negSucc n=>exact absurd h (by simp)
def QF {s:List (List Int)} {n:Nat} (hn:s.length=n) (h0:0<n) (hr:∀i (hi:i<s.length),s[i].length=n) (c r:Int):
  ∃(h1:(r%n).toNat<s.length) (h2:(c%n).toNat<(s[(r%n).toNat]'h1).length),dE s c r=(s[(r%n).toNat]'h1)[(c%n).toNat]'h2:=by
 have a2:=wZ r (show (0:Int)<n by omega);have b2:=wZ c (show (0:Int)<n by omega);unfold dE
 grind
def s97 (h:Has P L 97 OH) (rF:Has P L 134 CP) {v:AV} {s:List (List Int)} (hv:cK v s) {n:Nat} (hn:s.length=n) (h0:0<n) (hl:n<=1000000) (hr:∀i (hi:i<s.length),s[i].length=n) (c r:Int):
  ae P L 97 [v,aa c,aa r] (aa (dE s c r)):=by
 obtain ⟨h1,h2,h3⟩:=QF hn h0 hr c r;have a1:=wW r (show (n:Int)≠0 by omega);have b1:=wW c (show (n:Int)≠0 by omega);obtain ⟨q,rest,eG,nk⟩:=hv.bj h1;have e1:=NE rF (n:=r) (m:=(s.length:Int)) (by omega) (by omega);have e2:=NE rF (n:=c) (m:=(s.length:Int)) (by omega) (by omega);rw [hn] at e1 e2;unfold ae at e1 e2 ⊢;rw [av h];simp only [go_sem,ya,OH,hv.len,hn,e1,e2,qS a1,qS b1,nk,eG.bj h2,h3]
end
end
section
open Go (IntKind)
section
variable {P:aK} {L:Lib}
def bg (k id o:Nat):Es k (.ptr id o)=some (.ptr id (o+k)):=rfl
def bY {α:Type} (a:α) (l:List α):xv 1 (a::l)=l:=rfl
def atf {α:Type} (a b:α) (l:List α):xv 2 (a::b::l)=l:=rfl
def aeu {α:Type} (a b c:α) (l:List α):xv 3 (a::b::c::l)=l:=rfl
def aiZ (x:Int) (k:Nat):A4 x (k+1)=mU (A4 x k):=rfl
def nG (s k:List (List Int)) (c r:Nat) (j i:Nat):Int:=kv k j i*dE s ((c:Int)+i-(k.length/2:Nat)) ((r:Int)+j-(k.length/2:Nat))
def ai0 (s k:List (List Int)) (c r:Nat):sR s k c r=jB (fun j=>jB (nG s k c r j) k.length) k.length:=rfl
def akx {a b x y:Int} (h1: -a<=x/\x<=a) (h2: -b<=y/\y<=b): -(a*b)<=x*y/\x*y<=a*b:=by
 have p1:=vW (show 0<=a-x by omega) (show 0<=b-y by omega);have p2:=vW (show 0<=a+x by omega) (show 0<=b+y by omega);have p3:=vW (show 0<=a-x by omega) (show 0<=b+y by omega);have p4:=vW (show 0<=a+x by omega) (show 0<=b-y by omega)
 grind
def Xy {s k:List (List Int)} {n m:Nat} (hs:eR n (-1000) 1000 s=0) (hk:eR m (-100) 100 k=0) (c r j i:Nat): -100000<=nG s k c r j i/\nG s k c r j i<=100000:=
 akx (amO hk (by decide) j i) (KG hs (by decide) _ _)
def Xz {s k:List (List Int)} {n m:Nat} (hs:eR n (-1000) 1000 s=0) (hk:eR m (-100) 100 k=0) (c r j:Nat) (i:Nat): -(100000*i)<=jB (nG s k c r j) i/\jB (nG s k c r j) i<=100000*i:=
 PQ (fun i=>Xy hs hk c r j i) i
def RF {k:List (List Int)} {j i:Nat} (hj:j<k.length) (hi:i<k[j].length):k[j][i]=kv k j i:=by
 unfold kv
 grind
def Si (s k:List (List Int)) (r:Nat) (c:Nat):List Int:=(xh c).map fun c=>sR s k c r
def aky (s k:List (List Int)) (r c:Nat):(Si s k r c).length=c:=by simp [Si]
def Mg (s k:List (List Int)) (n:Nat) (r:Nat):List (List Int):=(xh r).map fun r=>Si s k r n
def Jc:List (List Int)->Bool
 | []=>false
 | l::r=>df (-1000) 1000 l||Jc r
end
end
section
open Go (IntKind)
section
variable {P:aK} {L:Lib}
abbrev Nm (n:Int):AV:= .agg [aa n,.ab]
def iX (hp:Hp) (ct id:Nat) (a:Int) (x y:AV):fy hp ct id 0 2 [.int .i64 a,.ab] (some (.cells true true true 2 [x,y]))=some (.aq [],aY hp id (.cells true true true 2 [.int .i64 a,.ab]),ct):=rfl
def HO (hp:Hp):im .sl .ab .ab=some true:=rfl
def dw (b:Bool):I9 false (some b)=some (.bool b):=by cases b<;>rfl
def RG (f:cJ) (tm:Env) (hp:Hp) (ct:Nat) (x y:X):bt P L f tm hp ct (.mn [x,y])=rd hp ct (min2 (az tm x) (az tm y)):=by
 simp only [bt,rd,bC,dD,AX]
 grind
def El (f:cJ) (tm:Env) (hp:Hp) (ct:Nat) (x y:X):bt P L f tm hp ct (.mx [x,y])=rd hp ct (max2 (az tm x) (az tm y)):=by
 simp only [bt,rd,bC,dD,AX]
 grind
def QG (k k':yU) (x y:Int):min2 (.int k x) (.int k' y)=some (.int k (if y<x then y else x)):=rfl
def DT (k k':yU) (x y:Int):max2 (.int k x) (.int k' y)=some (.int k (if y>x then y else x)):=rfl
def bZ (n:Int):Int:=if n<0 then -1 else if n=0 then 0 else 1
def acM (n:Int):(if (if n<1 then n else 1)> -1 then (if n<1 then n else 1) else -1)=bZ n:=by
 unfold bZ
 grind
def n117 (h:Has P L 117 Na) (n:Int):ae P L 117 [aa n] (Nm n):=by
 unfold ae;rw [av h];simp only [go_sem,ya,yb,yg,Na,aH,yd,iX];rfl
def n147 (h:Has P L 147 rz) {n:Int} (hn: -9223372036854775808<n/\n<9223372036854775808):ae P L 147 [Nm n] (Nm (-n)):=by
 unfold ae;rw [av h]
 simp only [go_sem,ya,yb,yg,rz,aH,iX,HO,dw,bg,yd,bY,show ¬n= -9223372036854775808 by omega,wrap64 (n:=0-n) (by omega) (by omega)];simp only [Int.zero_sub];rfl
def n146 (h:Has P L 146 zx) (n:Int):ae P L 146 [Nm n] (aa (bZ n)):=by
 unfold ae;rw [av h];simp only [go_sem,ya,yb,zx,aH,bg,yd,RG,El,QG,DT,acM]
def oM (hp:Hp) (p q:Bool):im .b (.bool p) (.bool q)=some (p==q):=rfl
end
end
section
open Go (IntKind)
section
variable {P:aK} {L:Lib}
def iS {n:Nat} {sp:List AV->Option AV} (h:L.pure n=some sp) {f:cJ} (vals:List AV):bR P L f n vals=sp vals:=by simp only [bR,h]
abbrev U64 (n:Int):AV:= .int .u64 n
def atg {n:Int} (h1:0<=n) (h2:n<18446744073709551616):IntKind.wrap .u64 n=n:=by
 simp only [IntKind.wrap,IntKind.signed,IntKind.bits]
 grind
def acN (n:Int):mY (.toInt .u64) (aa n)=some (U64 (IntKind.wrap .u64 n)):=rfl
def Mh (n:Int):mY (.toInt .i64) (U64 n)=some (aa (IntKind.wrap .i64 n)):=rfl
def Ij (b:Bool):I9 true (some b)=some (.bool (!b)):=by cases b<;>rfl
def aro (a b c d:AV):over 0 [a,b] [c,d]=[a,b]:=rfl
def bW (a b:AV) (r:List AV):eX 2 true (a::b::r)=some (.agg [a,b]):=rfl
def gM (a b c d:AV) (r:List AV):eX 4 true (a::b::c::d::r)=some (.agg [a,b,c,d]):=rfl
def n163 (h:Has P L 163 zy) (rG:Has P L 147 rz) {n:Int} (hn: -9223372036854775808<n/\n<9223372036854775808):ae P L 163 [Nm n] (Nm n.natAbs):=by
 have e1:=n147 rG hn;unfold ae at e1 ⊢;rw [av h];by_cases h0:n<0
 ·simp only [go_sem,ya,yb,zy,aH,iX,bg,yd,h0,bW,bk,e1];rw [show -n=(n.natAbs:Int) by omega];rfl
 ·simp only [go_sem,ya,yb,zy,aH,iX,bg,yd,h0,bW];rw [show ((n.natAbs:Nat):Int)=n by omega];rfl
def YZ {a b:Int} (hb:0<b):(a.tmod b<0->a/b=a.tdiv b-1/\a%b=a.tmod b+b)/\(¬a.tmod b<0->a/b=a.tdiv b/\a%b=a.tmod b):=by
 have h1:=Int.mul_tdiv_add_tmod a b;have h2:a.tmod b<b:=yak a hb;have h3: -b<a.tmod b:=yal a hb;refine ⟨fun h=>(uD hb).2 ⟨?_,?_,?_⟩,fun h=>(uD hb).2 ⟨?_,?_,?_⟩⟩
 ·grind
 ·omega
 ·omega
 ·omega
 ·omega
 ·omega
def n164 (h:Has P L 164 ir) {a b:Int} (ha: -4611686018427387904<a/\a<4611686018427387904) (hb:0<b/\b<4611686018427387904):ae P L 164 [Nm a,Nm b] (.aq [Nm (a/b),Nm (a%b)]):=by
 obtain ⟨f1,f2⟩:=YZ (a:=a) hb.1;have hq: -4611686018427387904<a.tdiv b/\a.tdiv b<4611686018427387904:=by
  have:=Int.natAbs_tdiv_le_natAbs a b
  omega
 have hr: -4611686018427387904<a.tmod b/\a.tmod b<4611686018427387904:=by
  have:=yak a hb.1
  have:=yal a hb.1
  omega
 unfold ae;rw [av h];by_cases h0:a.tmod b<0
 ·obtain ⟨g1,g2⟩:=f1 h0;rw [g1,g2]
  simp only [go_sem,ya,yb,yg,ir,aH,iX,HO,dw,bg,yd,bY,show ¬a= -9223372036854775808 by omega,fq _ _ _ (show b≠0 by omega),eD _ _ _ (show b≠0 by omega),h0,wrap64 (n:=a.tdiv b) (by omega) (by omega),wrap64 (n:=a.tdiv b-1) (by omega) (by omega),wrap64 (n:=a.tmod b+b) (by omega) (by omega)];rfl
 ·obtain ⟨g1,g2⟩:=f2 h0;rw [g1,g2]
  simp only [go_sem,ya,yb,yg,ir,aH,iX,HO,dw,bg,yd,bY,show ¬a= -9223372036854775808 by omega,fq _ _ _ (show b≠0 by omega),eD _ _ _ (show b≠0 by omega),h0,wrap64 (n:=a.tdiv b) (by omega) (by omega)];rfl
def n148 (h:Has P L 148 EP) (oR:Has P L 146 zx) (nJ:Has P L 164 ir) {a b:Int} (ha: -4611686018427387904<a/\a<4611686018427387904) (hb:0<b/\b<4611686018427387904):ae P L 148 [Nm a,Nm b] (Nm (a/b)):=by
 have e1:=n146 oR b;have e2:=n164 nJ ha hb;have e3:bZ b=1:=by unfold bZ;rw [yz (by omega),yz (by omega)]
 rw [e3] at e1;unfold ae at e1 e2 ⊢;rw [av h];simp only [go_sem,ya,yb,EP,tF,yp,aH,iX,yd,bW,bk,e1,e2,AB];rfl
def ZX (a b:Nat) (hb:b≠0):wi b (a%b)=wi a b:=by
 rw [um b,<-ybI,um]
def arp (oR:Has P L 146 zx) (nJ:Has P L 164 ir) (G:Nat):
  ∀k s,(∃x y:Nat,bH [2,3,4] s=⟨[(2,.ptr 0 0),(3,.ptr 1 0),(4,.ptr 2 0)],[(2,.cells true true true 2 [aa 0,.ab]),(1,.cells true true true 2 [aa y,.ab]),(0,.cells true true true 2 [aa x,.ab])],3,0⟩/\x<4611686018427387904/\y<4611686018427387904/\wi x y=G/\y=k)->
   ∃ex s',D P L (.loop [2,3,4] sX) s=some (ex,s')/\∃tm,s'=⟨tm,[(2,.cells true true true 2 [aa 0,.ab]),(1,.cells true true true 2 [aa 0,.ab]),(0,.cells true true true 2 [aa G,.ab])],3,0⟩/\ex= .exit 0/\af tm 2= .ptr 0 0/\af tm 4= .ptr 2 0:=by
 refine cC (I:=fun k s=>∃x y:Nat,s=⟨[(2,.ptr 0 0),(3,.ptr 1 0),(4,.ptr 2 0)],[(2,.cells true true true 2 [aa 0,.ab]),(1,.cells true true true 2 [aa y,.ab]),(0,.cells true true true 2 [aa x,.ab])],3,0⟩/\x<4611686018427387904/\y<4611686018427387904/\wi x y=G/\y=k)
  (Q:=fun ex s'=>∃tm,s'=⟨tm,[(2,.cells true true true 2 [aa 0,.ab]),(1,.cells true true true 2 [aa 0,.ab]),(0,.cells true true true 2 [aa G,.ab])],3,0⟩/\ex= .exit 0/\af tm 2= .ptr 0 0/\af tm 4= .ptr 2 0) ?_
 rintro k s ⟨x,y,rfl,hx,hy,hG,rfl⟩;have e1:=n146 oR (y:Int);by_cases iD:y=0
 ·right
  subst iD;have e3:bZ ((0:Nat):Int)=0:=rfl;rw [e3] at e1;simp only [go_sem,ya,sX,yq,Bool.not_true,bW,bk,e1];obtain rfl:x=G:=by rw [<-hG,yam]
  exact ⟨_,_,rfl,by simp,_,rfl,rfl,by simp only [go_sem,ya],by simp only [go_sem,ya]⟩
 ·left
  have e3:bZ (y:Int)=1:=by unfold bZ;rw [yz (by omega),yz (by omega)]
  rw [e3] at e1;have e2:=n164 nJ (a:=x) (b:=y) (by omega) (by omega);rw [show ((x:Int)%(y:Int))=((x%y:Nat):Int) from rfl] at e2;have bi:=xC x (show 0<y by omega);simp only [go_sem,ya,yb,sX,tk,yp,Bool.not_false,aH,iX,bW,bk,e1,e2,AB];refine ⟨_,x%y,rfl,bi,y,x%y,?_,hy,by omega,by rw [<-hG];exact ZX x y iD,rfl⟩
  simp only [go_sem,ya,yb,aD,aro,Bool.true_and]
def n130 (h:Has P L 130 EN) (CU:Has P L 163 zy) (rG:Has P L 147 rz) (oR:Has P L 146 zx) (nJ:Has P L 164 ir) {a b:Int} (ha: -4611686018427387904<a/\a<4611686018427387904) (hb: -4611686018427387904<b/\b<4611686018427387904):ae P L 130 [Nm a,Nm b] (Nm (xX a b:Nat)):=by
 have e1:=n163 CU rG (n:=a) (by omega);have e2:=n163 CU rG (n:=b) (by omega);unfold ae at e1 e2 ⊢;rw [av h];simp only [go_sem,ya,yb,EN,aH,iX,bW,bk,e1,e2,bE,yd];generalize hq:D P L (.loop [2,3,4] sX) _=q;obtain ⟨ex,s,rfl,tm,rfl,rfl,h2,h4⟩:=cd hq (arp (P:=P) (L:=L) oR nJ (xX a b) b.natAbs) ⟨a.natAbs,b.natAbs,by simp only [go_sem,ya,yb,aD],by omega,by omega,rfl,rfl⟩;simp only [go_sem,ya,yb,aD,h2,h4,iX,bW];rfl
abbrev Fq (n d:Int):AV:= .agg [aa n,.ab,aa d,.ab]
def acO (hp:Hp) (ct id:Nat) (a b:Int) (x y z w:AV):fy hp ct id 0 4 [.int .i64 a,.ab,.int .i64 b,.ab] (some (.cells true true true 4 [x,y,z,w]))=some (.aq [],aY hp id (.cells true true true 4 [.int .i64 a,.ab,.int .i64 b,.ab]),ct):=rfl
def acP (tm:Env) (x y z w:AV) (a:Int) (r:List (Nat×Nat×X)):hJ tm [x,y,z,w] 0 2 [.int .i64 a,.ab] r=fill tm [.int .i64 a,.ab,z,w] r:=rfl
def acQ (tm:Env) (x y z w:AV) (a:Int) (r:List (Nat×Nat×X)):hJ tm [x,y,z,w] 2 2 [.int .i64 a,.ab] r=fill tm [x,y,.int .i64 a,.ab] r:=rfl
def n101 (h:Has P L 101 kP) (NH:Has P L 148 EP) (S9:Has P L 130 EN) (CU:Has P L 163 zy) (rG:Has P L 147 rz) (oR:Has P L 146 zx) (nJ:Has P L 164 ir) {a b:Int} (ha: -4611686018427387904<a/\a<4611686018427387904) (hb:0<b/\b<4611686018427387904):
  ae P L 101 [Nm a,Nm b] (Fq (a/(xX a b:Nat)) (b/(xX a b:Nat))):=by
 have e1:=n146 oR b;have e3:bZ b=1:=by unfold bZ;rw [yz (by omega),yz (by omega)]
 rw [e3] at e1;have e2:=n130 S9 CU rG oR nJ ha (b:=b) (by omega);have hg:(0:Int)<(xX a b:Nat):=by
  have:=uP a (show b≠0 by omega)
  omega
 have mE:((xX a b:Nat):Int)<4611686018427387904:=by
  have:=Int.gcd_le_natAbs_right a (show b≠0 by omega)
  omega
 have e4:=n148 NH oR nJ ha (b:=(xX a b:Nat)) ⟨hg,mE⟩;have e5:=n148 NH oR nJ (a:=b) (b:=(xX a b:Nat)) (by omega) ⟨hg,mE⟩;unfold ae at e1 e2 e4 e5 ⊢;rw [av h];by_cases jG:b=1
 ·subst jG;rw [Int.gcd_one];simp only [go_sem,ya,yb,kP,tF,yp,yq,aH,acO,bW,bk,e1,bg,yd,bY,HO,dw,acP,acQ];rw [show a/((1:Nat):Int)=a from Int.ediv_one a];rfl
 ·simp only [go_sem,ya,yb,kP,tF,yp,aH,iX,acO,bW,bk,e1,bg,yd,bY,HO,dw,jG,e2,e4,e5,bE,acP,acQ];rfl
end
end
section
def dh (a b:Int):Int:=a/(xX a b:Nat)
def dl (a b:Int):Int:=b/(xX a b:Nat)
def HP {a b:Int} (hb:0<b):(0:Int)<(xX a b:Nat):=by
 have:=uP a (show b≠0 by omega)
 omega
def acR (a b:Int):a=(xX a b:Nat)*dh a b:=(tV (uJ a b)).symm
def acS (a b:Int):b=(xX a b:Nat)*dl a b:=(tV (uA a b)).symm
def Hz {a b:Int} (hb:0<b):0<dl a b:=by
 have h1:=HP (a:=a) hb;have h2:=acS a b;rcases Int.lt_trichotomy (dl a b) 0 with h | h | h
 ·have:=Int.mul_neg_of_pos_of_neg h1 h;omega
 ·grind
 ·exact h
def QH (a b:Int):(dh a b).natAbs<=a.natAbs:=by
 unfold dh;rw [vP (uJ a b)];exact uy _ _
def QI (a b:Int):(dl a b).natAbs<=b.natAbs:=by
 unfold dl;rw [vP (uA a b)];exact uy _ _
def oS (a b:Int):List Nat:=if dl a b=1 then aW (dh a b) else aW (dh a b)++[47]++aW (dl a b)
end
section
def aev {a b:Nat} (h:¬a<b):yG a b=false:=by
 cases hb:yG a b with
 | false=>rfl
 | true=>exact absurd (yt hb) (by omega)
def Q6:∀(f n:Nat) (acc:List Nat),n<f->mK f n acc=mK f n []++acc
 | 0,_,_,h=>by omega
 | f+1,n,acc,h=>by
  simp only [mK];by_cases h1:n<10
  ·rw [show yG n 10=true from yu h1];rfl
  ·rw [show yG n 10=false from aev (by omega)];rw [Q6 f (n/10) _ (by omega),Q6 f (n/10) [48+n%10] (by omega)]
   simp
def Qf {f n:Nat} (h:n<10):mK (f+1) n []=[48+n]:=by
 simp only [mK];rw [show yG n 10=true from yu h];rfl
def Q7 {f n:Nat} (h:¬n<10) (hf:n<=f):mK (f+1) n []=mK f (n/10) []++[48+n%10]:=by
 rw [<-Q6 f (n/10) _ (by omega)];simp only [mK];rw [show yG n 10=false from aev (by omega)];rfl
def amP:∀(n f:Nat),n<f->mK f n []=an n:=by
 intro n
 induction n using vR with
 | _ n ih=>
  intro f hf;obtain ⟨g,rfl⟩:∃g,f=g+1:=⟨f-1,by omega⟩;by_cases h:n<10
  ·rw [Qf h];unfold an;rw [Qf h]
  ·rw [Q7 h (by omega),ih (n/10) (by omega) g (by omega)];unfold an;rw [Q7 h (yD n),ih (n/10) (by omega) n (by omega)];rfl
def nt {n:Nat} (h:n<10):an n=[48+n]:=Qf h
def ol {n:Nat} (h:¬n<10):an n=an (n/10)++[48+n%10]:=by
 rw [show an n=mK (n+1) n [] from rfl,Q7 h (yD n),amP (n/10) n (by omega)]
def om:∀{k n:Nat},n<10^(k+1)->(an n).length<=k+1
 | 0,n,h=>by rw [nt (by simpa using h)];simp
 | k+1,n,h=>by
  by_cases h1:n<10
  ·rw [nt h1];simp
  ·rw [ol h1,yQ]
   have:n/10<10^(k+1):=by
    grind
   have:=om this
   grind
def KZ {n:Nat} (h:n<18446744073709551616):(an n).length<=20:=om (k:=19) (by omega)
def jK (n:Nat):aW (n:Int)=an n:=rfl
def jL {n:Int} (h:n<0):aW n=45::an n.natAbs:=by
 cases n with
 | ofNat n=>exact absurd h (by simp)
 | negSucc n=>rfl
def bN:List Nat->Nat
 | []=>0
 | b::r=>if b=47 then 0 else bN r+1
def aie {s:List Nat} {i:Nat} (h:i<s.length):bN (s.drop i)=if s[i]=47 then 0 else bN (s.drop (i+1))+1:=by
 rw [yO h];rfl
def Hl:∀s:List Nat,bN s<=s.length
 | []=>yD _
 | b::r=>by
  unfold bN
  have:=Hl r
  grind
def dA:List Nat->Bool
 | []=>true
 | b::r=>yE 48 b&&yE b 57&&dA r
def KH:∀(a b:List Nat),dA (a++b)=(dA a&&dA b)
 | [],b=>by simp [dA]
 | x::a,b=>by simp [dA,KH a b,Bool.and_assoc]
def sG (n:Nat):dA (an n)=true:=by
 induction n using vR with
 | _ n ih=>
  by_cases h:n<10
  ·rw [nt h];simp [dA];omega
  ·rw [ol h,KH,ih (n/10) (by omega)];simp [dA];omega
def G6:∀{s:List Nat} (r:List Nat),dA s=true->bN (s++r)=s.length+bN r
 | [],r,_=>by simp
 | b::s,r,h=>by
  simp only [dA,yf] at h;have h1:=yt h.1.1;simp only [y8,bN,yv];rw [yz (by omega),G6 r h.2];omega
def KI:∀(l:List Nat) (a d:Nat),d<10->cR (l++[48+d]) a=(cR l a).map (fun v=>10*v+d)
 | [],a,d,h=>by
  simp only [List.nil_append,cR];rw [show yE 48 (48+d)=true from yu (by omega),show yE (48+d) 57=true from yu (by omega)]
  simp
 | b::l,a,d,h=>by
  simp only [y8,cR]
  cases (yE 48 b&&yE b 57) with
  | true=>exact KI l _ d h
  | false=>rfl
def qU (n:Nat):cR (an n) 0=some n:=by
 induction n using vR with
 | _ n ih=>
  by_cases h:n<10
  ·rw [nt h]
   have:=KI [] 0 n h
   simpa [cR] using this
  ·rw [ol h,KI _ _ _ (by omega),ih (n/10) (by omega)]
   simp;omega
def akz {s:List Nat} {i a v:Nat} (h:i<s.length) (hv:cR (s.drop i) a=some v):48<=s[i]/\s[i]<=57/\cR (s.drop (i+1)) (10*a+(s[i]-48))=some v:=by
 rw [yO h] at hv;simp only [cR] at hv
 cases hb:(yE 48 s[i]&&yE s[i] 57) with
 | false=>rw [hb] at hv;cases hv
 | true=>
  simp_all
def iv:Nat->Nat->List Nat
 | 0,_=>[]
 | k+1,n=>iv k (n/10)++[48+n%10]
def QJ:∀k n,(iv k n).length=k
 | 0,_=>rfl
 | k+1,n=>by simp [iv,QJ k]
def Lv:∀(k m r:Nat),0<m->r<10^k->an (m*10^k+r)=an m++iv k r
 | 0,m,r,_,h=>by simp at h;subst h;simp [iv]
 | k+1,m,r,hm,h=>by
  have h1:m*10^(k+1)+r=(m*10^k)*10+r:=by grind
  have hp:0<m*10^k:=Nat.mul_pos hm (Nat.pow_pos (by decide));have e1:(m*10^(k+1)+r)/10=m*10^k+r/10:=by omega
  have e2:(m*10^(k+1)+r)%10=r%10:=by omega
  rw [ol (by omega),e1,e2,Lv k m (r/10) hm (by rw [xg] at h;omega)];simp [iv]
def ZY:∀(k r a:Nat),r<10^k->cR (iv k r) a=some (a*10^k+r)
 | 0,r,a,h=>by simp at h;subst h;simp [iv,cR]
 | k+1,r,a,h=>by
  rw [iv,KI _ _ _ (xC _ (by decide)),ZY k (r/10) a (by omega)];simp only [Option.map_some,yc,xg]
  grind
def amQ {m:Nat} (h:1000000000<=m):an m=an (m/1000000000)++iv 9 (m%1000000000):=by
 have:=Lv 9 (m/1000000000) (m%1000000000) (by omega) (by omega)
 grind
end
section
open Go (IntKind)
def hZ (s:List Nat) (l h:Option Nat):Option AV:=
 match l,h with
 | some l,some h=>bif yE l h&&yE h s.length then some (.str ((s.take h).drop l)) else none
 | _,_=>none
def eM (hp:Hp) (s:List Nat) (tm:Env) (lo hi:Option X):fA hp .str (.str s) tm lo hi=hZ s (cV tm 0 lo) (cV tm s.length hi):=by
 unfold hZ;simp only [fA]
 grind
def eU (tm:Env) (d:Nat):cV tm d none=some d:=rfl
def dO (tm:Env) (d:Nat) (x:X):cV tm d (some x)=dV (az tm x):=rfl
def ll {s:List Nat} {l h:Nat} (h1:l<=h) (h2:h<=s.length):hZ s (some l) (some h)=some (.str ((s.take h).drop l)):=by
 simp [hZ,yu h1,yu h2]
def gl {a b:List Nat} (h:a.length+b.length<=9223372036854775807):binOp .add (.str a) (.str b)=some (.str (a++b)):=by
 show Iq .add a b=_
 simp only [Iq,yu h,ym]
def apa (k:yU) (n:Int):mY (.toInt .i64) (.int k n)=some (aa (IntKind.wrap .i64 n)):=rfl
def iW (a b:List Nat):binOp .eql (.str a) (.str b)=some (.bool (cI a b)):=rfl
def pO {s:List Nat} {i:Nat} (h:i<s.length):mR i (.str s)=some (.int .u8 (s[i]:Nat)):=by
 simp only [mR,wh h]
def Ya {r:Nat} (h:r<10):hZ [48,49,50,51,52,53,54,55,56,57] (some r) (some (r+1))=some (.str [48+r]):=by
 have:r=0\/r=1\/r=2\/r=3\/r=4\/r=5\/r=6\/r=7\/r=8\/r=9:=by omega
 rcases this with rfl | rfl | rfl | rfl | rfl | rfl | rfl | rfl | rfl | rfl<;>rfl
section
variable {P:aK} {L:Lib}
def Ta (h:Has P L 292 zA) {n:Nat} (hn:n<9223372036854775808):ae P L 292 [aa n,aa 1] (.str (an n)):=by
 have key:=cC (P:=P) (L:=L) (live:=[0,1,5]) (a:=nB)
  (I:=fun k st=>∃(m:Nat) (s:List Nat),st=⟨[(0,aa m),(1,aa 1),(5,.str s)],[],0,0⟩/\m<=n/\m+(1-s.length)=k/\s.length<=20/\((s=[]/\m=n)\/(0<s.length/\(m=0->s=an n)/\(0<m->an n=an m++s))))
  (Q:=fun ex st=>∃tm ct,st=⟨tm,[],ct,0⟩/\ex= .exit 0/\af tm 5= .str (an n)) ?_
 ·unfold ae;rw [av h];simp only [go_sem,zA];generalize hq:D P L (.loop [0,1,5] nB) _=q;obtain ⟨ex,st,rfl,tm,ct,rfl,rfl,h2⟩:=cd hq (key (n+1)) ⟨n,[],by simp only [go_sem,ya,aD]<;>rfl,by omega,rfl,by simp,.inl ⟨rfl,rfl⟩⟩
  simp only [go_sem,aD,h2]
 ·rintro k st ⟨m,s,rfl,hm,hk,hl,hs⟩;by_cases so:0<m\/s.length<1
  ·left
   have hc:((decide ((0:Int)<m))=true)\/((decide ((0:Int)<m))=false/\((s.length:Nat):Int)<1):=by
    by_cases h0:0<m
    ·exact .inl (yV (by omega))
    ·exact .inr ⟨yM (by omega),by omega⟩
   have hr:((m:Int)).tmod 10=((m%10:Nat):Int):=by rw [xm (by omega)];rfl
   have hq:((m:Int)).tdiv 10=((m/10:Nat):Int):=by rw [Int.tdiv_eq_ediv_of_nonneg (by omega)];rfl
   have hd:=Ya (r:=m%10) (by omega);have fin:∃s' k',D P L nB ⟨[(0,aa m),(1,aa 1),(5,.str s)],[],0,0⟩=some (.normal,s')/\k'<k/\bH [0,1,5] s'=⟨[(0,aa (m/10:Nat)),(1,aa 1),(5,.str ([48+m%10]++s))],[],0,0⟩/\m/10+(1-([48+m%10]++s).length)=k':=by
    rcases hc with hc | ⟨hc,rX⟩
    ·have hc:(0:Int)<m:=of_decide_eq_true hc
     simp only [go_sem,ya,yb,nB,hc,eD _ _ _ (show (10:Int)≠0 by decide),fq _ _ _ (show (10:Int)≠0 by decide),hr,hq,wrapN (n:=m%10+1) (by omega),wrap64 (n:=((m/10:Nat):Int)) (by omega) (by omega),eM,dO,show ((m%10:Nat):Int)+1=((m%10+1:Nat):Int) from rfl,hd,gl (a:=[48+m%10]) (b:=s) (by simp;omega)];refine ⟨_,_,rfl,?_,by simp only [go_sem,ya,aD],rfl⟩
     simp;omega
    ·have hc:¬(0:Int)<m:=of_decide_eq_false hc
     simp only [go_sem,ya,yb,nB,hc,rX,eD _ _ _ (show (10:Int)≠0 by decide),fq _ _ _ (show (10:Int)≠0 by decide),hr,hq,wrapN (n:=m%10+1) (by omega),wrap64 (n:=((m/10:Nat):Int)) (by omega) (by omega),eM,dO,show ((m%10:Nat):Int)+1=((m%10+1:Nat):Int) from rfl,hd,gl (a:=[48+m%10]) (b:=s) (by simp;omega)];refine ⟨_,_,rfl,?_,by simp only [go_sem,ya,aD],rfl⟩
     simp;omega
   obtain ⟨s',k',f1,f2,f3,f4⟩:=fin;refine ⟨s',k',f1,f2,m/10,[48+m%10]++s,f3,by omega,f4,?_,.inr ⟨by simp,fun h0=>?_,fun h0=>?_⟩⟩
   ·have azF:=KZ (n:=n) (by omega);rcases hs with ⟨rfl,rfl⟩ | ⟨h1,h2,h3⟩
    ·simp
    ·by_cases h0:0<m
     ·have e:=congrArg List.length (h3 h0);have e2:0<(an m).length:=by
       by_cases h9:m<10
       ·rw [nt h9];simp
       ·rw [ol h9];simp
      simp only [yQ] at e
      simp;omega
     ·omega
   ·have h9:m<10:=by omega
    rcases hs with ⟨rfl,rfl⟩ | ⟨h1,h2,h3⟩
    ·rw [nt h9,yP h9];rfl
    ·have:0<m:=by omega
     rw [h3 this,nt h9,yP h9]
   ·have h9:¬m<10:=by omega
    rcases hs with ⟨rfl,rfl⟩ | ⟨h1,h2,h3⟩
    ·rw [ol h9];simp
    ·rw [h3 (by omega),ol h9];simp
  ·right
   simp only [go_sem,ya,nB,show ¬(0:Int)<m by omega,show ¬((s.length:Nat):Int)<1 by omega];refine ⟨_,_,rfl,by simp,_,_,rfl,rfl,?_⟩;simp only [go_sem,ya];rcases hs with ⟨rfl,rfl⟩ | ⟨h1,h2,h3⟩
   ·simp at so
   ·rw [h2 (by omega)]
def auu (h:Has P L 291 IZ) {a b:Nat} (ha:a<9223372036854775808) (hb:b<9223372036854775808):ae P L 291 [aa a,aa b] (aa (wi a b)):=by
 have key:=cC (P:=P) (L:=L) (live:=[0,1]) (a:=Ie)
  (I:=fun k st=>∃x y:Nat,st=⟨[(0,aa x),(1,aa y)],[],0,0⟩/\y=k/\wi x y=wi a b)
  (Q:=fun ex st=>∃tm ct,st=⟨tm,[],ct,0⟩/\ex= .exit 0/\af tm 0=aa (wi a b)) ?_
 ·unfold ae;rw [av h];simp only [go_sem,IZ];generalize hq:D P L (.loop [0,1] Ie) _=q;obtain ⟨ex,st,rfl,tm,ct,rfl,rfl,h2⟩:=cd hq (key b) ⟨a,b,by simp only [go_sem,ya,aD]<;>rfl,rfl,rfl⟩
  simp only [go_sem,aD,h2]
 ·rintro k st ⟨x,y,rfl,rfl,hg⟩;by_cases hy:y=0
  ·right
   subst hy;simp only [go_sem,ya,Ie,show ¬(0:Int)<((0:Nat):Int) by omega];refine ⟨_,_,rfl,by simp,_,_,rfl,rfl,?_⟩;simp only [go_sem,ya];rw [<-hg,yam]
  ·left
   have hr:((x:Int)).tmod y=((x%y:Nat):Int):=by rw [xm (by omega)];rfl
   simp only [go_sem,ya,Ie,show (0:Int)<y by omega,eD _ _ _ (show (y:Int)≠0 by omega),hr];refine ⟨_,x%y,rfl,xC _ (by omega),y,x%y,by simp only [go_sem,ya,aD],rfl,?_⟩;rw [<-hg,um y,<-ybI,um]
end
end
section
open Go (IntKind)
section
variable {P:aK} {L:Lib}
def CV (h:Has P L 272 IW) {s:List Nat} (hl:s.length<=1000000000000):ae P L 272 [.str s] (aa (bN s)):=by
 have key:=cC (P:=P) (L:=L) (live:=[0,3]) (a:=Ed)
  (I:=fun k st=>∃i:Nat,st=⟨[(0,.str s),(3,aa i)],[],0,0⟩/\i+k=s.length/\i+bN (s.drop i)=bN s)
  (Q:=fun ex st=>∃tm ct,st=⟨tm,[],ct,0⟩/\((ex= .ret/\af tm 2=aa (bN s))\/(ex= .exit 0/\af tm 0= .str s/\bN s=s.length))) ?_
 ·unfold ae;rw [av h];simp only [go_sem,IW];generalize hq:D P L (.loop [0,3] Ed) _=q;obtain ⟨ex,st,rfl,tm,ct,rfl,h2⟩:=cd hq (key s.length) ⟨0,by simp only [go_sem,ya,aD]<;>rfl,by omega,by simp⟩
  rcases h2 with ⟨rfl,h2⟩ | ⟨rfl,h2,h3⟩
  ·simp only [go_sem,h2]
  ·simp only [go_sem,aD,h2,h3]
 ·rintro k st ⟨i,rfl,hk,hs⟩;by_cases hi:i<s.length
  ·rw [aie hi] at hs;by_cases h7:s[i]=47
   ·right
    rw [yJ h7] at hs;simp only [go_sem,ya,Ed,show (i:Int)<s.length by omega,pO hi,show ((s[i]:Nat):Int)=47 by omega];refine ⟨_,_,rfl,by simp,_,_,rfl,.inl ⟨rfl,?_⟩⟩;rw [<-hs];rfl
   ·left
    rw [yz h7] at hs;simp only [go_sem,ya,Ed,show (i:Int)<s.length by omega,pO hi,show ¬((s[i]:Nat):Int)=47 by omega];refine ⟨_,k-1,rfl,by omega,i+1,?_,by omega,by omega⟩;rw [wrap64 (by omega) (by omega)];simp only [go_sem,ya,aD]<;>rfl
  ·right
   simp only [go_sem,ya,Ed,show ¬(i:Int)<s.length by omega];refine ⟨_,_,rfl,by simp,_,_,rfl,.inr ⟨rfl,by simp only [go_sem,ya],?_⟩⟩;rw [xj (by omega)] at hs;simp only [bN] at hs;omega
def Jd (h:Has P L 290 ET) {s:List Nat} {v:Nat} (hl:s.length<=18) (hv:cR s 0=some v):ae P L 290 [.str s] (aa v):=by
 have key:=cC (P:=P) (L:=L) (live:=[0,3,4]) (a:=Ic)
  (I:=fun k st=>∃i a:Nat,st=⟨[(0,.str s),(3,aa a),(4,aa i)],[],0,0⟩/\i+k=s.length/\a<10^i/\cR (s.drop i) a=some v)
  (Q:=fun ex st=>∃tm ct,st=⟨tm,[],ct,0⟩/\ex= .exit 0/\af tm 3=aa v) ?_
 ·unfold ae;rw [av h];simp only [go_sem,ET];generalize hq:D P L (.loop [0,3,4] Ic) _=q;obtain ⟨ex,st,rfl,tm,ct,rfl,rfl,h2⟩:=cd hq (key s.length) ⟨0,0,by simp only [go_sem,ya,aD]<;>rfl,by omega,by simp,hv⟩
  simp only [go_sem,aD,h2]
 ·rintro k st ⟨i,a,rfl,hk,ha,hs⟩;by_cases hi:i<s.length
  ·left
   obtain ⟨h1,h2,h3⟩:=akz hi hs;have hp:10^i<=10^17:=xn (by decide) (by omega);have hb:IntKind.wrap .i64 ((s[i]:Nat):Int)=((s[i]:Nat):Int):=wrap64 (by omega) (by omega)
   simp only [go_sem,ya,Ic,show (i:Int)<s.length by omega,pO hi,apa,hb,wrap64 (n:=10*(a:Int)) (by omega) (by omega),wrap64 (n:=10*(a:Int)+(s[i]:Nat)) (by omega) (by omega),wrap64 (n:=10*(a:Int)+(s[i]:Nat)-48) (by omega) (by omega)];refine ⟨_,k-1,rfl,by omega,i+1,10*a+(s[i]-48),?_,by omega,?_,h3⟩
   ·rw [wrap64 (by omega) (by omega),show 10*(a:Int)+(s[i]:Nat)-48=((10*a+(s[i]-48):Nat):Int) by omega];simp only [go_sem,ya,aD]<;>rfl
   ·rw [xg];omega
  ·right
   simp only [go_sem,ya,Ic,show ¬(i:Int)<s.length by omega];refine ⟨_,_,rfl,by simp,_,_,rfl,rfl,?_⟩;rw [xj (by omega)] at hs;simp only [cR,yc] at hs;subst hs;simp only [go_sem,ya]
def LW (a:Int):(if 0-a>a then 0-a else a)=(a.natAbs:Int):=by omega
def Lw (a b:Int):a.tdiv (xX a b:Nat)=dh a b:=tp (uJ a b)
def Lx (a b:Int):b.tdiv (xX a b:Nat)=dl a b:=tp (uA a b)
def lW (n:Int):(if n<0 then [45] else [])++an n.natAbs=aW n:=by
 split
 ·rename_i h;rw [jL h];rfl
 ·rename_i h;obtain ⟨m,rfl⟩:∃m:Nat,n=m:=⟨n.toNat,by omega⟩;rfl
def amR {n:Int} (h:n.natAbs<18446744073709551616):(aW n).length<=21:=by
 rw [<-lW]
 have:=KZ h
 grind
def apb {a b:Int} (hb:0<b):oS a b=(if 1<dl a b then (aW (dh a b)++[47])++an (dl a b).natAbs else aW (dh a b)):=by
 have h:=Hz (a:=a) hb;unfold oS;by_cases h1:dl a b=1
 ·grind
 ·rw [yz h1,yJ (by omega)];obtain ⟨m,hm⟩:∃m:Nat,dl a b=m:=⟨(dl a b).toNat,by omega⟩;rw [hm];rfl
def auv (h:Has P L 277 CR) (Tb:Has P L 291 IZ) (pZ:Has P L 292 zA) {a b:Int} (ha: -4000000000000000000<=a/\a<=4000000000000000000) (hb:0<b/\b<=4000000000000000000):
  ae P L 277 [aa a,aa b] (.str (oS a b)):=by
 have hn:=QH a b;have hd:=QI a b;have hp:=Hz (a:=a) hb.1;have e1:=auu Tb (a:=a.natAbs) (b:=b.natAbs) (by omega) (by omega);have e2:=Ta pZ (n:=(dh a b).natAbs) (by omega);have e3:=Ta pZ (n:=(dl a b).natAbs) (by omega);have hg:=HP (a:=a) hb.1;rw [show ((b.natAbs:Nat):Int)=b by omega,show wi a.natAbs b.natAbs=xX a b from rfl] at e1;rw [show (((dl a b).natAbs:Nat):Int)=dl a b by omega] at e3;have nd:=amR (n:=dh a b) (by omega);have rR:=KZ (n:=(dh a b).natAbs) (by omega);have hl3:=KZ (n:=(dl a b).natAbs) (by omega);have hT:=apb (a:=a) hb.1;have hS:=lW (dh a b);unfold ae at e1 e2 e3 ⊢;rw [av h];by_cases h0:dh a b<0
 ·rw [yJ h0] at hS;by_cases h1:1<dl a b
  ·rw [yJ h1] at hT
   simp only [go_sem,ya,CR,show ¬a< -4000000000000000000 by omega,show ¬4000000000000000000<a by omega,show ¬b< -4000000000000000000 by omega,show ¬4000000000000000000<b by omega,show ¬b<0 by omega,wrap64 (n:=0-a) (by omega) (by omega),El,DT,LW,e1,fq _ _ _ (show ((xX a b:Nat):Int)≠0 by omega),Lw,Lx,wrap64 (n:=dh a b) (by omega) (by omega),wrap64 (n:=dl a b) (by omega) (by omega),h0,wrap64 (n:=0-dh a b) (by omega) (by omega),e2,gl (a:=[45]) (b:=an (dh a b).natAbs) (by simp;omega),hS,h1,gl (a:=aW (dh a b)) (b:=[47]) (by simp;omega),e3,gl (a:=aW (dh a b)++[47]) (b:=an (dl a b).natAbs) (by simp;omega),hT]
  ·rw [yz h1] at hT
   simp only [go_sem,ya,CR,show ¬a< -4000000000000000000 by omega,show ¬4000000000000000000<a by omega,show ¬b< -4000000000000000000 by omega,show ¬4000000000000000000<b by omega,show ¬b<0 by omega,wrap64 (n:=0-a) (by omega) (by omega),El,DT,LW,e1,fq _ _ _ (show ((xX a b:Nat):Int)≠0 by omega),Lw,Lx,wrap64 (n:=dh a b) (by omega) (by omega),wrap64 (n:=dl a b) (by omega) (by omega),h0,wrap64 (n:=0-dh a b) (by omega) (by omega),e2,gl (a:=[45]) (b:=an (dh a b).natAbs) (by simp;omega),hS,h1,hT]
 ·rw [yz h0] at hS;by_cases h1:1<dl a b
  ·rw [yJ h1] at hT
   simp only [go_sem,ya,CR,show ¬a< -4000000000000000000 by omega,show ¬4000000000000000000<a by omega,show ¬b< -4000000000000000000 by omega,show ¬4000000000000000000<b by omega,show ¬b<0 by omega,wrap64 (n:=0-a) (by omega) (by omega),El,DT,LW,e1,fq _ _ _ (show ((xX a b:Nat):Int)≠0 by omega),Lw,Lx,wrap64 (n:=dh a b) (by omega) (by omega),wrap64 (n:=dl a b) (by omega) (by omega),h0,wrap64 (n:=0-dh a b) (by omega) (by omega),e2,gl (a:=[]) (b:=an (dh a b).natAbs) (by simp;omega),hS,h1,gl (a:=aW (dh a b)) (b:=[47]) (by simp;omega),e3,gl (a:=aW (dh a b)++[47]) (b:=an (dl a b).natAbs) (by simp;omega),hT]
  ·rw [yz h1] at hT
   simp only [go_sem,ya,CR,show ¬a< -4000000000000000000 by omega,show ¬4000000000000000000<a by omega,show ¬b< -4000000000000000000 by omega,show ¬4000000000000000000<b by omega,show ¬b<0 by omega,wrap64 (n:=0-a) (by omega) (by omega),El,DT,LW,e1,fq _ _ _ (show ((xX a b:Nat):Int)≠0 by omega),Lw,Lx,wrap64 (n:=dh a b) (by omega) (by omega),wrap64 (n:=dl a b) (by omega) (by omega),h0,wrap64 (n:=0-dh a b) (by omega) (by omega),e2,gl (a:=[]) (b:=an (dh a b).natAbs) (by simp;omega),hS,h1,hT]
end
end
section
open Go (IntKind)
def TT (n:Int) (d:Nat):List Nat:=aW n++(if d=1 then [] else 47::an d)
def apc {a b:Int} (hb:0<b):oS a b=TT (dh a b) (dl a b).toNat:=by
 have h:=Hz (a:=a) hb;unfold oS TT;by_cases h1:dl a b=1
 ·grind
 ·rw [yz h1,yz (by omega)];obtain ⟨m,hm⟩:∃m:Nat,dl a b=m:=⟨(dl a b).toNat,by omega⟩;rw [hm,List.append_assoc];rfl
def pK (n:Nat):0<(an n).length:=by
 by_cases h:n<10
 ·rw [nt h];simp
 ·rw [ol h];simp
def D0:∀(n:Nat),n<10^(an n).length:=by
 intro n
 induction n using vR with
 | _ n ih=>
  by_cases h:n<10
  ·rw [nt h];simpa using h
  ·have:=ih (n/10) (by omega)
   rw [ol h,yQ,List.length_singleton,xg];omega
def ZZ {n:Nat} (h:(an n).length<=9):n<1000000000:=
 Nat.lt_of_lt_of_le (D0 n) (by simpa using xn (show 0<10 by decide) h)
def DQ (n:Nat):∃b r,an n=b::r/\48<=b/\b<=57:=by
 cases hq:an n with
 | nil=>have:=pK n;rw [hq] at this;simp at this
 | cons b r=>
  have:=sG n
  rw [hq] at this;simp only [dA,yf] at this
  simp_all
section
variable {P:aK} {L:Lib}
def CW (s:List Nat):mR 0 (.str (45::s))=some (.int .u8 45):=rfl
def RH (q:Bool) (n:Int) (d:Nat):AV:=if q=true then .aq [aa n,aa d,.bool true] else .aq [aa 0,aa 0,.bool false]
def iI (d:Nat):List Nat:=if d=1 then [] else 47::an d
def PR (d:Nat):bN (iI d)=0:=by unfold iI;split<;>rfl
def auw (h:Has P L 276 oP) (zF:Has P L 272 IW) (zG:Has P L 290 ET) {n:Int} {d:Nat} (hl:(TT n d).length<=20000000000):
  ∃q:Bool,ae P L 276 [.str (TT n d)] (RH q n d)/\(q=true->n.natAbs<1000000000/\d<1000000000):=by
 generalize hs:TT n d=s at hl;by_cases lh:20<s.length
 ·refine ⟨false,?_,fun h=>by cases h⟩;unfold ae;rw [av h];simp only [go_sem,ya,oP,show (20:Int)<s.length by omega];rfl
 ·have hu:∃u,u=an n.natAbs++iI d:=⟨_,rfl⟩;obtain ⟨u,hu⟩:=hu;have hK:∃K,K=(an n.natAbs).length:=⟨_,rfl⟩;obtain ⟨K,hK⟩:=hK;have Oe:bN u=K:=by rw [hu,G6 _ (sG _),PR,hK];rfl
  have hlen:u.length=K+(iI d).length:=by rw [hu,hK,yQ]
  have hp:=pK n.natAbs;obtain ⟨b,r,hb,jG,hb2⟩:=DQ n.natAbs;have Dl:(n<0/\s=45::u)\/(¬n<0/\s=u):=by
   by_cases h0:n<0
   ·left;refine ⟨h0,?_⟩;rw [<-hs,hu,TT,jL h0];rfl
   ·right;refine ⟨h0,?_⟩;rw [<-hs,hu,TT,<-lW,yz h0];rfl
  have hul:u.length<=s.length:=by rcases Dl with ⟨_,e⟩ | ⟨_,e⟩<;>rw [e]<;>simp
  have BO:0<u.length:=by omega
  have qv:u[0]=b:=by
   have:u=b::(r++iI d):=by rw [hu,hb];rfl
   simp [this]
  have e1:=CV zF (s:=u) (by omega);rw [Oe] at e1;have ez:hZ u (some 0) (some K)=some (.str (an n.natAbs)):=by
   rw [ll (by omega) (by omega),List.drop_zero,hu,hK,List.take_left]
  unfold ae at e1;by_cases h9:9<K
  ·refine ⟨false,?_,fun h=>by cases h⟩;unfold ae;rw [av h];rcases Dl with ⟨h0,e⟩ | ⟨h0,e⟩
   ·have lh:¬20<u.length+1:=by rw [e] at lh;exact lh
    have kZ:hZ (45::u) (some 1) (some (u.length+1))=some (.str u):=by rw [ll (s:=45::u) (l:=1) (h:=u.length+1) (by omega) (by simp)];simp
    rw [e];simp only [go_sem,ya,oP,show ¬(20:Int)<((u.length+1:Nat):Int) by omega,show (0:Int)<((u.length+1:Nat):Int) by omega,CW,eM,eU,dO,kZ,e1,show (9:Int)<(K:Int) by omega];rfl
   ·rw [e];simp only [go_sem,ya,oP,show ¬(20:Int)<(u.length:Nat) by omega,show (0:Int)<(u.length:Nat) by omega,pO BO,qv,show ¬((b:Nat):Int)=45 by omega,e1,show (9:Int)<(K:Int) by omega];rfl
  ·by_cases iA:10<(iI d).length
   ·refine ⟨false,?_,fun h=>by cases h⟩;unfold ae;rw [av h];rcases Dl with ⟨h0,e⟩ | ⟨h0,e⟩
    ·have lh:¬20<u.length+1:=by rw [e] at lh;exact lh
     have kZ:hZ (45::u) (some 1) (some (u.length+1))=some (.str u):=by rw [ll (s:=45::u) (l:=1) (h:=u.length+1) (by omega) (by simp)];simp
     rw [e]
     simp only [go_sem,ya,oP,show ¬(20:Int)<((u.length+1:Nat):Int) by omega,show (0:Int)<((u.length+1:Nat):Int) by omega,CW,eM,eU,dO,kZ,e1,show ¬(9:Int)<(K:Int) by omega,wrap64 (n:=(u.length:Int)-(K:Int)) (by omega) (by omega),show (10:Int)<(u.length:Int)-(K:Int) by omega];rfl
    ·rw [e]
     simp only [go_sem,ya,oP,show ¬(20:Int)<(u.length:Nat) by omega,show (0:Int)<(u.length:Nat) by omega,pO BO,qv,show ¬((b:Nat):Int)=45 by omega,e1,show ¬(9:Int)<(K:Int) by omega,wrap64 (n:=(u.length:Int)-(K:Int)) (by omega) (by omega),show (10:Int)<(u.length:Int)-(K:Int) by omega];rfl
   ·have e2:=Jd zG (s:=an n.natAbs) (by omega) (qU n.natAbs);unfold ae at e2;have hm:=ZZ (n:=n.natAbs) (by omega);by_cases hd:d=1
    ·subst hd;have nX:iI 1=[]:=rfl;refine ⟨true,?_,fun _=>⟨hm,by decide⟩⟩;rw [nX] at hlen;simp only [yF,Nat.add_zero] at hlen;unfold ae;rw [av h];rcases Dl with ⟨h0,e⟩ | ⟨h0,e⟩
     ·have lh:¬20<u.length+1:=by rw [e] at lh;exact lh
      have kZ:hZ (45::u) (some 1) (some (u.length+1))=some (.str u):=by rw [ll (s:=45::u) (l:=1) (h:=u.length+1) (by omega) (by simp)];simp
      rw [e]
      simp only [go_sem,ya,oP,show ¬(20:Int)<((u.length+1:Nat):Int) by omega,show (0:Int)<((u.length+1:Nat):Int) by omega,CW,eM,eU,dO,kZ,e1,show ¬(9:Int)<(K:Int) by omega,wrap64 (n:=(u.length:Int)-(K:Int)) (by omega) (by omega),show ¬(10:Int)<(u.length:Int)-(K:Int) by omega,ez,e2,show ¬(K:Int)<(u.length:Int) by omega,wrap64 (n:=0-(n.natAbs:Int)) (by omega) (by omega)];rw [show 0-(n.natAbs:Int)=n by omega];rfl
     ·rw [e]
      simp only [go_sem,ya,oP,show ¬(20:Int)<(u.length:Nat) by omega,show (0:Int)<(u.length:Nat) by omega,pO BO,qv,show ¬((b:Nat):Int)=45 by omega,eM,eU,dO,e1,show ¬(9:Int)<(K:Int) by omega,wrap64 (n:=(u.length:Int)-(K:Int)) (by omega) (by omega),show ¬(10:Int)<(u.length:Int)-(K:Int) by omega,ez,e2,show ¬(K:Int)<(u.length:Int) by omega];rw [show (n.natAbs:Int)=n by omega];rfl
    ·have nX:iI d=47::an d:=yz hd;have J8:(iI d).length=(an d).length+1:=by rw [nX];rfl
     have hpd:=pK d;have hd9:=ZZ (n:=d) (by omega);have e3:=Jd zG (s:=an d) (by omega) (qU d);unfold ae at e3;have rX:hZ u (some (K+1)) (some u.length)=some (.str (an d)):=by
      rw [ll (by omega) (yD _),wz,hu,nX,hK,show (an n.natAbs).length+1=(an n.natAbs++[47]).length by simp,show an n.natAbs++47::an d=(an n.natAbs++[47])++an d by simp,List.drop_left]
     refine ⟨true,?_,fun _=>⟨hm,hd9⟩⟩;unfold ae;rw [av h];rcases Dl with ⟨h0,e⟩ | ⟨h0,e⟩
     ·have lh:¬20<u.length+1:=by rw [e] at lh;exact lh
      have kZ:hZ (45::u) (some 1) (some (u.length+1))=some (.str u):=by rw [ll (s:=45::u) (l:=1) (h:=u.length+1) (by omega) (by simp)];simp
      rw [e]
      simp only [go_sem,ya,oP,show ¬(20:Int)<((u.length+1:Nat):Int) by omega,show (0:Int)<((u.length+1:Nat):Int) by omega,CW,eM,eU,dO,kZ,e1,show ¬(9:Int)<(K:Int) by omega,wrap64 (n:=(u.length:Int)-(K:Int)) (by omega) (by omega),show ¬(10:Int)<(u.length:Int)-(K:Int) by omega,ez,e2,show (K:Int)<(u.length:Int) by omega,wrapN (n:=K+1) (by omega),show (K:Int)+1=((K+1:Nat):Int) from rfl,rX,e3,wrap64 (n:=0-(n.natAbs:Int)) (by omega) (by omega)];rw [show 0-(n.natAbs:Int)=n by omega];rfl
     ·rw [e]
      simp only [go_sem,ya,oP,show ¬(20:Int)<(u.length:Nat) by omega,show (0:Int)<(u.length:Nat) by omega,pO BO,qv,show ¬((b:Nat):Int)=45 by omega,eM,eU,dO,e1,show ¬(9:Int)<(K:Int) by omega,wrap64 (n:=(u.length:Int)-(K:Int)) (by omega) (by omega),show ¬(10:Int)<(u.length:Int)-(K:Int) by omega,ez,e2,show (K:Int)<(u.length:Int) by omega,wrapN (n:=K+1) (by omega),show (K:Int)+1=((K+1:Nat):Int) from rfl,rX,e3];rw [show (n.natAbs:Int)=n by omega];rfl
end
end
section
open Go (IntKind)
section
variable {P:aK} {L:Lib}
def Tc (h:Has P L 302 rD) {v:AV} {l:List Int} (hv:bq v l) (i:Nat):ae P L 302 [v,aa i] (aa (l.getD i 0)):=by
 unfold ae;rw [av h];by_cases hi:i<l.length
 ·simp only [go_sem,ya,rD,hv.len,show (i:Int)<l.length by omega,hv.bj hi];simp [xM,wh hi]
 ·simp only [go_sem,ya,rD,hv.len,show ¬(i:Int)<l.length by omega];simp [xM,List.getElem?_eq_none (Nat.le_of_not_lt hi)]
def abc {hp:Hp} {e:Bool} {n:Nat} {cs:List AV} {tm:Env} {h:Nat} {x:X} (hx:cV tm n (some x)=some h) (hh:h<=n):
  fA hp (.sl 1) (.aE e n cs) tm none (some x)=some (.aE (e&&yr h n) h (cs.take h)):=by
 simp only [fA,hx,eU];simp [yu hh,slice];rw [show yE 0 h=true from yu (tC _)];rfl
def Bm (h:Has P L 300 lG) {v:AV} {l:List Int} (hv:bq v l) (hl:l.length<=20000000000):∃r,ae P L 300 [v] r/\bq r (dZ l)/\shut r=r:=by
 rcases hv with ⟨rfl,h0⟩ | ⟨e,rfl⟩
 ·have:l=[]:=by simpa using h0
  subst this;refine ⟨.ab,?_,qV,rfl⟩;unfold ae;rw [av h];simp only [go_sem,ya,lG,Cw,Ct,aD,show ¬(0:Int)<0 by decide]
 ·have key:=cC (P:=P) (L:=L) (live:=[0]) (a:=Ct)
   (I:=fun k st=>∃(i:Nat) (e:Bool),st=⟨[(0,.aE e i ((l.take i).map aa))],[],0,0⟩/\i<=l.length/\i=k/\dZ (l.take i)=dZ l)
   (Q:=fun ex st=>∃tm ct,st=⟨tm,[],ct,0⟩/\ex= .exit 0/\∃i e,af tm 0= .aE e i ((l.take i).map aa)/\i<=l.length/\l.take i=dZ l) ?_
  ·have hlen:(l.map aa).length=l.length:=by simp
   rw [hlen];have iL:∃i e',ae P L 300 [.aE e l.length (l.map aa)] (.aE e' i ((l.take i).map aa))/\i<=l.length/\l.take i=dZ l:=by
    unfold ae;rw [av h];simp only [go_sem,lG];generalize hq:D P L (.loop [0] Ct) _=q;obtain ⟨ex,st,rfl,tm,ct,rfl,rfl,i,e',h2,h3,h4⟩:=cd hq (key l.length) ⟨l.length,e,by simp only [go_sem,ya,aD,wz],yD _,rfl,by rw [wz]⟩;simp only [go_sem,aD,h2];exact ⟨i,e',rfl,h3,h4⟩
   obtain ⟨i,e',g1,g2,g3⟩:=iL;refine ⟨_,g1,?_,rfl⟩;rw [<-g3]
   have:=fN e' (l.take i)
   rwa [yT,wE g2] at this
  ·rintro k st ⟨i,e,rfl,hi,rfl,ht⟩
   cases i with
   | zero=>
    right
    simp only [go_sem,ya,Ct,show ¬(0:Int)<((0:Nat):Int) by omega];exact ⟨_,_,rfl,by simp,_,_,rfl,rfl,0,e,by simp only [go_sem,ya],tC _,by simpa [dZ] using ht⟩
   | succ i=>
    have J9:i<l.length:=by omega
    have ep:l.take (i+1)=l.take i++[l[i]]:=wj J9;have ig:xv i ((l.take (i+1)).map aa)=[AV.int .i64 l[i]]:=by
     rw [ep,xq,List.drop_left' (by simp;omega)];rfl
    have n5:gZ 1 i (.aE e (i+1) ((l.take (i+1)).map aa))=some (.aF [AV.int .i64 l[i]]):=by
     rw [LU e _ (by omega),yi,ig]
    by_cases h0:l[i]=0
    ·left
     have lI:∀tm x,cV tm (i+1) (some x)=some i->fA [] (.sl 1) (.aE e (i+1) ((l.take (i+1)).map aa)) tm none (some x)=some (.aE (e&&yr i (i+1)) i ((l.take i).map aa)):=fun tm x hx=>by
      rw [abc hx (by omega),<-yaS,List.take_take,wE (by omega)]
     simp only [go_sem,ya,Ct,show (0:Int)<((i+1:Nat):Int) by omega,show ((i+1:Nat):Int)-1=(i:Int) by omega,wrapN (n:=i) (by omega),n5,h0,lI,dO];refine ⟨_,i,rfl,by omega,i,_,by simp only [go_sem,aD]<;>rfl,by omega,rfl,?_⟩
     rw [<-ht,ep,h0,Hb]
    ·right
     simp only [go_sem,ya,Ct,show (0:Int)<((i+1:Nat):Int) by omega,show ((i+1:Nat):Int)-1=(i:Int) by omega,wrapN (n:=i) (by omega),n5,h0];refine ⟨_,_,rfl,by simp,_,_,rfl,rfl,i+1,e,by simp only [go_sem,ya],by omega,?_⟩;rw [<-ht,ep,KX h0]
end
end
section
open Go (IntKind)
abbrev uc (n:Nat):AV:= .int .u64 (n:Int)
def bJ (v:AV) (l:List Nat):Prop:=cT v (l.map uc)
section
variable {v:AV} {l:List Nat}
def bJ.len (h:bJ v l) {hp:Hp}:gK hp 1 v=some (.int .i64 (l.length:Nat)):=by
 have:=cT.len (hp:=hp) h
 grind
def bJ.pu (h:bJ v l):aS v=true:=cT.pu h
def bJ.ai (h:bJ v l) (n:Nat) {hp:Hp}:freeze (n+1) hp v=some (v,hp):=cT.ai h n
def bJ.shut (h:bJ v l):VE.shut v=v:=cT.shut h
def bJ.bO (h:bJ v l):VE.bO v=v:=cT.bO h
def bJ.dn (h:bJ v l) {hp:Hp}:result hp v=some v:=cT.dn h
def bJ.one (h:bJ v l):bA v=true:=cT.one h
def bJ.cells (h:bJ v l):cellsOf v=[v]:=cT.cells h
def bJ.bj (h:bJ v l) {i:Nat} (hi:i<l.length):gZ 1 i v=some (.aF (uc (l.getD i 0)::(l.map uc).drop (i+1))):=by
 have:=cT.bj h (i:=i) (by simpa using hi)
 grind
def mM (e:Bool) (l:List Nat):bJ (.aE e l.length (l.map uc)) l:=by
 have:=HM e (l.map uc)
 rwa [xx] at this
def sJ:bJ .ab []:=qV
end
def kj {hp:Hp} {ct id o:Nat} {v:Nat} {ex:Bool} {l:List Nat} (h:o<l.length):fy hp ct id o 1 [.int .u64 (v:Int)] (some (.cells true true ex 1 (l.map uc)))=some (.aq [],aY hp id (.cells true true ex 1 ((l.set o v).map uc)),ct):=by
 rw [mj (by rfl) (by simp;omega) (by rfl)]
 have:over o [uc v] (l.map uc)=(l.set o v).map uc:=by
  simp only [over,yv,yF,yd];rw [List.map_set,List.set_eq_take_append_cons_drop,yJ (by simpa using h)]
  simp
 rw [this];rfl
def zk {l:List Nat} {o:Nat} (h:o<l.length):xv o (l.map uc)=uc (l.getD o 0)::xv (o+1) (l.map uc):=by
 rw [yO (by simpa using h)]
 grind
def apd (n:Nat):(yA n [AV.int .u64 0]).flatten=(yA n 0).map uc:=by simp_all
def CX (ct:Nat) {n:Nat} (h:n<=100000000000):zE ct 1 8 [.int .u64 0] (some n) (some n)=some (.ak ct 0 n,.cells true true true 1 ((yA n 0).map uc)):=by
 rw [Ek (sz:=1) (by omega) (by omega) (by rfl) (by rfl),apd];rfl
def Bn (hp:Hp) {n:Nat} {l:List Nat} (h:l.length=n) (ex:Bool):lH 0 n (some (ex,1,l.map uc,hp))=some (.aE ex n (l.map uc),hp):=oh ex (by simp [h]) (by decide)
def aew {n:Nat} (h:n<18446744073709551616):IntKind.wrap .u64 (n:Int)=n:=atg (by omega) (by omega)
section
variable {P:aK} {L:Lib} {f:cJ}
def jR {a b:Nat} (h:a<b):yG a b=true:=by simp_all
def Cy (h:L.pure 171=some nA) {x y c:Nat} (hx:x<18446744073709551616) (hy:y<18446744073709551616) (hc:c<=1):
  bR P L f 171 [uc x,uc y,uc c]=some (.aq [uc ((x+y+c)%18446744073709551616),uc ((x+y+c)/18446744073709551616)]):=by
 rw [iS h];show (bif yE c 1&&(yG x 18446744073709551616&&yG y 18446744073709551616) then _ else none)=_
 rw [yu hc,jR hx,jR hy];rfl
def RI (h:L.pure 173=some AP) {x y c:Nat} (hx:x<18446744073709551616) (hy:y<18446744073709551616) (hc:c<=1):
  bR P L f 173 [uc x,uc y,uc c]=some (.aq [uc ((x+18446744073709551616*2-y-c)%18446744073709551616),uc (if y+c<=x then 0 else 1)]):=by
 rw [iS h];show (bif yE c 1&&(yG x 18446744073709551616&&yG y 18446744073709551616) then _ else none)=_
 rw [yu hc,jR hx,jR hy];by_cases hh:y+c<=x
 ·rw [yu hh,yJ hh];rfl
 ·have:yE (y+c) x=false:=by
   cases hq:yE (y+c) x with
   | false=>rfl
   | true=>exact absurd (yt hq) hh
  grind
def Mi (h:L.pure 143=some q9) {x y:Nat} (hx:x<18446744073709551616) (hy:y<18446744073709551616):
  bR P L f 143 [uc x,uc y]=some (.aq [uc (x*y/18446744073709551616),uc (x*y%18446744073709551616)]):=by
 rw [iS h];show (bif yG x 18446744073709551616&&yG y 18446744073709551616 then _ else none)=_
 rw [jR hx,jR hy];rfl
def amS {hp:Hp} {tm:Env} {x:X} (hx:cV tm 0 (some x)=some 0):fA hp (.sl 1) .ab tm none (some x)=some .ab:=by
 simp only [fA,hx,eU]
def Bo (h:Has P L 166 Be) {v:AV} {l:List Nat} (hv:bJ v l) (hl:l.length<=100000000000):∃r,ae P L 166 [v] r/\bJ r (eb l):=by
 rcases hv with ⟨rfl,h0⟩ | ⟨e,rfl⟩
 ·have:l=[]:=by simpa using h0
  subst this;refine ⟨.ab,?_,qV⟩;unfold ae;rw [av h];simp only [go_sem,ya,Be,Cw,Cq,aD,show ¬(0:Int)<0 by decide,amS,dO]
 ·have key:=cC (P:=P) (L:=L) (live:=[0,3]) (a:=Cq)
   (I:=fun k st=>∃(i:Nat),st=⟨[(0,.aE e l.length (l.map uc)),(3,aa i)],[],0,0⟩/\i<=l.length/\i=k/\eb (l.take i)=eb l)
   (Q:=fun ex st=>∃tm ct,st=⟨tm,[],ct,0⟩/\ex= .exit 0/\∃i:Nat,af tm 0= .aE e l.length (l.map uc)/\af tm 3=aa i/\i<=l.length/\l.take i=eb l) ?_
  ·have hlen:(l.map uc).length=l.length:=by simp
   rw [hlen];have iL:∃i e',ae P L 166 [.aE e l.length (l.map uc)] (.aE e' i ((l.take i).map uc))/\i<=l.length/\l.take i=eb l:=by
    unfold ae;rw [av h];simp only [go_sem,ya,Be];generalize hq:D P L (.loop [0,3] Cq) _=q;obtain ⟨ex,st,rfl,tm,ct,rfl,rfl,i,h2,h3,h4,h5⟩:=cd hq (key l.length) ⟨l.length,by simp only [go_sem,ya,aD],yD _,rfl,by rw [wz]⟩;have lI:∀tm x,cV tm l.length (some x)=some i->fA [] (.sl 1) (.aE e l.length (l.map uc)) tm none (some x)=some (.aE (e&&yr i l.length) i ((l.map uc).take i)):=fun tm x hx=>abc hx h4
    simp only [go_sem,ya,aD,h2,h3,lI,dO];exact ⟨i,_,by rw [yaS],h4,h5⟩
   obtain ⟨i,e',g1,g2,g3⟩:=iL;refine ⟨_,g1,?_⟩;rw [<-g3]
   have:=mM e' (l.take i)
   rwa [yT,wE g2] at this
  ·rintro k st ⟨i,rfl,hi,rfl,ht⟩
   cases i with
   | zero=>
    right
    simp only [go_sem,ya,Cq,show ¬(0:Int)<((0:Nat):Int) by omega];exact ⟨_,_,rfl,by simp,_,_,rfl,rfl,0,by simp only [go_sem,ya],by simp only [go_sem,ya],tC _,by simpa [eb] using ht⟩
   | succ i=>
    have J9:i<l.length:=by omega
    have ep:l.take (i+1)=l.take i++[l[i]]:=wj J9;have n5:=(mM e l).bj J9;rw [<-gd J9] at n5;by_cases h0:l[i]=0
    ·left
     simp only [go_sem,ya,Cq,show (0:Int)<((i+1:Nat):Int) by omega,show ((i+1:Nat):Int)-1=(i:Int) by omega,wrapN (n:=i) (by omega),n5,show ((l[i]:Nat):Int)=0 by omega];refine ⟨_,i,rfl,by omega,i,by simp only [go_sem,ya,aD],by omega,rfl,?_⟩;rw [<-ht,ep,h0,KY]
    ·right
     simp only [go_sem,ya,Cq,show (0:Int)<((i+1:Nat):Int) by omega,show ((i+1:Nat):Int)-1=(i:Int) by omega,wrapN (n:=i) (by omega),n5,show ¬((l[i]:Nat):Int)=0 by omega];refine ⟨_,_,rfl,by simp,_,_,rfl,rfl,i+1,by simp only [go_sem,ya],by simp only [go_sem,ya],by omega,?_⟩;rw [<-ht,ep,DL h0]
end
end
end VE
