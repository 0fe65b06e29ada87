import Derived.Test.YtflgmingejdfnaaGreatDoorUap
import Derived.Test.YtflgmingejdfnaaGreatDoorUao
import Derived.Test.YtflgmingejdfnaaGreatDoorUah
import Derived.Test.YtflgmingejdfnaaGreatDoorUal
set_option linter.all false
set_option maxRecDepth 100000
open Bool renaming and_eq_true→yg,not_false→yI,not_true→yM
open Go renaming IntKind→yU
open Int renaming ediv_emod_unique→uL,emod_lt_of_pos→wE,emod_nonneg→wO,gcd→wc,gcd_dvd_left→uR,gcd_dvd_right→uI,gcd_mul_left→yaW,gcd_pos_of_ne_zero_right→ta,lt_tmod_of_pos→yaw,mul_comm→vN,mul_ediv_cancel'→yae,mul_ediv_mul_of_pos→tD,mul_nonneg→vM,natAbs_ediv_of_dvd→vX,natCast_mul→xS,reduceEq→vn,reduceLT→tM,tdiv_eq_ediv_of_dvd→tE,tmod_eq_emod_of_nonneg→y9,tmod_lt_of_pos→yav
open List renaming cons_append→yW,drop→xz,drop_eq_getElem_cons→yT,drop_eq_nil_of_le→xh,getD_eq_getElem?_getD→xJ,getElem?_eq_getElem→wQ,length_append→yO,length_cons→yy,length_map→xm,length_take→yS,map_append→xt,range→xg,take_of_length_le→yK,take_succ_eq_append_getElem→wz
open Nat renaming ble→yE,ble_eq_true_of_le→yu,blt→yJ,div_le_self→vQ,gcd→wj,gcd_comm→uE,gcd_rec→ycb,gcd_zero_right→yax,le_of_ble_eq_true→yC,le_refl→yB,mod_eq_of_lt→yP,mod_lt→xD,mul_one→yi,pow_le_pow_right→xk,pow_succ→xj,reduceAdd→yb,reduceEqDiff→ya,reduceLeDiff→ye,strongRecOn→vZ,zero_add→yd
open Option renaming getD_some→vt
open Option.some renaming injEq→yc
namespace VE
section
open Go (IntKind)
section
variable {P:aI} {L:Lib}
def s3 (h:Has P L 3 c3) (gV:Has P L 30 sf) {v:AV} {s:List (List Int)} (hv:bU v s):af P L 3 [v] (aa (dz s)):=by
 have inner:∀{i:Nat} (hi:i<s.length),s[i].length=s.length->s.length<=16->∀k st,(∃j:Nat,bA [0,3,4] st=⟨[(0,v),(3,aa i),(4,aa j)],[],0,0⟩/\j+k=s.length/\cw (-1000) 1000 (s[i].drop j)=cw (-1000) 1000 s[i])->
   ∃ex st',D P L (.loop [0,3,4] Pq) st=some (ex,st')/\∃tm ct,st'=⟨tm,[],ct,0⟩/\((ex= .ret/\ab tm 2=aa 3/\cw (-1000) 1000 s[i]=true)\/(ex= .exit 2/\ab tm 0=v/\ab tm 3=aa i/\cw (-1000) 1000 s[i]=false)):=by
  intro i hi hr hl
  refine cg (I:=fun k st=>∃j:Nat,st=⟨[(0,v),(3,aa i),(4,aa j)],[],0,0⟩/\j+k=s.length/\cw (-1000) 1000 (s[i].drop j)=cw (-1000) 1000 s[i])
   (Q:=fun ex st=>∃tm ct,st=⟨tm,[],ct,0⟩/\((ex= .ret/\ab tm 2=aa 3/\cw (-1000) 1000 s[i]=true)\/(ex= .exit 2/\ab tm 0=v/\ab tm 3=aa i/\cw (-1000) 1000 s[i]=false))) ?_
  rintro k st ⟨j,rfl,hk,hf⟩;simp only [go_sem,ya,Pq,hv.len];obtain ⟨r,rest,bS,dQ⟩:=hv.aY hi;by_cases hj:j<s.length
  ·have ol:(j:Int)<s.length:=by omega
   have EW:j<s[i].length:=by omega
   rw [SH EW] at hf;by_cases h1:s[i][j]< -1000\/1000<s[i][j]
   ·right
    rw [yF h1] at hf;simp only [go_sem,ya,ol,dQ,bS.aY EW,qU gV,h1,yV,vn];refine ⟨_,_,rfl,by simp,_,_,rfl,.inl ⟨rfl,?_,hf.symm⟩⟩;simp only [go_sem]
   ·left
    rw [yr h1] at hf;simp only [go_sem,ya,ol,dQ,bS.aY EW,qU gV,h1,yN];refine ⟨_,k-1,rfl,by omega,j+1,?_,by omega,hf⟩;rw [wrap64 (by omega) (by omega)];simp only [go_sem,ya,av,az hv.pu,aE _ hv.pu]<;>rfl
  ·right
   simp only [go_sem,show ¬(j:Int)<s.length by omega];refine ⟨_,_,rfl,by simp,_,_,rfl,.inr ⟨rfl,?_,?_,?_⟩⟩
   ·simp only [go_sem,ya]
   ·simp only [go_sem,ya]
   ·rw [<-hf,xh (by omega)];rfl
 have key:=cg (P:=P) (L:=L) (live:=[0,3]) (a:=Pr)
  (I:=fun k st=>∃i:Nat,st=⟨[(0,v),(3,aa i)],[],0,0⟩/\i+k=s.length/\s.length<=16/\dT s.length (-1000) 1000 (s.drop i)=dT s.length (-1000) 1000 s)
  (Q:=fun ex st=>∃tm ct,st=⟨tm,[],ct,0⟩/\((ex= .ret/\ab tm 2=aa (dT s.length (-1000) 1000 s))\/(ex= .exit 0/\dT s.length (-1000) 1000 s=0))) ?_
 ·unfold af;rw [aq h];unfold dz;by_cases h1:s.length=0
  ·simp only [go_sem,ya,c3,hv.len,show (s.length:Int)=0 by omega];rw [yF h1]
  ·rw [yr h1];by_cases h2:16<s.length
   ·simp only [go_sem,ya,c3,hv.len,show ¬(s.length:Int)=0 by omega,show (16:Int)<s.length by omega];rw [yF h2]
   ·simp only [go_sem,ya,c3,hv.len,show ¬(s.length:Int)=0 by omega,show ¬(16:Int)<s.length by omega];rw [yr h2];generalize hq:D P L (.loop [0,3] Pr) _=q;obtain ⟨ex,st,rfl,tm,ct,rfl,h2⟩:=bV hq (key s.length) ⟨0,by simp only [go_sem,ya,av,az hv.pu,aE _ hv.pu]<;>rfl,by omega,by omega,rfl⟩
    rcases h2 with ⟨rfl,h2⟩ | ⟨rfl,h2⟩
    ·simp only [go_sem,h2]
    ·rw [h2];simp only [go_sem]
 ·rintro k st ⟨i,rfl,hk,hl,hf⟩;simp only [go_sem,ya,Pr,hv.len];by_cases hi:i<s.length
  ·have cu:(i:Int)<s.length:=by omega
   rw [Sf hi] at hf;obtain ⟨r,rest,bS,dQ⟩:=hv.aY hi;by_cases h1:s[i].length=s.length
   ·simp only [h1,uZ,wD,yN] at hf;simp only [go_sem,ya,cu,dQ,bS.len,hv.len,show (s[i].length:Int)=s.length by omega];generalize hq:D P L (.loop [0,3,4] Pq) _=q;obtain ⟨ex,st,rfl,tm,ct,rfl,h2⟩:=bV hq (inner hi h1 hl s.length) ⟨0,by simp only [go_sem,ya,av,az hv.pu,aE _ hv.pu]<;>rfl,by omega,rfl⟩
    rcases h2 with ⟨rfl,h2,h3⟩ | ⟨rfl,h2,h3,h4⟩
    ·right
     rw [yF h3] at hf;exact ⟨_,_,rfl,by simp,_,_,rfl,.inl ⟨rfl,by rw [h2,<-hf]⟩⟩
    ·left
     rw [yr (by simp [h4])] at hf;simp only [go_sem,ya,av,h2,h3,az hv.pu,aE _ hv.pu];refine ⟨_,k-1,rfl,by omega,i+1,?_,by omega,hl,hf⟩;rw [wrap64 (by omega) (by omega)];simp only [go_sem,ya,av,az hv.pu,aE _ hv.pu]<;>rfl
   ·right
    simp only [h1,uZ,ux,yV] at hf;simp only [go_sem,ya,cu,dQ,bS.len,hv.len,show ¬(s[i].length:Int)=s.length by omega];refine ⟨_,_,rfl,by simp,_,_,rfl,.inl ⟨rfl,?_⟩⟩;simp only [go_sem,<-hf]
  ·right
   simp only [go_sem,show ¬(i:Int)<s.length by omega];refine ⟨_,_,rfl,by simp,_,_,rfl,.inr ⟨rfl,?_⟩⟩;rw [<-hf,xh (by omega)];rfl
def s10 (h:Has P L 10 nI) (gV:Has P L 30 sf) {v:AV} {s:List (List Int)} (hv:bU v s):af P L 10 [v] (aa (pH s)):=by
 have inner:∀{i:Nat} (hi:i<s.length),s[i].length=s.length->s.length<=16->∀k st,(∃j:Nat,bA [0,3,4] st=⟨[(0,v),(3,aa i),(4,aa j)],[],0,0⟩/\j+k=s.length/\cw (-100) 100 (s[i].drop j)=cw (-100) 100 s[i])->
   ∃ex st',D P L (.loop [0,3,4] OH) st=some (ex,st')/\∃tm ct,st'=⟨tm,[],ct,0⟩/\((ex= .ret/\ab tm 2=aa 3/\cw (-100) 100 s[i]=true)\/(ex= .exit 2/\ab tm 0=v/\ab tm 3=aa i/\cw (-100) 100 s[i]=false)):=by
  intro i hi hr hl
  refine cg (I:=fun k st=>∃j:Nat,st=⟨[(0,v),(3,aa i),(4,aa j)],[],0,0⟩/\j+k=s.length/\cw (-100) 100 (s[i].drop j)=cw (-100) 100 s[i])
   (Q:=fun ex st=>∃tm ct,st=⟨tm,[],ct,0⟩/\((ex= .ret/\ab tm 2=aa 3/\cw (-100) 100 s[i]=true)\/(ex= .exit 2/\ab tm 0=v/\ab tm 3=aa i/\cw (-100) 100 s[i]=false))) ?_
  rintro k st ⟨j,rfl,hk,hf⟩;simp only [go_sem,ya,OH,hv.len];obtain ⟨r,rest,bS,dQ⟩:=hv.aY hi;by_cases hj:j<s.length
  ·have ol:(j:Int)<s.length:=by omega
   have EW:j<s[i].length:=by omega
   rw [SH EW] at hf;by_cases h1:s[i][j]< -100\/100<s[i][j]
   ·right
    rw [yF h1] at hf;simp only [go_sem,ya,ol,dQ,bS.aY EW,qU gV,h1,yV,vn];refine ⟨_,_,rfl,by simp,_,_,rfl,.inl ⟨rfl,?_,hf.symm⟩⟩;simp only [go_sem]
   ·left
    rw [yr h1] at hf;simp only [go_sem,ya,ol,dQ,bS.aY EW,qU gV,h1,yN];refine ⟨_,k-1,rfl,by omega,j+1,?_,by omega,hf⟩;rw [wrap64 (by omega) (by omega)];simp only [go_sem,ya,av,az hv.pu,aE _ hv.pu]<;>rfl
  ·right
   simp only [go_sem,show ¬(j:Int)<s.length by omega];refine ⟨_,_,rfl,by simp,_,_,rfl,.inr ⟨rfl,?_,?_,?_⟩⟩
   ·simp only [go_sem,ya]
   ·simp only [go_sem,ya]
   ·rw [<-hf,xh (by omega)];rfl
 have key:=cg (P:=P) (L:=L) (live:=[0,3]) (a:=OI)
  (I:=fun k st=>∃i:Nat,st=⟨[(0,v),(3,aa i)],[],0,0⟩/\i+k=s.length/\s.length<=16/\dT s.length (-100) 100 (s.drop i)=dT s.length (-100) 100 s)
  (Q:=fun ex st=>∃tm ct,st=⟨tm,[],ct,0⟩/\((ex= .ret/\ab tm 2=aa (dT s.length (-100) 100 s))\/(ex= .exit 0/\dT s.length (-100) 100 s=0))) ?_
 ·unfold af;rw [aq h];unfold pH;by_cases h1:s.length=0
  ·simp only [go_sem,ya,nI,hv.len,show (s.length:Int)=0 by omega];rw [yF h1]
  ·rw [yr h1];by_cases h2:5<s.length
   ·simp only [go_sem,ya,nI,hv.len,show ¬(s.length:Int)=0 by omega,show (5:Int)<s.length by omega];rw [yF h2]
   ·rw [yr h2];have hm:(s.length:Int).tmod 2=(s.length%2:Nat):=by rw [y9 (by omega)];rfl
    have hd:(2:Int)≠0:=by decide
    by_cases h3:s.length%2=0
    ·simp only [go_sem,ya,nI,hv.len,show ¬(s.length:Int)=0 by omega,show ¬(5:Int)<s.length by omega,dK _ _ _ hd,hm,show ((s.length%2:Nat):Int)=0 by omega];rw [yF h3]
    ·simp only [go_sem,ya,nI,hv.len,show ¬(s.length:Int)=0 by omega,show ¬(5:Int)<s.length by omega,dK _ _ _ hd,hm,show ¬((s.length%2:Nat):Int)=0 by omega];rw [yr h3];generalize hq:D P L (.loop [0,3] OI) _=q;obtain ⟨ex,st,rfl,tm,ct,rfl,h2⟩:=bV hq (key s.length) ⟨0,by simp only [go_sem,ya,av,az hv.pu,aE _ hv.pu]<;>rfl,by omega,by omega,rfl⟩
     rcases h2 with ⟨rfl,h2⟩ | ⟨rfl,h2⟩
     ·simp only [go_sem,h2]
     ·rw [h2];simp only [go_sem]
 ·rintro k st ⟨i,rfl,hk,hl,hf⟩;simp only [go_sem,ya,OI,hv.len];by_cases hi:i<s.length
  ·have cu:(i:Int)<s.length:=by omega
   rw [Sf hi] at hf;obtain ⟨r,rest,bS,dQ⟩:=hv.aY hi;by_cases h1:s[i].length=s.length
   ·simp only [h1,uZ,wD,yN] at hf;simp only [go_sem,ya,cu,dQ,bS.len,hv.len,show (s[i].length:Int)=s.length by omega];generalize hq:D P L (.loop [0,3,4] OH) _=q;obtain ⟨ex,st,rfl,tm,ct,rfl,h2⟩:=bV hq (inner hi h1 hl s.length) ⟨0,by simp only [go_sem,ya,av,az hv.pu,aE _ hv.pu]<;>rfl,by omega,rfl⟩
    rcases h2 with ⟨rfl,h2,h3⟩ | ⟨rfl,h2,h3,h4⟩
    ·right
     rw [yF h3] at hf;exact ⟨_,_,rfl,by simp,_,_,rfl,.inl ⟨rfl,by rw [h2,<-hf]⟩⟩
    ·left
     rw [yr (by simp [h4])] at hf;simp only [go_sem,ya,av,h2,h3,az hv.pu,aE _ hv.pu];refine ⟨_,k-1,rfl,by omega,i+1,?_,by omega,hl,hf⟩;rw [wrap64 (by omega) (by omega)];simp only [go_sem,ya,av,az hv.pu,aE _ hv.pu]<;>rfl
   ·right
    simp only [h1,uZ,ux,yV] at hf;simp only [go_sem,ya,cu,dQ,bS.len,hv.len,show ¬(s[i].length:Int)=s.length by omega];refine ⟨_,_,rfl,by simp,_,_,rfl,.inl ⟨rfl,?_⟩⟩;simp only [go_sem,<-hf]
  ·right
   simp only [go_sem,show ¬(i:Int)<s.length by omega];refine ⟨_,_,rfl,by simp,_,_,rfl,.inr ⟨rfl,?_⟩⟩;rw [<-hf,xh (by omega)];rfl
end
end
section
open Go (IntKind)
section
variable {P:aI} {L:Lib}
def s6 (h:Has P L 6 c6) (gV:Has P L 30 sf) {v:AV} {l:List Int} (hv:bq v l) (P0 side:Int):af P L 6 [aa P0,aa side,v] (aa (nP P0 side l)):=by
 have key:=cg (P:=P) (L:=L) (live:=[2,7,8]) (a:=Ps)
  (I:=fun k st=>∃i:Nat,st=⟨[(2,v),(7,aa (cI (l.take i))),(8,aa i)],[],0,0⟩/\i+k=l.length/\l.length<=33/\cw 0 1000 (l.take i)=false/\cw 0 1000 (l.drop i)=cw 0 1000 l)
  (Q:=fun ex st=>∃tm ct,st=⟨tm,[],ct,0⟩/\((ex= .ret/\ab tm 6=aa 3/\cw 0 1000 l=true)\/(ex= .exit 0/\ab tm 7=aa (cI l)/\cw 0 1000 l=false))) ?_
 ·unfold af;rw [aq h];unfold nP;have hm:(l.length:Int).tmod 2=(l.length%2:Nat):=by rw [y9 (by omega)];rfl
  have hd:(2:Int)≠0:=by decide
  by_cases h1:P0<1\/2147483646<P0
  ·rw [yF h1];simp only [go_sem,ya,c6,qU gV,h1,yV,vn]
  ·rw [yr h1];by_cases h2:side<1\/16<side
   ·rw [yF h2];simp only [go_sem,ya,c6,qU gV,h1,h2,yV,yN,vn]
   ·rw [yr h2];by_cases h3:l.length=0
    ·simp only [go_sem,ya,c6,hv.len,qU gV,h1,h2,yN,show (l.length:Int)=0 by omega];rw [yF h3]
    ·rw [yr h3];by_cases h4:33<l.length
     ·simp only [go_sem,ya,c6,hv.len,qU gV,h1,h2,yN,show ¬(l.length:Int)=0 by omega,show (33:Int)<l.length by omega];rw [yF h4]
     ·rw [yr h4];by_cases h5:l.length%2=0
      ·simp only [go_sem,ya,c6,hv.len,qU gV,h1,h2,yN,show ¬(l.length:Int)=0 by omega,show ¬(33:Int)<l.length by omega,dK _ _ _ hd,hm,show ((l.length%2:Nat):Int)=0 by omega];rw [yF h5]
      ·simp only [go_sem,ya,c6,hv.len,qU gV,h1,h2,yN,show ¬(l.length:Int)=0 by omega,show ¬(33:Int)<l.length by omega,dK _ _ _ hd,hm,show ¬((l.length%2:Nat):Int)=0 by omega];rw [yr h5];generalize hq:D P L (.loop [2,7,8] Ps) _=q;obtain ⟨ex,st,rfl,tm,ct,rfl,h2⟩:=bV hq (key l.length) ⟨0,by simp only [go_sem,ya,av,az hv.pu,aE _ hv.pu]<;>rfl,by omega,by omega,rfl,rfl⟩
       rcases h2 with ⟨rfl,h2,h3⟩ | ⟨rfl,h2,h3⟩
       ·simp only [go_sem,h2];rw [yF h3]
       ·rw [yr (by simp [h3])];by_cases h6:cI l=0
        ·simp only [go_sem,av,h2,h6,yV]
        ·simp only [go_sem,av,h2,h6,yN]
 ·rintro k st ⟨i,rfl,hk,hl,h1,hf⟩;simp only [go_sem,ya,Ps,hv.len];by_cases hi:i<l.length
  ·have cu:(i:Int)<l.length:=by omega
   rw [SH hi] at hf;by_cases h2:l[i]<0\/1000<l[i]
   ·right
    rw [yF h2] at hf;simp only [go_sem,ya,cu,hv.aY hi,qU gV,h2,yV,vn];refine ⟨_,_,rfl,by simp,_,_,rfl,.inl ⟨rfl,?_,hf.symm⟩⟩;simp only [go_sem]
   ·left
    rw [yr h2] at hf;simp only [go_sem,ya,cu,hv.aY hi,qU gV,h2,yN];have hb:=BM h1;have ht:(l.take i).length=i:=by rw [yS];omega
    refine ⟨_,k-1,rfl,by omega,i+1,?_,by omega,hl,?_,hf⟩
    ·rw [wrap64 (n:=(i:Int)+1) (by omega) (by omega),wrap64 (by omega) (by omega),sK hi];simp only [go_sem,ya,av,az hv.pu,aE _ hv.pu]<;>rfl
    ·rw [wz hi];clear ht hb hf hk;generalize l.take i=m at h1
     induction m with
     | nil=>simp [cw];omega
     | cons a r ih=>
      simp only [cw] at h1
      split at h1
      ·cases h1
      ·rename_i hc;simp only [yW,cw,hc,yN];exact ih h1
  ·right
   simp only [go_sem,show ¬(i:Int)<l.length by omega];refine ⟨_,_,rfl,by simp,_,_,rfl,.inr ⟨rfl,?_,?_⟩⟩
   ·simp only [go_sem,ya];rw [yK (by omega)]
   ·rw [yK (by omega)] at h1;exact h1
def s37 (h:Has P L 37 QG) (Me:Has P L 38 LY) {v:AV} {l:List Int} (hv:bq v l) (hl:l.length<=33) (ho:cw 0 1000 l=false):af P L 37 [aa 0,v,.fn (.f 38) [] []] (aa (cI l)):=by
 have key:=cg (P:=P) (L:=L) (live:=[0,2,9,10,11]) (a:=OM)
  (I:=fun k st=>∃i:Nat,st=⟨[(0,aa (cI (l.take i))),(2,.fn (.f 38) [] []),(9,v),(10,aa l.length),(11,aa i)],[],0,0⟩/\i+k=l.length)
  (Q:=fun ex st=>∃tm ct,st=⟨tm,[],ct,0⟩/\ex= .exit 0/\ab tm 0=aa (cI l)) ?_
 ·unfold af;rw [aq h];simp only [go_sem,ya,QG,hv.len];generalize hq:D P L (.loop [0,2,9,10,11] OM) _=q;obtain ⟨ex,st,rfl,tm,ct,rfl,rfl,h2⟩:=bV hq (key l.length) ⟨0,by simp only [go_sem,ya,av,az hv.pu,aE _ hv.pu]<;>rfl,by omega⟩
  simp only [go_sem,av,h2]
 ·rintro k st ⟨i,rfl,hk⟩;simp only [go_sem,ya,OM];by_cases hi:i<l.length
  ·have cu:(i:Int)<l.length:=by omega
   left
   have hb:=BM (Jp ho i);have ht:(l.take i).length=i:=by rw [yS];omega
   have hg:=BS ho i hi
   simp only [go_sem,ya,cu,hv.aY hi,s38 Me,wrap64 (n:=cI (l.take i)+l[i]) (by omega) (by omega)];refine ⟨_,k-1,rfl,by omega,i+1,?_,by omega⟩;rw [wrap64 (by omega) (by omega),sK hi];simp only [go_sem,ya,av,az hv.pu,aE _ hv.pu]<;>rfl
  ·right
   simp only [go_sem,show ¬(i:Int)<l.length by omega];refine ⟨_,_,rfl,by simp,_,_,rfl,rfl,?_⟩;simp only [go_sem,ya];rw [yK (by omega)]
def abm {l:List Int} {f:Int->Int} {i:Nat} (h:i<l.length):((l.take (i+1)).map f).map aa=((l.take i).map f).map aa++[AV.int .i64 (f l[i])]:=by
 rw [wz h,xt,xt];rfl
def s35 (h:Has P L 35 QE) {v:AV} {l:List Int} (hv:bq v l) (hl:l.length<=1000000) {g:Nat} {f:Int->Int} (hg:∀x,af P L g [aa x] (aa (f x))):
  ∃r,af P L 35 [v,.fn (.f g) [] []] r/\bq (shut r) (l.map f):=by
 have key:=cg (P:=P) (L:=L) (live:=[1,5,8,9,10]) (a:=D5)
  (I:=fun k st=>∃i:Nat,i+k=l.length/\((i=0/\st=⟨[(1,.fn (.f g) [] []),(5,.ae),(8,v),(9,aa l.length),(10,aa i)],[],0,0⟩)\/
   (0<i/\st=⟨[(1,.fn (.f g) [] []),(5,.ak 0 0 i),(8,v),(9,aa l.length),(10,aa i)],[(0,.cells true true false 1 (((l.take i).map f).map aa))],1,0⟩)))
  (Q:=fun ex st=>∃tm hp ct,st=⟨tm,hp,ct,0⟩/\ex= .exit 0/\((l.length=0/\ab tm 5= .ae)\/(0<l.length/\ab tm 5= .ak 0 0 l.length/\ap hp 0=some (.cells true true false 1 ((l.map f).map aa))))) ?_
 ·unfold af;rw [aq h];simp only [go_sem,ya,QE,hv.len];generalize hq:D P L (.loop [1,5,8,9,10] D5) _=q;obtain ⟨ex,st,rfl,tm,hp,ct,rfl,rfl,h2⟩:=bV hq (key l.length) ⟨0,by omega,.inl ⟨rfl,by simp only [go_sem,ya,av,az hv.pu,aE _ hv.pu]<;>rfl⟩⟩
  rcases h2 with ⟨h2,h3⟩ | ⟨h2,h3,h4⟩
  ·refine ⟨.ae,by simp only [go_sem,av,h3],?_⟩;rw [List.eq_nil_of_length_eq_zero h2];exact rk
  ·refine ⟨.cR false 1 l.length ((l.map f).map aa),?_,?_⟩
   ·simp only [go_sem,yb,av,h3,h4];exact Sh (Jy _ _ _) (by simp) (by decide)
   ·have:=fN false (l.map f)
    rwa [xm] at this
 ·rintro k st ⟨i,hk,bh⟩;by_cases hi:i<l.length
  ·have cu:(i:Int)<l.length:=by omega
   left
   rcases bh with ⟨h0,rfl⟩ | ⟨h0,rfl⟩
   ·subst h0;simp only [go_sem,ya,yb,Nat.reduceMul,Nat.reduceLT,ye,yi,D5,show ((0:Nat):Int)<l.length from cu,hv.aY hi,hg,ki];refine ⟨_,k-1,rfl,by omega,1,by omega,.inr ⟨by omega,?_⟩⟩;rw [wrap64 (by omega) (by omega),abm hi];simp only [go_sem,ya,yb,av,az hv.pu,aE _ hv.pu]<;>rfl
   ·have hlen:(((l.take i).map f).map aa).length=i:=by simp;omega
    simp only [go_sem,ya,yb,ye,yi,D5,cu,hv.aY hi,hg]
    rw [jN (ex:=false) (pu:=true) (cs:=((l.take i).map f).map aa) (by simp only [go_sem,ya]) (by rw [hlen,yi]) (by omega) (by omega) (by decide) (by simp only [go_sem])];simp only [go_sem,ya,yb];refine ⟨_,k-1,rfl,by omega,i+1,by omega,.inr ⟨by omega,?_⟩⟩;rw [wrap64 (by omega) (by omega),abm hi];simp only [go_sem,ya,yb,av,az hv.pu,aE _ hv.pu]<;>rfl
  ·right
   rcases bh with ⟨h0,rfl⟩ | ⟨h0,rfl⟩
   ·simp only [go_sem,ya,D5,show ¬(i:Int)<l.length by omega];refine ⟨_,_,rfl,by simp,_,_,_,rfl,rfl,.inl ⟨by omega,?_⟩⟩;simp only [go_sem,ya]
   ·simp only [go_sem,ya,D5,show ¬(i:Int)<l.length by omega];refine ⟨_,_,rfl,by simp,_,_,_,rfl,rfl,.inr ⟨by omega,?_,?_⟩⟩
    ·simp only [go_sem,ya];rw [show i=l.length by omega]
    ·simp only [go_sem];rw [yK (by omega)]
end
end
section
def fL (n:Nat) (f:Nat->Nat->Int):List (List Int):=(xg n).map fun r=>(xg n).map fun c=>f c r
def lL (n:Nat) (f:Nat->Nat->Int):(fL n f).length=n:=by simp [fL]
def FL {n:Nat} {f:Nat->Nat->Int} {r:Nat} (h:r<n):(fL n f)[r]'(by rw [lL];exact h)=(xg n).map fun c=>f c r:=by simp [fL]
def n5 (x:Int):Int:=(39373*x)%2147483647
def zd (x:Int):Nat->Int
 | 0=>x
 | k+1=>n5 (zd x k)
def ZT (x:Int):0<=n5 x/\n5 x<=2147483646:=by
 unfold n5;omega
def akU {key:Int} (h:0<=key/\key<=2147483646):∀k,0<=zd key k/\zd key k<=2147483646
 | 0=>h
 | k+1=>ZT _
def qd:List Int->Int->Nat
 | [],_=>0
 | w::r,t=>if t<w then 0 else 1+qd r (t-w)
def alG {w:List Int} {t:Int}:∀k,k<w.length->(∀j,j<k->cI (w.take (j+1))<=t)->qd w t=k+qd (w.drop k) (t-cI (w.take k)):=by
 intro k
 induction k with
 | zero=>intro _ _;simp [cI]
 | succ k ih=>
  intro hk h;have h1:=ih (by omega) (fun j hj=>h j (by omega));have qM:k<w.length:=by omega
  have h2:=h k (by omega);rw [sK qM] at h2;rw [h1,yT qM,qd,yr (by omega),sK qM,show t-cI (w.take k)-w[k]=t-(cI (w.take k)+w[k]) by omega];omega
def apr {w:List Int} {t:Int} {k:Nat} (hk:k<w.length) (h:∀j,j<k->cI (w.take (j+1))<=t) (ht:t<cI (w.take (k+1))):qd w t=k:=by
 rw [alG k hk h,yT hk,qd,yF (by rw [sK hk] at ht;omega)];omega
def acn {w:List Int}:∀{t:Int},t<cI w->0<=t->qd w t<w.length:=by
 induction w with
 | nil=>intro t h h0;simp [cI] at h;omega
 | cons a r ih=>
  intro t h h0;simp only [qd,yy]
  split
  ·omega
  ·have:=ih (t:=t-a) (by simp only [cI] at h;omega) (by omega)
   omega
def gZ (key:Int) (w:List Int) (k:Nat):Int:=(qd w (zd key (k+1)%cI w):Int)-(w.length/2:Nat)
def bG (f:Nat->Int):Nat->Int
 | 0=>0
 | n+1=>bG f n+f n
def Jf {f:Nat->Int} {b:Int} (h:∀k,-b<=f k/\f k<=b):∀n:Nat,-(b*n)<=bG f n/\bG f n<=b*n
 | 0=>by simp [bG]
 | n+1=>by
  have h1:=Jf h n;have h2:=h n;have e:b*((n+1:Nat):Int)=b*n+b:=by grind
  simp only [bG,e];omega
def kv (k:List (List Int)) (j i:Nat):Int:=(k.getD j []).getD i 0
def kW (s k:List (List Int)) (c r:Nat):Int:=
 bG (fun j=>bG (fun i=>kv k j i*bQ s ((c:Int)+i-(k.length/2:Nat)) ((r:Int)+j-(k.length/2:Nat))) k.length) k.length
def aau {lo hi:Int} {l:List Int} (h:cw lo hi l=false) (h0:lo<=0/\0<=hi) (i:Nat):lo<=l.getD i 0/\l.getD i 0<=hi:=by
 by_cases hl:i<l.length
 ·have:=BS h i hl
  grind
 ·grind
def rm {n:Nat} {lo hi:Int} {k:List (List Int)} (h:dT n lo hi k=0) (h0:lo<=0/\0<=hi) (j i:Nat):lo<=kv k j i/\kv k j i<=hi:=by
 unfold kv;by_cases hl:j<k.length
 ·have:=oE h j hl
  simp only [xJ,wQ hl,vt];exact aau this.2 h0 i
 ·grind
def Fj {n:Nat} {lo hi:Int} {s:List (List Int)} (h:dT n lo hi s=0) (h0:lo<=0/\0<=hi) (c r:Int):lo<=bQ s c r/\bQ s c r<=hi:=by
 unfold bQ;by_cases hl:(r%s.length).toNat<s.length
 ·have:=oE h _ hl
  simp only [xJ,wQ hl,vt];exact aau this.2 h0 _
 ·grind
end
section
open Go (IntKind)
section
variable {P:aI} {L:Lib}
def sM {k:yU} {n:Int} (h:0<=n):eC (.int k n)=some n.toNat:=by
 cases n with
 | ofNat n=>rfl
 | negSucc n=>exact absurd h (by simp)
def Th {s:List (List Int)} {n:Nat} (hn:s.length=n) (h0:0<n) (hr:∀i (hi:i<s.length),s[i].length=n) (c r:Int):
  ∃(h1:(r%n).toNat<s.length) (h2:(c%n).toNat<(s[(r%n).toNat]'h1).length),bQ s c r=(s[(r%n).toNat]'h1)[(c%n).toNat]'h2:=by
 have a2:=wE r (show (0:Int)<n by omega);have b2:=wE c (show (0:Int)<n by omega);unfold bQ
 grind
def XM (h:Has P L 97 L8) (oS:Has P L 134 Cv) {v:AV} {s:List (List Int)} (hv:bU v s) {n:Nat} (hn:s.length=n) (h0:0<n) (hl:n<=1000000) (hr:∀i (hi:i<s.length),s[i].length=n) (c r:Int):
  af P L 97 [v,aa c,aa r] (aa (bQ s c r)):=by
 obtain ⟨h1,h2,h3⟩:=Th hn h0 hr c r;have a1:=wO r (show (n:Int)≠0 by omega);have b1:=wO c (show (n:Int)≠0 by omega);obtain ⟨q,rest,fa,ow⟩:=hv.aY h1;have e1:=PX oS (n:=r) (m:=(s.length:Int)) (by omega) (by omega);have e2:=PX oS (n:=c) (m:=(s.length:Int)) (by omega) (by omega);rw [hn] at e1 e2;unfold af at e1 e2 ⊢;rw [aq h];simp only [go_sem,ya,L8,hv.len,hn,e1,e2,sM a1,sM b1,ow,fa.aY h2,h3]
def qt (l:List Int):AV:= .aO false l.length (l.map aa)
def auk (l:List Int):bq (qt l) l:=fN false l
def aul (s:List (List Int)):jy bq (s.map qt) s:=by
 induction s with
 | nil=>trivial
 | cons a r ih=>exact ⟨auk a,ih⟩
def aum (e:Bool) (s:List (List Int)):bU (.aO e s.length (s.map qt)) s:=by
 refine ⟨s.map qt,?_,aul s⟩
 have:=FK e (s.map qt)
 rwa [xm] at this
def px:List AV->AV
 | []=> .ae
 | a::r=> .ak 0 0 (r.length+1)
def Br:List AV->List AV->AV
 | _,[]=> .ae
 | [],b::q=> .ak 0 0 (q.length+1)
 | _::_,b::q=> .ak 1 0 (q.length+1)
def nL:List AV->List AV->Hp
 | [],[]=>[]
 | a::r,[]=>[(0,.cells true true false 1 (a::r))]
 | [],b::q=>[(0,.cells true true false 1 (b::q))]
 | a::r,b::q=>[(1,.cells true true false 1 (b::q)),(0,.cells true true false 1 (a::r))]
def so:List AV->List AV->Nat
 | [],[]=>0
 | _::_,[]=>1
 | [],_::_=>1
 | _::_,_::_=>2
def OY:px []= .ae:=rfl
def Gx (a:AV) (r:List AV):px (a::r)= .ak 0 0 (r.length+1):=rfl
def agY (o:List AV):Br o []= .ae:=by cases o<;>rfl
def afH (b:AV) (q:List AV):Br [] (b::q)= .ak 0 0 (q.length+1):=rfl
def afI (a:AV) (r:List AV) (b:AV) (q:List AV):Br (a::r) (b::q)= .ak 1 0 (q.length+1):=rfl
def Uv:nL [] []=[]:=rfl
def Kg (a:AV) (r:List AV):nL (a::r) []=[(0,.cells true true false 1 (a::r))]:=rfl
def afJ (b:AV) (q:List AV):nL [] (b::q)=[(0,.cells true true false 1 (b::q))]:=rfl
def afK (a:AV) (r:List AV) (b:AV) (q:List AV):nL (a::r) (b::q)=[(1,.cells true true false 1 (b::q)),(0,.cells true true false 1 (a::r))]:=rfl
def Uw:so [] []=0:=rfl
def Ou (a:AV) (r:List AV):so (a::r) []=1:=rfl
def aun (b:AV) (q:List AV):so [] (b::q)=1:=rfl
def auo (a:AV) (r:List AV) (b:AV) (q:List AV):so (a::r) (b::q)=2:=rfl
end
end
section
open Go (IntKind)
section
variable {P:aI} {L:Lib}
def aZ (k id o:Nat):Gm k (.ptr id o)=some (.ptr id (o+k)):=rfl
def cC {α:Type} (a:α) (l:List α):xz 1 (a::l)=l:=rfl
def D6 {α:Type} (a b:α) (l:List α):xz 2 (a::b::l)=l:=rfl
def U6 {α:Type} (a b c:α) (l:List α):xz 3 (a::b::c::l)=l:=rfl
def alH (x:Int) (k:Nat):zd x (k+1)=n5 (zd x k):=rfl
def oO (s k:List (List Int)) (c r:Nat) (j i:Nat):Int:=kv k j i*bQ s ((c:Int)+i-(k.length/2:Nat)) ((r:Int)+j-(k.length/2:Nat))
def alI (s k:List (List Int)) (c r:Nat):kW s k c r=bG (fun j=>bG (oO s k c r j) k.length) k.length:=rfl
def Nt {a b x y:Int} (h1: -a<=x/\x<=a) (h2: -b<=y/\y<=b): -(a*b)<=x*y/\x*y<=a*b:=by
 have p1:=vM (show 0<=a-x by omega) (show 0<=b-y by omega);have p2:=vM (show 0<=a+x by omega) (show 0<=b+y by omega);have p3:=vM (show 0<=a-x by omega) (show 0<=b+y by omega);have p4:=vM (show 0<=a+x by omega) (show 0<=b-y by omega)
 grind
def ZU {s k:List (List Int)} {n m:Nat} (hs:dT n (-1000) 1000 s=0) (hk:dT m (-100) 100 k=0) (c r j i:Nat): -100000<=oO s k c r j i/\oO s k c r j i<=100000:=
 Nt (rm hk (by decide) j i) (Fj hs (by decide) _ _)
def ZV {s k:List (List Int)} {n m:Nat} (hs:dT n (-1000) 1000 s=0) (hk:dT m (-100) 100 k=0) (c r j:Nat) (i:Nat): -(100000*i)<=bG (oO s k c r j) i/\bG (oO s k c r j) i<=100000*i:=
 Jf (fun i=>ZU hs hk c r j i) i
def AA {k:List (List Int)} {j i:Nat} (hj:j<k.length) (hi:i<k[j].length):k[j][i]=kv k j i:=by
 unfold kv
 grind
def U7 (s k:List (List Int)) (r:Nat) (c:Nat):List Int:=(xg c).map fun c=>kW s k c r
def anb (s k:List (List Int)) (r c:Nat):(U7 s k r c).length=c:=by simp [U7]
def Gc (s k:List (List Int)) (n:Nat) (r:Nat):List (List Int):=(xg r).map fun r=>U7 s k r n
def oT:List (List Int)->Bool
 | []=>false
 | l::r=>cw (-1000) 1000 l||oT r
end
end
section
open Go (IntKind)
section
variable {P:aI} {L:Lib}
abbrev Nm (n:Int):AV:= .agg [aa n,.ae]
def iT (hp:Hp) (ct id:Nat) (a:Int) (x y:AV):fu hp ct id 0 2 [.int .i64 a,.ae] (some (.cells true true true 2 [x,y]))=some (.aw [],bf hp id (.cells true true true 2 [.int .i64 a,.ae]),ct):=rfl
def Ao (hp:Hp):iV .sl .ae .ae=some true:=rfl
def dA (b:Bool):K5 false (some b)=some (.bool b):=by cases b<;>rfl
def Ux (f:cT) (tm:Env) (hp:Hp) (ct:Nat) (x y:X):bC P L f tm hp ct (.mn [x,y])=rd hp ct (min2 (aC tm x) (aC tm y)):=by
 simp only [bC,rd,bH,dS,Cf]
 grind
def Gd (f:cT) (tm:Env) (hp:Hp) (ct:Nat) (x y:X):bC P L f tm hp ct (.mx [x,y])=rd hp ct (max2 (aC tm x) (aC tm y)):=by
 simp only [bC,rd,bH,dS,Cf]
 grind
def Ti (k k':yU) (x y:Int):min2 (.int k x) (.int k' y)=some (.int k (if y<x then y else x)):=rfl
def FB (k k':yU) (x y:Int):max2 (.int k x) (.int k' y)=some (.int k (if y>x then y else x)):=rfl
def cA (n:Int):Int:=if n<0 then -1 else if n=0 then 0 else 1
def afL (n:Int):(if (if n<1 then n else 1)> -1 then (if n<1 then n else 1) else -1)=cA n:=by
 unfold cA
 grind
def n117 (h:Has P L 117 KH) (n:Int):af P L 117 [aa n] (Nm n):=by
 unfold af;rw [aq h];simp only [go_sem,ya,yb,ye,KH,aG,yd,iT];rfl
def n147 (h:Has P L 147 rK) {n:Int} (hn: -9223372036854775808<n/\n<9223372036854775808):af P L 147 [Nm n] (Nm (-n)):=by
 unfold af;rw [aq h]
 simp only [go_sem,ya,yb,ye,rK,aG,iT,Ao,dA,aZ,yd,cC,show ¬n= -9223372036854775808 by omega,wrap64 (n:=0-n) (by omega) (by omega)];simp only [Int.zero_sub];rfl
def n146 (h:Has P L 146 zj) (n:Int):af P L 146 [Nm n] (aa (cA n)):=by
 unfold af;rw [aq h];simp only [go_sem,ya,yb,zj,aG,aZ,yd,Ux,Gd,Ti,FB,afL]
def n7 (hp:Hp) (p q:Bool):iV .b (.bool p) (.bool q)=some (p==q):=rfl
end
end
section
open Go (IntKind)
section
variable {P:aI} {L:Lib}
def iP {n:Nat} {sp:List AV->Option AV} (h:L.pure n=some sp) {f:cT} (vals:List AV):bY P L f n vals=sp vals:=by simp only [bY,h]
abbrev ss (n:Int):AV:= .int .u64 n
def U8 {n:Int} (h1:0<=n) (h2:n<18446744073709551616):IntKind.wrap .u64 n=n:=by
 simp only [IntKind.wrap,IntKind.signed,IntKind.bits]
 grind
def Ov (n:Int):oP (.toInt .u64) (aa n)=some (ss (IntKind.wrap .u64 n)):=rfl
def Ge (n:Int):oP (.toInt .i64) (ss n)=some (aa (IntKind.wrap .i64 n)):=rfl
def DW (b:Bool):K5 true (some b)=some (.bool (!b)):=by cases b<;>rfl
def aup (a b c d:AV):over 0 [a,b] [c,d]=[a,b]:=rfl
def bZ (a b:AV) (r:List AV):eY 2 true (a::b::r)=some (.agg [a,b]):=rfl
def gL (a b c d:AV) (r:List AV):eY 4 true (a::b::c::d::r)=some (.agg [a,b,c,d]):=rfl
def n142 (h:Has P L 142 AT) {n:Int} (hn: -9223372036854775808<n/\n<9223372036854775808):af P L 142 [aa n] (ss n.natAbs):=by
 unfold af;rw [aq h];by_cases h0:n<0
 ·simp only [go_sem,ya,AT,h0,Ov,wrap64 (n:=0-n) (by omega) (by omega),U8 (n:=0-n) (by omega) (by omega)];rw [show 0-n=(n.natAbs:Int) by omega]
 ·simp only [go_sem,ya,AT,h0,Ov,U8 (n:=n) (by omega) (by omega)];rw [show n=(n.natAbs:Int) by omega];rfl
def akV {x y:Nat} (hx:x<18446744073709551616) (hy:y<18446744073709551616) (h:x*y<18446744073709551616):oI [ss x,ss y]=some (.aw [ss 0,ss (x*y:Nat)]):=by
 show (bif yJ x 18446744073709551616&&yJ y 18446744073709551616 then _ else none)=_
 rw [show yJ x 18446744073709551616=true from yu (by omega),show yJ y 18446744073709551616=true from yu (by omega)];simp only [Bool.and_self,ym,Nat.div_eq_of_lt h,yP h];rfl
def n100 (h:Has P L 100 kH) (Er:Has P L 142 AT) (me:L.pure 143=some oI) {a b:Int} (ha: -4611686018427387904<a/\a<4611686018427387904) (hb: -4611686018427387904<b/\b<4611686018427387904) (hm:a.natAbs*b.natAbs<4611686018427387904):af P L 100 [Nm a,Nm b] (Nm (a*b)):=by
 have e1:=n142 Er (n:=a) (by omega);have e2:=n142 Er (n:=b) (by omega);have e3:bY P L (D P L) 143 [ss a.natAbs,ss b.natAbs]=some (.aw [ss 0,ss (a.natAbs*b.natAbs:Nat)]):=by
  rw [iP me];exact akV (by omega) (by omega) (by omega)
 unfold af at e1 e2 ⊢;rw [aq h];have key:∃m:Nat,a.natAbs*b.natAbs=m:=⟨_,rfl⟩;obtain ⟨m,fR⟩:=key;rw [fR] at e3 hm;by_cases hs:(decide (a<0)==decide (b<0))=true
 ·have e5:a*b=(m:Int):=by
   have:decide (a<0)=decide (b<0):=eq_of_beq hs
   have zV:(a<0)=(b<0):=by simpa using this
   rw [<-fR];by_cases h1:a<0
   ·have h2:b<0:=zV▸h1;rw [xS,show (a.natAbs:Int)= -a by omega,show (b.natAbs:Int)= -b by omega,Int.neg_mul_neg]
   ·have h2:¬b<0:=zV▸h1;rw [xS,show (a.natAbs:Int)=a by omega,show (b.natAbs:Int)=b by omega]
  rw [e5]
  simp only [go_sem,ya,yb,ye,kH,aG,iT,Ao,dA,DW,yM,n7,aZ,yd,cC,e1,e2,e3,show (m:Int)<=9223372036854775807 by omega,hs,Ge,wrap64 (n:=(m:Int)) (by omega) (by omega)];rfl
 ·have hs:(decide (a<0)==decide (b<0))=false:=by simpa using hs
  have e5:a*b=0-(m:Int):=by
   rw [<-fR];by_cases h1:a<0
   ·have h2:¬b<0:=fun h2=>by simp [h1,h2] at hs
    rw [xS,show (a.natAbs:Int)= -a by omega,show (b.natAbs:Int)=b by omega,Int.neg_mul];omega
   ·have h2:b<0:=by
     by_cases h2:b<0
     ·exact h2
     ·simp [h1,h2] at hs
    rw [xS,show (a.natAbs:Int)=a by omega,show (b.natAbs:Int)= -b by omega,Int.mul_neg];omega
  rw [e5]
  simp only [go_sem,ya,yb,ye,kH,aG,iT,Ao,dA,DW,yI,n7,aZ,yd,cC,e1,e2,e3,show (m:Int)<=9223372036854775807 by omega,hs,Ge,wrap64 (n:=(m:Int)) (by omega) (by omega),wrap64 (n:=0-(m:Int)) (by omega) (by omega)];rfl
def n163 (h:Has P L 163 zk) (qu:Has P L 147 rK) {n:Int} (hn: -9223372036854775808<n/\n<9223372036854775808):af P L 163 [Nm n] (Nm n.natAbs):=by
 have e1:=n147 qu hn;unfold af at e1 ⊢;rw [aq h];by_cases h0:n<0
 ·simp only [go_sem,ya,yb,zk,aG,iT,aZ,yd,h0,bZ,bl,e1];rw [show -n=(n.natAbs:Int) by omega];rfl
 ·simp only [go_sem,ya,yb,zk,aG,iT,aZ,yd,h0,bZ];rw [show ((n.natAbs:Nat):Int)=n by omega];rfl
def abn {a b:Int} (hb:0<b):(a.tmod b<0->a/b=a.tdiv b-1/\a%b=a.tmod b+b)/\(¬a.tmod b<0->a/b=a.tdiv b/\a%b=a.tmod b):=by
 have h1:=Int.mul_tdiv_add_tmod a b;have h2:a.tmod b<b:=yav a hb;have h3: -b<a.tmod b:=yaw a hb;refine ⟨fun h=>(uL hb).2 ⟨?_,?_,?_⟩,fun h=>(uL hb).2 ⟨?_,?_,?_⟩⟩
 ·grind
 ·omega
 ·omega
 ·omega
 ·omega
 ·omega
def n164 (h:Has P L 164 iJ) {a b:Int} (ha: -4611686018427387904<a/\a<4611686018427387904) (hb:0<b/\b<4611686018427387904):af P L 164 [Nm a,Nm b] (.aw [Nm (a/b),Nm (a%b)]):=by
 obtain ⟨f1,f2⟩:=abn (a:=a) hb.1;have hq: -4611686018427387904<a.tdiv b/\a.tdiv b<4611686018427387904:=by
  have:=Int.natAbs_tdiv_le_natAbs a b
  omega
 have hr: -4611686018427387904<a.tmod b/\a.tmod b<4611686018427387904:=by
  have:=yav a hb.1
  have:=yaw a hb.1
  omega
 unfold af;rw [aq h];by_cases h0:a.tmod b<0
 ·obtain ⟨g1,g2⟩:=f1 h0;rw [g1,g2]
  simp only [go_sem,ya,yb,ye,iJ,aG,iT,Ao,dA,aZ,yd,cC,show ¬a= -9223372036854775808 by omega,eU _ _ _ (show b≠0 by omega),dK _ _ _ (show b≠0 by omega),h0,wrap64 (n:=a.tdiv b) (by omega) (by omega),wrap64 (n:=a.tdiv b-1) (by omega) (by omega),wrap64 (n:=a.tmod b+b) (by omega) (by omega)];rfl
 ·obtain ⟨g1,g2⟩:=f2 h0;rw [g1,g2]
  simp only [go_sem,ya,yb,ye,iJ,aG,iT,Ao,dA,aZ,yd,cC,show ¬a= -9223372036854775808 by omega,eU _ _ _ (show b≠0 by omega),dK _ _ _ (show b≠0 by omega),h0,wrap64 (n:=a.tdiv b) (by omega) (by omega)];rfl
def n148 (h:Has P L 148 Em) (oc:Has P L 146 zj) (nB:Has P L 164 iJ) {a b:Int} (ha: -4611686018427387904<a/\a<4611686018427387904) (hb:0<b/\b<4611686018427387904):af P L 148 [Nm a,Nm b] (Nm (a/b)):=by
 have e1:=n146 oc b;have e2:=n164 nB ha hb;have e3:cA b=1:=by unfold cA;rw [yr (by omega),yr (by omega)]
 rw [e3] at e1;unfold af at e1 e2 ⊢;rw [aq h];simp only [go_sem,ya,yb,Em,tM,yp,aG,iT,yd,bZ,bl,e1,e2,rh];rfl
def aco (a b:Nat) (hb:b≠0):wj b (a%b)=wj a b:=by
 rw [uE b,<-ycb,uE]
def auq (oc:Has P L 146 zj) (nB:Has P L 164 iJ) (G:Nat):
  ∀k s,(∃x y:Nat,bA [2,3,4] s=⟨[(2,.ptr 0 0),(3,.ptr 1 0),(4,.ptr 2 0)],[(2,.cells true true true 2 [aa 0,.ae]),(1,.cells true true true 2 [aa y,.ae]),(0,.cells true true true 2 [aa x,.ae])],3,0⟩/\x<4611686018427387904/\y<4611686018427387904/\wj x y=G/\y=k)->
   ∃ex s',D P L (.loop [2,3,4] Av) s=some (ex,s')/\∃tm,s'=⟨tm,[(2,.cells true true true 2 [aa 0,.ae]),(1,.cells true true true 2 [aa 0,.ae]),(0,.cells true true true 2 [aa G,.ae])],3,0⟩/\ex= .exit 0/\ab tm 2= .ptr 0 0/\ab tm 4= .ptr 2 0:=by
 refine cg (I:=fun k s=>∃x y:Nat,s=⟨[(2,.ptr 0 0),(3,.ptr 1 0),(4,.ptr 2 0)],[(2,.cells true true true 2 [aa 0,.ae]),(1,.cells true true true 2 [aa y,.ae]),(0,.cells true true true 2 [aa x,.ae])],3,0⟩/\x<4611686018427387904/\y<4611686018427387904/\wj x y=G/\y=k)
  (Q:=fun ex s'=>∃tm,s'=⟨tm,[(2,.cells true true true 2 [aa 0,.ae]),(1,.cells true true true 2 [aa 0,.ae]),(0,.cells true true true 2 [aa G,.ae])],3,0⟩/\ex= .exit 0/\ab tm 2= .ptr 0 0/\ab tm 4= .ptr 2 0) ?_
 rintro k s ⟨x,y,rfl,hx,hy,hG,rfl⟩;have e1:=n146 oc (y:Int);by_cases jk:y=0
 ·right
  subst jk;have e3:cA ((0:Nat):Int)=0:=rfl;rw [e3] at e1;simp only [go_sem,ya,Av,yq,yM,bZ,bl,e1];obtain rfl:x=G:=by rw [<-hG,yax]
  exact ⟨_,_,rfl,by simp,_,rfl,rfl,by simp only [go_sem,ya],by simp only [go_sem,ya]⟩
 ·left
  have e3:cA (y:Int)=1:=by unfold cA;rw [yr (by omega),yr (by omega)]
  rw [e3] at e1;have e2:=n164 nB (a:=x) (b:=y) (by omega) (by omega);rw [show ((x:Int)%(y:Int))=((x%y:Nat):Int) from rfl] at e2;have bm:=xD x (show 0<y by omega);simp only [go_sem,ya,yb,Av,vn,yp,yI,aG,iT,bZ,bl,e1,e2,rh];refine ⟨_,x%y,rfl,bm,y,x%y,?_,hy,by omega,by rw [<-hG];exact aco x y jk,rfl⟩
  simp only [go_sem,ya,yb,av,aup,Bool.true_and]
def n130 (h:Has P L 130 El) (A0:Has P L 163 zk) (qu:Has P L 147 rK) (oc:Has P L 146 zj) (nB:Has P L 164 iJ) {a b:Int} (ha: -4611686018427387904<a/\a<4611686018427387904) (hb: -4611686018427387904<b/\b<4611686018427387904):af P L 130 [Nm a,Nm b] (Nm (wc a b:Nat)):=by
 have e1:=n163 A0 qu (n:=a) (by omega);have e2:=n163 A0 qu (n:=b) (by omega);unfold af at e1 e2 ⊢;rw [aq h];simp only [go_sem,ya,yb,El,aG,iT,bZ,bl,e1,e2,bB,yd];generalize hq:D P L (.loop [2,3,4] Av) _=q;obtain ⟨ex,s,rfl,tm,rfl,rfl,h2,h4⟩:=bV hq (auq (P:=P) (L:=L) oc nB (wc a b) b.natAbs) ⟨a.natAbs,b.natAbs,by simp only [go_sem,ya,yb,av],by omega,by omega,rfl,rfl⟩;simp only [go_sem,ya,yb,av,h2,h4,iT,bZ];rfl
abbrev Fq (n d:Int):AV:= .agg [aa n,.ae,aa d,.ae]
def B9 (hp:Hp) (ct id:Nat) (a b:Int) (x y z w:AV):fu hp ct id 0 4 [.int .i64 a,.ae,.int .i64 b,.ae] (some (.cells true true true 4 [x,y,z,w]))=some (.aw [],bf hp id (.cells true true true 4 [.int .i64 a,.ae,.int .i64 b,.ae]),ct):=rfl
def Uy (tm:Env) (x y z w:AV) (a:Int) (r:List (Nat×Nat×X)):iG tm [x,y,z,w] 0 2 [.int .i64 a,.ae] r=fill tm [.int .i64 a,.ae,z,w] r:=rfl
def Uz (tm:Env) (x y z w:AV) (a:Int) (r:List (Nat×Nat×X)):iG tm [x,y,z,w] 2 2 [.int .i64 a,.ae] r=fill tm [x,y,.int .i64 a,.ae] r:=rfl
def n101 (h:Has P L 101 lz) (GU:Has P L 148 Em) (K8:Has P L 130 El) (A0:Has P L 163 zk) (qu:Has P L 147 rK) (oc:Has P L 146 zj) (nB:Has P L 164 iJ) {a b:Int} (ha: -4611686018427387904<a/\a<4611686018427387904) (hb:0<b/\b<4611686018427387904):
  af P L 101 [Nm a,Nm b] (Fq (a/(wc a b:Nat)) (b/(wc a b:Nat))):=by
 have e1:=n146 oc b;have e3:cA b=1:=by unfold cA;rw [yr (by omega),yr (by omega)]
 rw [e3] at e1;have e2:=n130 K8 A0 qu oc nB ha (b:=b) (by omega);have hg:(0:Int)<(wc a b:Nat):=by
  have:=ta a (show b≠0 by omega)
  omega
 have nH:((wc a b:Nat):Int)<4611686018427387904:=by
  have:=Int.gcd_le_natAbs_right a (show b≠0 by omega)
  omega
 have e4:=n148 GU oc nB ha (b:=(wc a b:Nat)) ⟨hg,nH⟩;have e5:=n148 GU oc nB (a:=b) (b:=(wc a b:Nat)) (by omega) ⟨hg,nH⟩;unfold af at e1 e2 e4 e5 ⊢;rw [aq h];by_cases jY:b=1
 ·subst jY;rw [Int.gcd_one];simp only [go_sem,ya,yb,lz,tM,yp,yq,aG,B9,bZ,bl,e1,aZ,yd,cC,Ao,dA,Uy,Uz];rw [show a/((1:Nat):Int)=a from Int.ediv_one a];rfl
 ·simp only [go_sem,ya,yb,lz,tM,yp,aG,iT,B9,bZ,bl,e1,aZ,yd,cC,Ao,dA,jY,e2,e4,e5,bB,Uy,Uz];rfl
def n98 (h:Has P L 98 EQ) (n d:Int):af P L 98 [Fq n d] (.bool (decide (d=1))):=by
 unfold af;rw [aq h];simp only [go_sem,ya,yb,EQ,aG,aZ,yd,D6,U6,Ao,dA]
end
end
section
def bM (a b:Int):Int:=a/(wc a b:Nat)
def bT (a b:Int):Int:=b/(wc a b:Nat)
def FM {a b:Int} (hb:0<b):(0:Int)<(wc a b:Nat):=by
 have:=ta a (show b≠0 by omega)
 omega
def aav {a b k:Int} (hk:0<k):bM (k*a) (k*b)=bM a b:=by
 unfold bM;rw [yaW,xS,show (k.natAbs:Int)=k by omega,tD _ _ hk]
def aaw {a b k:Int} (hk:0<k):bT (k*a) (k*b)=bT a b:=by
 unfold bT;rw [yaW,xS,show (k.natAbs:Int)=k by omega,tD _ _ hk]
def Gf (a b:Int):a=(wc a b:Nat)*bM a b:=(yae (uR a b)).symm
def Kh (a b:Int):b=(wc a b:Nat)*bT a b:=(yae (uI a b)).symm
def BX {a b:Int} (hb:0<b):0<bT a b:=by
 have h1:=FM (a:=a) hb;have h2:=Kh a b;rcases Int.lt_trichotomy (bT a b) 0 with h | h | h
 ·have:=Int.mul_neg_of_pos_of_neg h1 h;omega
 ·grind
 ·exact h
def Ag (a b:Int):(bM a b).natAbs<=a.natAbs:=by
 unfold bM;rw [vX (uR a b)];exact vQ _ _
def Ah (a b:Int):(bT a b).natAbs<=b.natAbs:=by
 unfold bT;rw [vX (uI a b)];exact vQ _ _
def axz {a b c d:Int} (hb:0<b) (hd:0<d) (h:a*d=c*b):bM a b=bM c d/\bT a b=bT c d:=by
 have e1:bM (d*a) (d*b)=bM (b*c) (b*d):=by rw [vN d a,h,vN c b,vN d b]
 have e2:bT (d*a) (d*b)=bT (b*c) (b*d):=by rw [vN d a,h,vN c b,vN d b]
 rw [aav hd,aav hb] at e1;rw [aaw hd,aaw hb] at e2;exact ⟨e1,e2⟩
def jT (a b:Int):List Nat:=if bT a b=1 then aW (bM a b) else aW (bM a b)++[47]++aW (bT a b)
end
section
def agZ {a b:Nat} (h:¬a<b):yJ a b=false:=by
 cases hb:yJ a b with
 | false=>rfl
 | true=>exact absurd (yC hb) (by omega)
def TR:∀(f n:Nat) (acc:List Nat),n<f->nQ f n acc=nQ f n []++acc
 | 0,_,_,h=>by omega
 | f+1,n,acc,h=>by
  simp only [nQ];by_cases h1:n<10
  ·rw [show yJ n 10=true from yu h1];rfl
  ·rw [show yJ n 10=false from agZ (by omega)];rw [TR f (n/10) _ (by omega),TR f (n/10) [48+n%10] (by omega)]
   simp
def SJ {f n:Nat} (h:n<10):nQ (f+1) n []=[48+n]:=by
 simp only [nQ];rw [show yJ n 10=true from yu h];rfl
def TS {f n:Nat} (h:¬n<10) (hf:n<=f):nQ (f+1) n []=nQ f (n/10) []++[48+n%10]:=by
 rw [<-TR f (n/10) _ (by omega)];simp only [nQ];rw [show yJ n 10=false from agZ (by omega)];rfl
def aps:∀(n f:Nat),n<f->nQ f n []=an n:=by
 intro n
 induction n using vZ with
 | _ n ih=>
  intro f hf;obtain ⟨g,rfl⟩:∃g,f=g+1:=⟨f-1,by omega⟩;by_cases h:n<10
  ·rw [SJ h];unfold an;rw [SJ h]
  ·rw [TS h (by omega),ih (n/10) (by omega) g (by omega)];unfold an;rw [TS h (yB n),ih (n/10) (by omega) n (by omega)];rfl
def oD {n:Nat} (h:n<10):an n=[48+n]:=SJ h
def pJ {n:Nat} (h:¬n<10):an n=an (n/10)++[48+n%10]:=by
 rw [show an n=nQ (n+1) n [] from rfl,TS h (yB n),aps (n/10) n (by omega)]
def sO:∀{k n:Nat},n<10^(k+1)->(an n).length<=k+1
 | 0,n,h=>by rw [oD (by simpa using h)];simp
 | k+1,n,h=>by
  by_cases h1:n<10
  ·rw [oD h1];simp
  ·rw [pJ h1,yO]
   have:n/10<10^(k+1):=by
    grind
   have:=sO this
   grind
def Nh {n:Nat} (h:n<18446744073709551616):(an n).length<=20:=sO (k:=19) (by omega)
def lJ (n:Nat):aW (n:Int)=an n:=rfl
def kS {n:Int} (h:n<0):aW n=45::an n.natAbs:=by
 cases n with
 | ofNat n=>exact absurd h (by simp)
 | negSucc n=>rfl
def cr:List Nat->Nat
 | []=>0
 | b::r=>if b=47 then 0 else cr r+1
def akW {s:List Nat} {i:Nat} (h:i<s.length):cr (s.drop i)=if s[i]=47 then 0 else cr (s.drop (i+1))+1:=by
 rw [yT h];rfl
def Jr:∀s:List Nat,cr s<=s.length
 | []=>yB _
 | b::r=>by
  unfold cr
  have:=Jr r
  grind
def dO:List Nat->Bool
 | []=>true
 | b::r=>yE 48 b&&yE b 57&&dO r
def MW:∀(a b:List Nat),dO (a++b)=(dO a&&dO b)
 | [],b=>by simp [dO]
 | x::a,b=>by simp [dO,MW a b,Bool.and_assoc]
def Ac (n:Nat):dO (an n)=true:=by
 induction n using vZ with
 | _ n ih=>
  by_cases h:n<10
  ·rw [oD h];simp [dO];omega
  ·rw [pJ h,MW,ih (n/10) (by omega)];simp [dO];omega
def I8:∀{s:List Nat} (r:List Nat),dO s=true->cr (s++r)=s.length+cr r
 | [],r,_=>by simp
 | b::s,r,h=>by
  simp only [dO,yg] at h;have h1:=yC h.1.1;simp only [yW,cr,yy];rw [yr (by omega),I8 r h.2];omega
def MX:∀(l:List Nat) (a d:Nat),d<10->df (l++[48+d]) a=(df l a).map (fun v=>10*v+d)
 | [],a,d,h=>by
  simp only [List.nil_append,df];rw [show yE 48 (48+d)=true from yu (by omega),show yE (48+d) 57=true from yu (by omega)]
  simp
 | b::l,a,d,h=>by
  simp only [yW,df]
  cases (yE 48 b&&yE b 57) with
  | true=>exact MX l _ d h
  | false=>rfl
def sN (n:Nat):df (an n) 0=some n:=by
 induction n using vZ with
 | _ n ih=>
  by_cases h:n<10
  ·rw [oD h]
   have:=MX [] 0 n h
   simpa [df] using this
  ·rw [pJ h,MX _ _ _ (by omega),ih (n/10) (by omega)]
   simp;omega
def anc {s:List Nat} {i a v:Nat} (h:i<s.length) (hv:df (s.drop i) a=some v):48<=s[i]/\s[i]<=57/\df (s.drop (i+1)) (10*a+(s[i]-48))=some v:=by
 rw [yT h] at hv;simp only [df] at hv
 cases hb:(yE 48 s[i]&&yE s[i] 57) with
 | false=>rw [hb] at hv;cases hv
 | true=>
  simp_all
def iX:Nat->Nat->List Nat
 | 0,_=>[]
 | k+1,n=>iX k (n/10)++[48+n%10]
def Tj:∀k n,(iX k n).length=k
 | 0,_=>rfl
 | k+1,n=>by simp [iX,Tj k]
def NO:∀(k m r:Nat),0<m->r<10^k->an (m*10^k+r)=an m++iX k r
 | 0,m,r,_,h=>by simp at h;subst h;simp [iX]
 | k+1,m,r,hm,h=>by
  have h1:m*10^(k+1)+r=(m*10^k)*10+r:=by grind
  have hp:0<m*10^k:=Nat.mul_pos hm (Nat.pow_pos (by decide));have e1:(m*10^(k+1)+r)/10=m*10^k+r/10:=by omega
  have e2:(m*10^(k+1)+r)%10=r%10:=by omega
  rw [pJ (by omega),e1,e2,NO k m (r/10) hm (by rw [xj] at h;omega)];simp [iX]
def acp:∀(k r a:Nat),r<10^k->df (iX k r) a=some (a*10^k+r)
 | 0,r,a,h=>by simp at h;subst h;simp [iX,df]
 | k+1,r,a,h=>by
  rw [iX,MX _ _ _ (xD _ (by decide)),acp k (r/10) a (by omega)];simp only [Option.map_some,yc,xj]
  grind
def apt {m:Nat} (h:1000000000<=m):an m=an (m/1000000000)++iX 9 (m%1000000000):=by
 have:=NO 9 (m/1000000000) (m%1000000000) (by omega) (by omega)
 grind
end
section
open Go (IntKind)
def iK (s:List Nat) (l h:Option Nat):Option AV:=
 match l,h with
 | some l,some h=>bif yE l h&&yE h s.length then some (.str ((s.take h).drop l)) else none
 | _,_=>none
def fg (hp:Hp) (s:List Nat) (tm:Env) (lo hi:Option X):fT hp .str (.str s) tm lo hi=iK s (de tm 0 lo) (de tm s.length hi):=by
 unfold iK;simp only [fT]
 grind
def fw (tm:Env) (d:Nat):de tm d none=some d:=rfl
def eh (tm:Env) (d:Nat) (x:X):de tm d (some x)=eC (aC tm x):=rfl
def mz {s:List Nat} {l h:Nat} (h1:l<=h) (h2:h<=s.length):iK s (some l) (some h)=some (.str ((s.take h).drop l)):=by
 simp [iK,yu h1,yu h2]
def gH {a b:List Nat} (h:a.length+b.length<=9223372036854775807):binOp .add (.str a) (.str b)=some (.str (a++b)):=by
 show Kl .add a b=_
 simp only [Kl,yu h,ym]
def arO (k:yU) (n:Int):oP (.toInt .i64) (.int k n)=some (aa (IntKind.wrap .i64 n)):=rfl
def iQ (a b:List Nat):binOp .eql (.str a) (.str b)=some (.bool (cN a b)):=rfl
def rA {s:List Nat} {i:Nat} (h:i<s.length):nX i (.str s)=some (.int .u8 (s[i]:Nat)):=by
 simp only [nX,wQ h]
def aax {r:Nat} (h:r<10):iK [48,49,50,51,52,53,54,55,56,57] (some r) (some (r+1))=some (.str [48+r]):=by
 have:r=0\/r=1\/r=2\/r=3\/r=4\/r=5\/r=6\/r=7\/r=8\/r=9:=by omega
 rcases this with rfl | rfl | rfl | rfl | rfl | rfl | rfl | rfl | rfl | rfl<;>rfl
section
variable {P:aI} {L:Lib}
def VS (h:Has P L 292 AW) {n:Nat} (hn:n<9223372036854775808):af P L 292 [aa n,aa 1] (.str (an n)):=by
 have key:=cg (P:=P) (L:=L) (live:=[0,1,5]) (a:=oJ)
  (I:=fun k st=>∃(m:Nat) (s:List Nat),st=⟨[(0,aa m),(1,aa 1),(5,.str s)],[],0,0⟩/\m<=n/\m+(1-s.length)=k/\s.length<=20/\((s=[]/\m=n)\/(0<s.length/\(m=0->s=an n)/\(0<m->an n=an m++s))))
  (Q:=fun ex st=>∃tm ct,st=⟨tm,[],ct,0⟩/\ex= .exit 0/\ab tm 5= .str (an n)) ?_
 ·unfold af;rw [aq h];simp only [go_sem,AW];generalize hq:D P L (.loop [0,1,5] oJ) _=q;obtain ⟨ex,st,rfl,tm,ct,rfl,rfl,h2⟩:=bV hq (key (n+1)) ⟨n,[],by simp only [go_sem,ya,av]<;>rfl,by omega,rfl,by simp,.inl ⟨rfl,rfl⟩⟩
  simp only [go_sem,av,h2]
 ·rintro k st ⟨m,s,rfl,hm,hk,hl,hs⟩;by_cases zW:0<m\/s.length<1
  ·left
   have hc:((decide ((0:Int)<m))=true)\/((decide ((0:Int)<m))=false/\((s.length:Nat):Int)<1):=by
    by_cases h0:0<m
    ·exact .inl (xi (by omega))
    ·exact .inr ⟨yR (by omega),by omega⟩
   have hr:((m:Int)).tmod 10=((m%10:Nat):Int):=by rw [y9 (by omega)];rfl
   have hq:((m:Int)).tdiv 10=((m/10:Nat):Int):=by rw [Int.tdiv_eq_ediv_of_nonneg (by omega)];rfl
   have hd:=aax (r:=m%10) (by omega);have fin:∃s' k',D P L oJ ⟨[(0,aa m),(1,aa 1),(5,.str s)],[],0,0⟩=some (.normal,s')/\k'<k/\bA [0,1,5] s'=⟨[(0,aa (m/10:Nat)),(1,aa 1),(5,.str ([48+m%10]++s))],[],0,0⟩/\m/10+(1-([48+m%10]++s).length)=k':=by
    rcases hc with hc | ⟨hc,zP⟩
    ·have hc:(0:Int)<m:=of_decide_eq_true hc
     simp only [go_sem,ya,yb,oJ,hc,dK _ _ _ (show (10:Int)≠0 by decide),eU _ _ _ (show (10:Int)≠0 by decide),hr,hq,wrapN (n:=m%10+1) (by omega),wrap64 (n:=((m/10:Nat):Int)) (by omega) (by omega),fg,eh,show ((m%10:Nat):Int)+1=((m%10+1:Nat):Int) from rfl,hd,gH (a:=[48+m%10]) (b:=s) (by simp;omega)];refine ⟨_,_,rfl,?_,by simp only [go_sem,ya,av],rfl⟩
     simp;omega
    ·have hc:¬(0:Int)<m:=of_decide_eq_false hc
     simp only [go_sem,ya,yb,oJ,hc,zP,dK _ _ _ (show (10:Int)≠0 by decide),eU _ _ _ (show (10:Int)≠0 by decide),hr,hq,wrapN (n:=m%10+1) (by omega),wrap64 (n:=((m/10:Nat):Int)) (by omega) (by omega),fg,eh,show ((m%10:Nat):Int)+1=((m%10+1:Nat):Int) from rfl,hd,gH (a:=[48+m%10]) (b:=s) (by simp;omega)];refine ⟨_,_,rfl,?_,by simp only [go_sem,ya,av],rfl⟩
     simp;omega
   obtain ⟨s',k',f1,f2,f3,f4⟩:=fin;refine ⟨s',k',f1,f2,m/10,[48+m%10]++s,f3,by omega,f4,?_,.inr ⟨by simp,fun h0=>?_,fun h0=>?_⟩⟩
   ·have aCp:=Nh (n:=n) (by omega);rcases hs with ⟨rfl,rfl⟩ | ⟨h1,h2,h3⟩
    ·simp
    ·by_cases h0:0<m
     ·have e:=congrArg List.length (h3 h0);have e2:0<(an m).length:=by
       by_cases h9:m<10
       ·rw [oD h9];simp
       ·rw [pJ h9];simp
      simp only [yO] at e
      simp;omega
     ·omega
   ·have h9:m<10:=by omega
    rcases hs with ⟨rfl,rfl⟩ | ⟨h1,h2,h3⟩
    ·rw [oD h9,yP h9];rfl
    ·have:0<m:=by omega
     rw [h3 this,oD h9,yP h9]
   ·have h9:¬m<10:=by omega
    rcases hs with ⟨rfl,rfl⟩ | ⟨h1,h2,h3⟩
    ·rw [pJ h9];simp
    ·rw [h3 (by omega),pJ h9];simp
  ·right
   simp only [go_sem,ya,oJ,show ¬(0:Int)<m by omega,show ¬((s.length:Nat):Int)<1 by omega];refine ⟨_,_,rfl,by simp,_,_,rfl,rfl,?_⟩;simp only [go_sem,ya];rcases hs with ⟨rfl,rfl⟩ | ⟨h1,h2,h3⟩
   ·simp at zW
   ·rw [h2 (by omega)]
def axA (h:Has P L 291 KW) {a b:Nat} (ha:a<9223372036854775808) (hb:b<9223372036854775808):af P L 291 [aa a,aa b] (aa (wj a b)):=by
 have key:=cg (P:=P) (L:=L) (live:=[0,1]) (a:=Kc)
  (I:=fun k st=>∃x y:Nat,st=⟨[(0,aa x),(1,aa y)],[],0,0⟩/\y=k/\wj x y=wj a b)
  (Q:=fun ex st=>∃tm ct,st=⟨tm,[],ct,0⟩/\ex= .exit 0/\ab tm 0=aa (wj a b)) ?_
 ·unfold af;rw [aq h];simp only [go_sem,KW];generalize hq:D P L (.loop [0,1] Kc) _=q;obtain ⟨ex,st,rfl,tm,ct,rfl,rfl,h2⟩:=bV hq (key b) ⟨a,b,by simp only [go_sem,ya,av]<;>rfl,rfl,rfl⟩
  simp only [go_sem,av,h2]
 ·rintro k st ⟨x,y,rfl,rfl,hg⟩;by_cases hy:y=0
  ·right
   subst hy;simp only [go_sem,ya,Kc,show ¬(0:Int)<((0:Nat):Int) by omega];refine ⟨_,_,rfl,by simp,_,_,rfl,rfl,?_⟩;simp only [go_sem,ya];rw [<-hg,yax]
  ·left
   have hr:((x:Int)).tmod y=((x%y:Nat):Int):=by rw [y9 (by omega)];rfl
   simp only [go_sem,ya,Kc,show (0:Int)<y by omega,dK _ _ _ (show (y:Int)≠0 by omega),hr];refine ⟨_,x%y,rfl,xD _ (by omega),y,x%y,by simp only [go_sem,ya,av],rfl,?_⟩;rw [<-hg,uE y,<-ycb,uE]
end
end
section
open Go (IntKind)
section
variable {P:aI} {L:Lib}
def GV (h:Has P L 272 KS) {s:List Nat} (hl:s.length<=1000000000000):af P L 272 [.str s] (aa (cr s)):=by
 have key:=cg (P:=P) (L:=L) (live:=[0,3]) (a:=F0)
  (I:=fun k st=>∃i:Nat,st=⟨[(0,.str s),(3,aa i)],[],0,0⟩/\i+k=s.length/\i+cr (s.drop i)=cr s)
  (Q:=fun ex st=>∃tm ct,st=⟨tm,[],ct,0⟩/\((ex= .ret/\ab tm 2=aa (cr s))\/(ex= .exit 0/\ab tm 0= .str s/\cr s=s.length))) ?_
 ·unfold af;rw [aq h];simp only [go_sem,KS];generalize hq:D P L (.loop [0,3] F0) _=q;obtain ⟨ex,st,rfl,tm,ct,rfl,h2⟩:=bV hq (key s.length) ⟨0,by simp only [go_sem,ya,av]<;>rfl,by omega,by simp⟩
  rcases h2 with ⟨rfl,h2⟩ | ⟨rfl,h2,h3⟩
  ·simp only [go_sem,h2]
  ·simp only [go_sem,av,h2,h3]
 ·rintro k st ⟨i,rfl,hk,hs⟩;by_cases hi:i<s.length
  ·rw [akW hi] at hs;by_cases h7:s[i]=47
   ·right
    rw [yF h7] at hs;simp only [go_sem,ya,F0,show (i:Int)<s.length by omega,rA hi,show ((s[i]:Nat):Int)=47 by omega];refine ⟨_,_,rfl,by simp,_,_,rfl,.inl ⟨rfl,?_⟩⟩;rw [<-hs];rfl
   ·left
    rw [yr h7] at hs;simp only [go_sem,ya,F0,show (i:Int)<s.length by omega,rA hi,show ¬((s[i]:Nat):Int)=47 by omega];refine ⟨_,k-1,rfl,by omega,i+1,?_,by omega,by omega⟩;rw [wrap64 (by omega) (by omega)];simp only [go_sem,ya,av]<;>rfl
  ·right
   simp only [go_sem,ya,F0,show ¬(i:Int)<s.length by omega];refine ⟨_,_,rfl,by simp,_,_,rfl,.inr ⟨rfl,by simp only [go_sem,ya],?_⟩⟩;rw [xh (by omega)] at hs;simp only [cr] at hs;omega
def K9 (h:Has P L 290 GN) {s:List Nat} {v:Nat} (hl:s.length<=18) (hv:df s 0=some v):af P L 290 [.str s] (aa v):=by
 have key:=cg (P:=P) (L:=L) (live:=[0,3,4]) (a:=Kb)
  (I:=fun k st=>∃i a:Nat,st=⟨[(0,.str s),(3,aa a),(4,aa i)],[],0,0⟩/\i+k=s.length/\a<10^i/\df (s.drop i) a=some v)
  (Q:=fun ex st=>∃tm ct,st=⟨tm,[],ct,0⟩/\ex= .exit 0/\ab tm 3=aa v) ?_
 ·unfold af;rw [aq h];simp only [go_sem,GN];generalize hq:D P L (.loop [0,3,4] Kb) _=q;obtain ⟨ex,st,rfl,tm,ct,rfl,rfl,h2⟩:=bV hq (key s.length) ⟨0,0,by simp only [go_sem,ya,av]<;>rfl,by omega,by simp,hv⟩
  simp only [go_sem,av,h2]
 ·rintro k st ⟨i,a,rfl,hk,ha,hs⟩;by_cases hi:i<s.length
  ·left
   obtain ⟨h1,h2,h3⟩:=anc hi hs;have hp:10^i<=10^17:=xk (by decide) (by omega);have hb:IntKind.wrap .i64 ((s[i]:Nat):Int)=((s[i]:Nat):Int):=wrap64 (by omega) (by omega)
   simp only [go_sem,ya,Kb,show (i:Int)<s.length by omega,rA hi,arO,hb,wrap64 (n:=10*(a:Int)) (by omega) (by omega),wrap64 (n:=10*(a:Int)+(s[i]:Nat)) (by omega) (by omega),wrap64 (n:=10*(a:Int)+(s[i]:Nat)-48) (by omega) (by omega)];refine ⟨_,k-1,rfl,by omega,i+1,10*a+(s[i]-48),?_,by omega,?_,h3⟩
   ·rw [wrap64 (by omega) (by omega),show 10*(a:Int)+(s[i]:Nat)-48=((10*a+(s[i]-48):Nat):Int) by omega];simp only [go_sem,ya,av]<;>rfl
   ·rw [xj];omega
  ·right
   simp only [go_sem,ya,Kb,show ¬(i:Int)<s.length by omega];refine ⟨_,_,rfl,by simp,_,_,rfl,rfl,?_⟩;rw [xh (by omega)] at hs;simp only [df,yc] at hs;subst hs;simp only [go_sem,ya]
def Ob (a:Int):(if 0-a>a then 0-a else a)=(a.natAbs:Int):=by omega
def NP (a b:Int):a.tdiv (wc a b:Nat)=bM a b:=tE (uR a b)
def NQ (a b:Int):b.tdiv (wc a b:Nat)=bT a b:=tE (uI a b)
def nO (n:Int):(if n<0 then [45] else [])++an n.natAbs=aW n:=by
 split
 ·rename_i h;rw [kS h];rfl
 ·rename_i h;obtain ⟨m,rfl⟩:∃m:Nat,n=m:=⟨n.toNat,by omega⟩;rfl
def Tk {n:Int} (h:n.natAbs<18446744073709551616):(aW n).length<=21:=by
 rw [<-nO]
 have:=Nh h
 grind
def arP {a b:Int} (hb:0<b):jT a b=(if 1<bT a b then (aW (bM a b)++[47])++an (bT a b).natAbs else aW (bM a b)):=by
 have h:=BX (a:=a) hb;unfold jT;by_cases h1:bT a b=1
 ·grind
 ·rw [yr h1,yF (by omega)];obtain ⟨m,hm⟩:∃m:Nat,bT a b=m:=⟨(bT a b).toNat,by omega⟩;rw [hm];rfl
def axB (h:Has P L 277 Eo) (VT:Has P L 291 KW) (qv:Has P L 292 AW) {a b:Int} (ha: -4000000000000000000<=a/\a<=4000000000000000000) (hb:0<b/\b<=4000000000000000000):
  af P L 277 [aa a,aa b] (.str (jT a b)):=by
 have hn:=Ag a b;have hd:=Ah a b;have hp:=BX (a:=a) hb.1;have e1:=axA VT (a:=a.natAbs) (b:=b.natAbs) (by omega) (by omega);have e2:=VS qv (n:=(bM a b).natAbs) (by omega);have e3:=VS qv (n:=(bT a b).natAbs) (by omega);have hg:=FM (a:=a) hb.1;rw [show ((b.natAbs:Nat):Int)=b by omega,show wj a.natAbs b.natAbs=wc a b from rfl] at e1;rw [show (((bT a b).natAbs:Nat):Int)=bT a b by omega] at e3;have og:=Tk (n:=bM a b) (by omega);have zI:=Nh (n:=(bM a b).natAbs) (by omega);have hl3:=Nh (n:=(bT a b).natAbs) (by omega);have hT:=arP (a:=a) hb.1;have hS:=nO (bM a b);unfold af at e1 e2 e3 ⊢;rw [aq h];by_cases h0:bM a b<0
 ·rw [yF h0] at hS;by_cases h1:1<bT a b
  ·rw [yF h1] at hT
   simp only [go_sem,ya,Eo,show ¬a< -4000000000000000000 by omega,show ¬4000000000000000000<a by omega,show ¬b< -4000000000000000000 by omega,show ¬4000000000000000000<b by omega,show ¬b<0 by omega,wrap64 (n:=0-a) (by omega) (by omega),Gd,FB,Ob,e1,eU _ _ _ (show ((wc a b:Nat):Int)≠0 by omega),NP,NQ,wrap64 (n:=bM a b) (by omega) (by omega),wrap64 (n:=bT a b) (by omega) (by omega),h0,wrap64 (n:=0-bM a b) (by omega) (by omega),e2,gH (a:=[45]) (b:=an (bM a b).natAbs) (by simp;omega),hS,h1,gH (a:=aW (bM a b)) (b:=[47]) (by simp;omega),e3,gH (a:=aW (bM a b)++[47]) (b:=an (bT a b).natAbs) (by simp;omega),hT]
  ·rw [yr h1] at hT
   simp only [go_sem,ya,Eo,show ¬a< -4000000000000000000 by omega,show ¬4000000000000000000<a by omega,show ¬b< -4000000000000000000 by omega,show ¬4000000000000000000<b by omega,show ¬b<0 by omega,wrap64 (n:=0-a) (by omega) (by omega),Gd,FB,Ob,e1,eU _ _ _ (show ((wc a b:Nat):Int)≠0 by omega),NP,NQ,wrap64 (n:=bM a b) (by omega) (by omega),wrap64 (n:=bT a b) (by omega) (by omega),h0,wrap64 (n:=0-bM a b) (by omega) (by omega),e2,gH (a:=[45]) (b:=an (bM a b).natAbs) (by simp;omega),hS,h1,hT]
 ·rw [yr h0] at hS;by_cases h1:1<bT a b
  ·rw [yF h1] at hT
   simp only [go_sem,ya,Eo,show ¬a< -4000000000000000000 by omega,show ¬4000000000000000000<a by omega,show ¬b< -4000000000000000000 by omega,show ¬4000000000000000000<b by omega,show ¬b<0 by omega,wrap64 (n:=0-a) (by omega) (by omega),Gd,FB,Ob,e1,eU _ _ _ (show ((wc a b:Nat):Int)≠0 by omega),NP,NQ,wrap64 (n:=bM a b) (by omega) (by omega),wrap64 (n:=bT a b) (by omega) (by omega),h0,wrap64 (n:=0-bM a b) (by omega) (by omega),e2,gH (a:=[]) (b:=an (bM a b).natAbs) (by simp;omega),hS,h1,gH (a:=aW (bM a b)) (b:=[47]) (by simp;omega),e3,gH (a:=aW (bM a b)++[47]) (b:=an (bT a b).natAbs) (by simp;omega),hT]
  ·rw [yr h1] at hT
   simp only [go_sem,ya,Eo,show ¬a< -4000000000000000000 by omega,show ¬4000000000000000000<a by omega,show ¬b< -4000000000000000000 by omega,show ¬4000000000000000000<b by omega,show ¬b<0 by omega,wrap64 (n:=0-a) (by omega) (by omega),Gd,FB,Ob,e1,eU _ _ _ (show ((wc a b:Nat):Int)≠0 by omega),NP,NQ,wrap64 (n:=bM a b) (by omega) (by omega),wrap64 (n:=bT a b) (by omega) (by omega),h0,wrap64 (n:=0-bM a b) (by omega) (by omega),e2,gH (a:=[]) (b:=an (bM a b).natAbs) (by simp;omega),hS,h1,hT]
end
end
section
open Go (IntKind)
def TT (n:Int) (d:Nat):List Nat:=aW n++(if d=1 then [] else 47::an d)
def arQ {a b:Int} (hb:0<b):jT a b=TT (bM a b) (bT a b).toNat:=by
 have h:=BX (a:=a) hb;unfold jT TT;by_cases h1:bT a b=1
 ·grind
 ·rw [yr h1,yr (by omega)];obtain ⟨m,hm⟩:∃m:Nat,bT a b=m:=⟨(bT a b).toNat,by omega⟩;rw [hm,List.append_assoc];rfl
def rn (n:Nat):0<(an n).length:=by
 by_cases h:n<10
 ·rw [oD h];simp
 ·rw [pJ h];simp
def JL:∀(n:Nat),n<10^(an n).length:=by
 intro n
 induction n using vZ with
 | _ n ih=>
  by_cases h:n<10
  ·rw [oD h];simpa using h
  ·have:=ih (n/10) (by omega)
   rw [pJ h,yO,List.length_singleton,xj];omega
def acq {n:Nat} (h:(an n).length<=9):n<1000000000:=
 Nat.lt_of_lt_of_le (JL n) (by simpa using xk (show 0<10 by decide) h)
def Fx (n:Nat):∃b r,an n=b::r/\48<=b/\b<=57:=by
 cases hq:an n with
 | nil=>have:=rn n;rw [hq] at this;simp at this
 | cons b r=>
  have:=Ac n
  rw [hq] at this;simp only [dO,yg] at this
  simp_all
section
variable {P:aI} {L:Lib}
def Es (s:List Nat):nX 0 (.str (45::s))=some (.int .u8 45):=rfl
def UA (q:Bool) (n:Int) (d:Nat):AV:=if q=true then .aw [aa n,aa d,.bool true] else .aw [aa 0,aa 0,.bool false]
def ju (d:Nat):List Nat:=if d=1 then [] else 47::an d
def Si (d:Nat):cr (ju d)=0:=by unfold ju;split<;>rfl
def axC (h:Has P L 276 qh) (CE:Has P L 272 KS) (A1:Has P L 290 GN) {n:Int} {d:Nat} (hl:(TT n d).length<=20000000000):
  ∃q:Bool,af P L 276 [.str (TT n d)] (UA q n d)/\(q=true->n.natAbs<1000000000/\d<1000000000):=by
 generalize hs:TT n d=s at hl;by_cases jZ:20<s.length
 ·refine ⟨false,?_,fun h=>by cases h⟩;unfold af;rw [aq h];simp only [go_sem,ya,qh,show (20:Int)<s.length by omega];rfl
 ·have hu:∃u,u=an n.natAbs++ju d:=⟨_,rfl⟩;obtain ⟨u,hu⟩:=hu;have hK:∃K,K=(an n.natAbs).length:=⟨_,rfl⟩;obtain ⟨K,hK⟩:=hK;have Qs:cr u=K:=by rw [hu,I8 _ (Ac _),Si,hK];rfl
  have hlen:u.length=K+(ju d).length:=by rw [hu,hK,yO]
  have hp:=rn n.natAbs;obtain ⟨b,r,hb,jY,hb2⟩:=Fx n.natAbs;have EX:(n<0/\s=45::u)\/(¬n<0/\s=u):=by
   by_cases h0:n<0
   ·left;refine ⟨h0,?_⟩;rw [<-hs,hu,TT,kS h0];rfl
   ·right;refine ⟨h0,?_⟩;rw [<-hs,hu,TT,<-nO,yr h0];rfl
  have hul:u.length<=s.length:=by rcases EX with ⟨_,e⟩ | ⟨_,e⟩<;>rw [e]<;>simp
  have C6:0<u.length:=by omega
  have se:u[0]=b:=by
   have:u=b::(r++ju d):=by rw [hu,hb];rfl
   simp [this]
  have e1:=GV CE (s:=u) (by omega);rw [Qs] at e1;have eR:iK u (some 0) (some K)=some (.str (an n.natAbs)):=by
   rw [mz (by omega) (by omega),List.drop_zero,hu,hK,List.take_left]
  unfold af at e1;by_cases h9:9<K
  ·refine ⟨false,?_,fun h=>by cases h⟩;unfold af;rw [aq h];rcases EX with ⟨h0,e⟩ | ⟨h0,e⟩
   ·have jZ:¬20<u.length+1:=by rw [e] at jZ;exact jZ
    have mq:iK (45::u) (some 1) (some (u.length+1))=some (.str u):=by rw [mz (s:=45::u) (l:=1) (h:=u.length+1) (by omega) (by simp)];simp
    rw [e];simp only [go_sem,ya,qh,show ¬(20:Int)<((u.length+1:Nat):Int) by omega,show (0:Int)<((u.length+1:Nat):Int) by omega,Es,fg,fw,eh,mq,e1,show (9:Int)<(K:Int) by omega];rfl
   ·rw [e];simp only [go_sem,ya,qh,show ¬(20:Int)<(u.length:Nat) by omega,show (0:Int)<(u.length:Nat) by omega,rA C6,se,show ¬((b:Nat):Int)=45 by omega,e1,show (9:Int)<(K:Int) by omega];rfl
  ·by_cases iy:10<(ju d).length
   ·refine ⟨false,?_,fun h=>by cases h⟩;unfold af;rw [aq h];rcases EX with ⟨h0,e⟩ | ⟨h0,e⟩
    ·have jZ:¬20<u.length+1:=by rw [e] at jZ;exact jZ
     have mq:iK (45::u) (some 1) (some (u.length+1))=some (.str u):=by rw [mz (s:=45::u) (l:=1) (h:=u.length+1) (by omega) (by simp)];simp
     rw [e]
     simp only [go_sem,ya,qh,show ¬(20:Int)<((u.length+1:Nat):Int) by omega,show (0:Int)<((u.length+1:Nat):Int) by omega,Es,fg,fw,eh,mq,e1,show ¬(9:Int)<(K:Int) by omega,wrap64 (n:=(u.length:Int)-(K:Int)) (by omega) (by omega),show (10:Int)<(u.length:Int)-(K:Int) by omega];rfl
    ·rw [e]
     simp only [go_sem,ya,qh,show ¬(20:Int)<(u.length:Nat) by omega,show (0:Int)<(u.length:Nat) by omega,rA C6,se,show ¬((b:Nat):Int)=45 by omega,e1,show ¬(9:Int)<(K:Int) by omega,wrap64 (n:=(u.length:Int)-(K:Int)) (by omega) (by omega),show (10:Int)<(u.length:Int)-(K:Int) by omega];rfl
   ·have e2:=K9 A1 (s:=an n.natAbs) (by omega) (sN n.natAbs);unfold af at e2;have hm:=acq (n:=n.natAbs) (by omega);by_cases hd:d=1
    ·subst hd;have pn:ju 1=[]:=rfl;refine ⟨true,?_,fun _=>⟨hm,by decide⟩⟩;rw [pn] at hlen;simp only [List.length_nil,Nat.add_zero] at hlen;unfold af;rw [aq h];rcases EX with ⟨h0,e⟩ | ⟨h0,e⟩
     ·have jZ:¬20<u.length+1:=by rw [e] at jZ;exact jZ
      have mq:iK (45::u) (some 1) (some (u.length+1))=some (.str u):=by rw [mz (s:=45::u) (l:=1) (h:=u.length+1) (by omega) (by simp)];simp
      rw [e]
      simp only [go_sem,ya,qh,show ¬(20:Int)<((u.length+1:Nat):Int) by omega,show (0:Int)<((u.length+1:Nat):Int) by omega,Es,fg,fw,eh,mq,e1,show ¬(9:Int)<(K:Int) by omega,wrap64 (n:=(u.length:Int)-(K:Int)) (by omega) (by omega),show ¬(10:Int)<(u.length:Int)-(K:Int) by omega,eR,e2,show ¬(K:Int)<(u.length:Int) by omega,wrap64 (n:=0-(n.natAbs:Int)) (by omega) (by omega)];rw [show 0-(n.natAbs:Int)=n by omega];rfl
     ·rw [e]
      simp only [go_sem,ya,qh,show ¬(20:Int)<(u.length:Nat) by omega,show (0:Int)<(u.length:Nat) by omega,rA C6,se,show ¬((b:Nat):Int)=45 by omega,fg,fw,eh,e1,show ¬(9:Int)<(K:Int) by omega,wrap64 (n:=(u.length:Int)-(K:Int)) (by omega) (by omega),show ¬(10:Int)<(u.length:Int)-(K:Int) by omega,eR,e2,show ¬(K:Int)<(u.length:Int) by omega];rw [show (n.natAbs:Int)=n by omega];rfl
    ·have pn:ju d=47::an d:=yr hd;have Mf:(ju d).length=(an d).length+1:=by rw [pn];rfl
     have hpd:=rn d;have hd9:=acq (n:=d) (by omega);have e3:=K9 A1 (s:=an d) (by omega) (sN d);unfold af at e3;have zP:iK u (some (K+1)) (some u.length)=some (.str (an d)):=by
      rw [mz (by omega) (yB _),List.take_length,hu,pn,hK,show (an n.natAbs).length+1=(an n.natAbs++[47]).length by simp,show an n.natAbs++47::an d=(an n.natAbs++[47])++an d by simp,List.drop_left]
     refine ⟨true,?_,fun _=>⟨hm,hd9⟩⟩;unfold af;rw [aq h];rcases EX with ⟨h0,e⟩ | ⟨h0,e⟩
     ·have jZ:¬20<u.length+1:=by rw [e] at jZ;exact jZ
      have mq:iK (45::u) (some 1) (some (u.length+1))=some (.str u):=by rw [mz (s:=45::u) (l:=1) (h:=u.length+1) (by omega) (by simp)];simp
      rw [e]
      simp only [go_sem,ya,qh,show ¬(20:Int)<((u.length+1:Nat):Int) by omega,show (0:Int)<((u.length+1:Nat):Int) by omega,Es,fg,fw,eh,mq,e1,show ¬(9:Int)<(K:Int) by omega,wrap64 (n:=(u.length:Int)-(K:Int)) (by omega) (by omega),show ¬(10:Int)<(u.length:Int)-(K:Int) by omega,eR,e2,show (K:Int)<(u.length:Int) by omega,wrapN (n:=K+1) (by omega),show (K:Int)+1=((K+1:Nat):Int) from rfl,zP,e3,wrap64 (n:=0-(n.natAbs:Int)) (by omega) (by omega)];rw [show 0-(n.natAbs:Int)=n by omega];rfl
     ·rw [e]
      simp only [go_sem,ya,qh,show ¬(20:Int)<(u.length:Nat) by omega,show (0:Int)<(u.length:Nat) by omega,rA C6,se,show ¬((b:Nat):Int)=45 by omega,fg,fw,eh,e1,show ¬(9:Int)<(K:Int) by omega,wrap64 (n:=(u.length:Int)-(K:Int)) (by omega) (by omega),show ¬(10:Int)<(u.length:Int)-(K:Int) by omega,eR,e2,show (K:Int)<(u.length:Int) by omega,wrapN (n:=K+1) (by omega),show (K:Int)+1=((K+1:Nat):Int) from rfl,zP,e3];rw [show (n.natAbs:Int)=n by omega];rfl
end
end
end VE
