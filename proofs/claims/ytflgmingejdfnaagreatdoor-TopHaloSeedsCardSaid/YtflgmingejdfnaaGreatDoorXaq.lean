import Derived.Test.YtflgmingejdfnaaGreatDoorXap
import Derived.Test.YtflgmingejdfnaaGreatDoorXah
import Derived.Test.YtflgmingejdfnaaGreatDoorXal
set_option linter.all false
set_option maxRecDepth 100000
open Bool renaming and_eq_true→yf,not_false→xB,not_true→y9
open Go renaming IntKind→yJ
open Int renaming ediv_emod_unique→u5,emod_lt_of_pos→wG,emod_nonneg→w7,gcd→xL,gcd_dvd_left→vV,gcd_dvd_right→vN,gcd_mul_left→tW,gcd_pos_of_ne_zero_right→ub,lt_tmod_of_pos→tA,mul_comm→wQ,mul_ediv_cancel'→u6,mul_ediv_mul_of_pos→uA,mul_nonneg→ve,natAbs_ediv_of_dvd→wZ,natCast_mul→xA,reduceEq→wK,reduceLT→uK,tdiv_eq_ediv_of_dvd→uB,tmod_eq_emod_of_nonneg→yT,tmod_lt_of_pos→tz
open List renaming cons_append→yH,drop→ux,drop_eq_getElem_cons→yO,drop_eq_nil_of_le→yZ,getD_eq_getElem?_getD→xk,getElem?_eq_getElem→xP,length_append→yW,length_cons→yz,length_map→yU,length_take→yK,map_append→xG,range→yR,take_of_length_le→yI,take_succ_eq_append_getElem→wb
open Nat renaming ble→yA,ble_eq_true_of_le→yv,blt→yB,div_le_self→uU,gcd→xU,gcd_comm→vI,gcd_rec→yaI,gcd_zero_right→tB,le_of_ble_eq_true→yr,le_refl→yC,mod_eq_of_lt→vG,mod_lt→vh,mul_one→yh,pow_le_pow_right→we,pow_succ→xy,reduceAdd→yc,reduceEqDiff→ya,reduceLeDiff→yd,strongRecOn→w6,zero_add→yy
open Option renaming getD_some→vv
open Option.some renaming injEq→yb
namespace VE
section
open Go (IntKind)
section
variable {P:aA} {L:Lib}
def s3 (h:Has P L 3 c3) (gE:Has P L 30 ol) {v:AV} {s:List (List Int)} (hv:bK v s):an P L 3 [v] (aa (cF s)):=by
 have inner:∀{i:Nat} (hi:i<s.length),s[i].length=s.length->s.length<=16->∀k st,(∃j:Nat,bw [0,3,4] st=⟨[(0,v),(3,aa i),(4,aa j)],[],0,0⟩/\j+k=s.length/\bA (-1000) 1000 (s[i].drop j)=bA (-1000) 1000 s[i])->
   ∃ex st',D P L (.loop [0,3,4] Fi) st=some (ex,st')/\∃tm ct,st'=⟨tm,[],ct,0⟩/\((ex= .ret/\ah tm 2=aa 3/\bA (-1000) 1000 s[i]=true)\/(ex= .exit 2/\ah tm 0=v/\ah tm 3=aa i/\bA (-1000) 1000 s[i]=false)):=by
  intro i hi hr hl
  refine cG (I:=fun k st=>∃j:Nat,st=⟨[(0,v),(3,aa i),(4,aa j)],[],0,0⟩/\j+k=s.length/\bA (-1000) 1000 (s[i].drop j)=bA (-1000) 1000 s[i])
   (Q:=fun ex st=>∃tm ct,st=⟨tm,[],ct,0⟩/\((ex= .ret/\ah tm 2=aa 3/\bA (-1000) 1000 s[i]=true)\/(ex= .exit 2/\ah tm 0=v/\ah tm 3=aa i/\bA (-1000) 1000 s[i]=false))) ?_
  rintro k st ⟨j,rfl,hk,hf⟩;simp only [go_sem,ya,Fi,hv.len];obtain ⟨r,rest,bG,dA⟩:=hv.a7 hi;by_cases hj:j<s.length
  ·have jt:(j:Int)<s.length:=by omega
   have sd:j<s[i].length:=by omega
   rw [HG sd] at hf;by_cases h1:s[i][j]< -1000\/1000<s[i][j]
   ·right
    rw [yS h1] at hf;simp only [go_sem,ya,jt,dA,bG.a7 sd,lh gE,h1,yQ,wK];refine ⟨_,_,rfl,by simp,_,_,rfl,.inl ⟨rfl,?_,hf.symm⟩⟩;simp only [go_sem]
   ·left
    rw [yD h1] at hf;simp only [go_sem,ya,jt,dA,bG.a7 sd,lh gE,h1,yG];refine ⟨_,k-1,rfl,by omega,j+1,?_,by omega,hf⟩;rw [wrap64 (by omega) (by omega)];simp only [go_sem,ya,aJ,aP hv.pu,aS _ hv.pu]<;>rfl
  ·right
   simp only [go_sem,show ¬(j:Int)<s.length by omega];refine ⟨_,_,rfl,by simp,_,_,rfl,.inr ⟨rfl,?_,?_,?_⟩⟩
   ·simp only [go_sem,ya]
   ·simp only [go_sem,ya]
   ·rw [<-hf,yZ (by omega)];rfl
 have key:=cG (P:=P) (L:=L) (live:=[0,3]) (a:=Fj)
  (I:=fun k st=>∃i:Nat,st=⟨[(0,v),(3,aa i)],[],0,0⟩/\i+k=s.length/\s.length<=16/\cy s.length (-1000) 1000 (s.drop i)=cy s.length (-1000) 1000 s)
  (Q:=fun ex st=>∃tm ct,st=⟨tm,[],ct,0⟩/\((ex= .ret/\ah tm 2=aa (cy s.length (-1000) 1000 s))\/(ex= .exit 0/\cy s.length (-1000) 1000 s=0))) ?_
 ·unfold an;rw [aT h];unfold cF;by_cases h1:s.length=0
  ·simp only [go_sem,ya,c3,hv.len,show (s.length:Int)=0 by omega];rw [yS h1]
  ·rw [yD h1];by_cases h2:16<s.length
   ·simp only [go_sem,ya,c3,hv.len,show ¬(s.length:Int)=0 by omega,show (16:Int)<s.length by omega];rw [yS h2]
   ·simp only [go_sem,ya,c3,hv.len,show ¬(s.length:Int)=0 by omega,show ¬(16:Int)<s.length by omega];rw [yD h2];generalize hq:D P L (.loop [0,3] Fj) _=q;obtain ⟨ex,st,rfl,tm,ct,rfl,h2⟩:=cm hq (key s.length) ⟨0,by simp only [go_sem,ya,aJ,aP hv.pu,aS _ hv.pu]<;>rfl,by omega,by omega,rfl⟩
    rcases h2 with ⟨rfl,h2⟩ | ⟨rfl,h2⟩
    ·simp only [go_sem,h2]
    ·rw [h2];simp only [go_sem]
 ·rintro k st ⟨i,rfl,hk,hl,hf⟩;simp only [go_sem,ya,Fj,hv.len];by_cases hi:i<s.length
  ·have bP:(i:Int)<s.length:=by omega
   rw [He hi] at hf;obtain ⟨r,rest,bG,dA⟩:=hv.a7 hi;by_cases h1:s[i].length=s.length
   ·simp only [h1,uH,wq,yG] at hf;simp only [go_sem,ya,bP,dA,bG.len,hv.len,show (s[i].length:Int)=s.length by omega];generalize hq:D P L (.loop [0,3,4] Fi) _=q;obtain ⟨ex,st,rfl,tm,ct,rfl,h2⟩:=cm hq (inner hi h1 hl s.length) ⟨0,by simp only [go_sem,ya,aJ,aP hv.pu,aS _ hv.pu]<;>rfl,by omega,rfl⟩
    rcases h2 with ⟨rfl,h2,h3⟩ | ⟨rfl,h2,h3,h4⟩
    ·right
     rw [yS h3] at hf;exact ⟨_,_,rfl,by simp,_,_,rfl,.inl ⟨rfl,by rw [h2,<-hf]⟩⟩
    ·left
     rw [yD (by simp [h4])] at hf;simp only [go_sem,ya,aJ,h2,h3,aP hv.pu,aS _ hv.pu];refine ⟨_,k-1,rfl,by omega,i+1,?_,by omega,hl,hf⟩;rw [wrap64 (by omega) (by omega)];simp only [go_sem,ya,aJ,aP hv.pu,aS _ hv.pu]<;>rfl
   ·right
    simp only [h1,uH,vt,yQ] at hf;simp only [go_sem,ya,bP,dA,bG.len,hv.len,show ¬(s[i].length:Int)=s.length by omega];refine ⟨_,_,rfl,by simp,_,_,rfl,.inl ⟨rfl,?_⟩⟩;simp only [go_sem,<-hf]
  ·right
   simp only [go_sem,show ¬(i:Int)<s.length by omega];refine ⟨_,_,rfl,by simp,_,_,rfl,.inr ⟨rfl,?_⟩⟩;rw [<-hf,yZ (by omega)];rfl
def s10 (h:Has P L 10 iY) (gE:Has P L 30 ol) {v:AV} {s:List (List Int)} (hv:bK v s):an P L 10 [v] (aa (jY s)):=by
 have inner:∀{i:Nat} (hi:i<s.length),s[i].length=s.length->s.length<=16->∀k st,(∃j:Nat,bw [0,3,4] st=⟨[(0,v),(3,aa i),(4,aa j)],[],0,0⟩/\j+k=s.length/\bA (-100) 100 (s[i].drop j)=bA (-100) 100 s[i])->
   ∃ex st',D P L (.loop [0,3,4] EM) st=some (ex,st')/\∃tm ct,st'=⟨tm,[],ct,0⟩/\((ex= .ret/\ah tm 2=aa 3/\bA (-100) 100 s[i]=true)\/(ex= .exit 2/\ah tm 0=v/\ah tm 3=aa i/\bA (-100) 100 s[i]=false)):=by
  intro i hi hr hl
  refine cG (I:=fun k st=>∃j:Nat,st=⟨[(0,v),(3,aa i),(4,aa j)],[],0,0⟩/\j+k=s.length/\bA (-100) 100 (s[i].drop j)=bA (-100) 100 s[i])
   (Q:=fun ex st=>∃tm ct,st=⟨tm,[],ct,0⟩/\((ex= .ret/\ah tm 2=aa 3/\bA (-100) 100 s[i]=true)\/(ex= .exit 2/\ah tm 0=v/\ah tm 3=aa i/\bA (-100) 100 s[i]=false))) ?_
  rintro k st ⟨j,rfl,hk,hf⟩;simp only [go_sem,ya,EM,hv.len];obtain ⟨r,rest,bG,dA⟩:=hv.a7 hi;by_cases hj:j<s.length
  ·have jt:(j:Int)<s.length:=by omega
   have sd:j<s[i].length:=by omega
   rw [HG sd] at hf;by_cases h1:s[i][j]< -100\/100<s[i][j]
   ·right
    rw [yS h1] at hf;simp only [go_sem,ya,jt,dA,bG.a7 sd,lh gE,h1,yQ,wK];refine ⟨_,_,rfl,by simp,_,_,rfl,.inl ⟨rfl,?_,hf.symm⟩⟩;simp only [go_sem]
   ·left
    rw [yD h1] at hf;simp only [go_sem,ya,jt,dA,bG.a7 sd,lh gE,h1,yG];refine ⟨_,k-1,rfl,by omega,j+1,?_,by omega,hf⟩;rw [wrap64 (by omega) (by omega)];simp only [go_sem,ya,aJ,aP hv.pu,aS _ hv.pu]<;>rfl
  ·right
   simp only [go_sem,show ¬(j:Int)<s.length by omega];refine ⟨_,_,rfl,by simp,_,_,rfl,.inr ⟨rfl,?_,?_,?_⟩⟩
   ·simp only [go_sem,ya]
   ·simp only [go_sem,ya]
   ·rw [<-hf,yZ (by omega)];rfl
 have key:=cG (P:=P) (L:=L) (live:=[0,3]) (a:=EN)
  (I:=fun k st=>∃i:Nat,st=⟨[(0,v),(3,aa i)],[],0,0⟩/\i+k=s.length/\s.length<=16/\cy s.length (-100) 100 (s.drop i)=cy s.length (-100) 100 s)
  (Q:=fun ex st=>∃tm ct,st=⟨tm,[],ct,0⟩/\((ex= .ret/\ah tm 2=aa (cy s.length (-100) 100 s))\/(ex= .exit 0/\cy s.length (-100) 100 s=0))) ?_
 ·unfold an;rw [aT h];unfold jY;by_cases h1:s.length=0
  ·simp only [go_sem,ya,iY,hv.len,show (s.length:Int)=0 by omega];rw [yS h1]
  ·rw [yD h1];by_cases h2:5<s.length
   ·simp only [go_sem,ya,iY,hv.len,show ¬(s.length:Int)=0 by omega,show (5:Int)<s.length by omega];rw [yS h2]
   ·rw [yD h2];have hm:(s.length:Int).tmod 2=(s.length%2:Nat):=by rw [yT (by omega)];rfl
    have hd:(2:Int)≠0:=by decide
    by_cases h3:s.length%2=0
    ·simp only [go_sem,ya,iY,hv.len,show ¬(s.length:Int)=0 by omega,show ¬(5:Int)<s.length by omega,dw _ _ _ hd,hm,show ((s.length%2:Nat):Int)=0 by omega];rw [yS h3]
    ·simp only [go_sem,ya,iY,hv.len,show ¬(s.length:Int)=0 by omega,show ¬(5:Int)<s.length by omega,dw _ _ _ hd,hm,show ¬((s.length%2:Nat):Int)=0 by omega];rw [yD h3];generalize hq:D P L (.loop [0,3] EN) _=q;obtain ⟨ex,st,rfl,tm,ct,rfl,h2⟩:=cm hq (key s.length) ⟨0,by simp only [go_sem,ya,aJ,aP hv.pu,aS _ hv.pu]<;>rfl,by omega,by omega,rfl⟩
     rcases h2 with ⟨rfl,h2⟩ | ⟨rfl,h2⟩
     ·simp only [go_sem,h2]
     ·rw [h2];simp only [go_sem]
 ·rintro k st ⟨i,rfl,hk,hl,hf⟩;simp only [go_sem,ya,EN,hv.len];by_cases hi:i<s.length
  ·have bP:(i:Int)<s.length:=by omega
   rw [He hi] at hf;obtain ⟨r,rest,bG,dA⟩:=hv.a7 hi;by_cases h1:s[i].length=s.length
   ·simp only [h1,uH,wq,yG] at hf;simp only [go_sem,ya,bP,dA,bG.len,hv.len,show (s[i].length:Int)=s.length by omega];generalize hq:D P L (.loop [0,3,4] EM) _=q;obtain ⟨ex,st,rfl,tm,ct,rfl,h2⟩:=cm hq (inner hi h1 hl s.length) ⟨0,by simp only [go_sem,ya,aJ,aP hv.pu,aS _ hv.pu]<;>rfl,by omega,rfl⟩
    rcases h2 with ⟨rfl,h2,h3⟩ | ⟨rfl,h2,h3,h4⟩
    ·right
     rw [yS h3] at hf;exact ⟨_,_,rfl,by simp,_,_,rfl,.inl ⟨rfl,by rw [h2,<-hf]⟩⟩
    ·left
     rw [yD (by simp [h4])] at hf;simp only [go_sem,ya,aJ,h2,h3,aP hv.pu,aS _ hv.pu];refine ⟨_,k-1,rfl,by omega,i+1,?_,by omega,hl,hf⟩;rw [wrap64 (by omega) (by omega)];simp only [go_sem,ya,aJ,aP hv.pu,aS _ hv.pu]<;>rfl
   ·right
    simp only [h1,uH,vt,yQ] at hf;simp only [go_sem,ya,bP,dA,bG.len,hv.len,show ¬(s[i].length:Int)=s.length by omega];refine ⟨_,_,rfl,by simp,_,_,rfl,.inl ⟨rfl,?_⟩⟩;simp only [go_sem,<-hf]
  ·right
   simp only [go_sem,show ¬(i:Int)<s.length by omega];refine ⟨_,_,rfl,by simp,_,_,rfl,.inr ⟨rfl,?_⟩⟩;rw [<-hf,yZ (by omega)];rfl
end
end
section
open Go (IntKind)
section
variable {P:aA} {L:Lib}
def s6 (h:Has P L 6 c6) (gE:Has P L 30 ol) {v:AV} {l:List Int} (hv:aX v l) (FD side:Int):an P L 6 [aa FD,aa side,v] (aa (jd FD side l)):=by
 have key:=cG (P:=P) (L:=L) (live:=[2,7,8]) (a:=Fk)
  (I:=fun k st=>∃i:Nat,st=⟨[(2,v),(7,aa (b6 (l.take i))),(8,aa i)],[],0,0⟩/\i+k=l.length/\l.length<=33/\bA 0 1000 (l.take i)=false/\bA 0 1000 (l.drop i)=bA 0 1000 l)
  (Q:=fun ex st=>∃tm ct,st=⟨tm,[],ct,0⟩/\((ex= .ret/\ah tm 6=aa 3/\bA 0 1000 l=true)\/(ex= .exit 0/\ah tm 7=aa (b6 l)/\bA 0 1000 l=false))) ?_
 ·unfold an;rw [aT h];unfold jd;have hm:(l.length:Int).tmod 2=(l.length%2:Nat):=by rw [yT (by omega)];rfl
  have hd:(2:Int)≠0:=by decide
  by_cases h1:FD<1\/2147483646<FD
  ·rw [yS h1];simp only [go_sem,ya,c6,lh gE,h1,yQ,wK]
  ·rw [yD h1];by_cases h2:side<1\/16<side
   ·rw [yS h2];simp only [go_sem,ya,c6,lh gE,h1,h2,yQ,yG,wK]
   ·rw [yD h2];by_cases h3:l.length=0
    ·simp only [go_sem,ya,c6,hv.len,lh gE,h1,h2,yG,show (l.length:Int)=0 by omega];rw [yS h3]
    ·rw [yD h3];by_cases h4:33<l.length
     ·simp only [go_sem,ya,c6,hv.len,lh gE,h1,h2,yG,show ¬(l.length:Int)=0 by omega,show (33:Int)<l.length by omega];rw [yS h4]
     ·rw [yD h4];by_cases h5:l.length%2=0
      ·simp only [go_sem,ya,c6,hv.len,lh gE,h1,h2,yG,show ¬(l.length:Int)=0 by omega,show ¬(33:Int)<l.length by omega,dw _ _ _ hd,hm,show ((l.length%2:Nat):Int)=0 by omega];rw [yS h5]
      ·simp only [go_sem,ya,c6,hv.len,lh gE,h1,h2,yG,show ¬(l.length:Int)=0 by omega,show ¬(33:Int)<l.length by omega,dw _ _ _ hd,hm,show ¬((l.length%2:Nat):Int)=0 by omega];rw [yD h5];generalize hq:D P L (.loop [2,7,8] Fk) _=q;obtain ⟨ex,st,rfl,tm,ct,rfl,h2⟩:=cm hq (key l.length) ⟨0,by simp only [go_sem,ya,aJ,aP hv.pu,aS _ hv.pu]<;>rfl,by omega,by omega,rfl,rfl⟩
       rcases h2 with ⟨rfl,h2,h3⟩ | ⟨rfl,h2,h3⟩
       ·simp only [go_sem,h2];rw [yS h3]
       ·rw [yD (by simp [h3])];by_cases h6:b6 l=0
        ·simp only [go_sem,aJ,h2,h6,yQ]
        ·simp only [go_sem,aJ,h2,h6,yG]
 ·rintro k st ⟨i,rfl,hk,hl,h1,hf⟩;simp only [go_sem,ya,Fk,hv.len];by_cases hi:i<l.length
  ·have bP:(i:Int)<l.length:=by omega
   rw [HG hi] at hf;by_cases h2:l[i]<0\/1000<l[i]
   ·right
    rw [yS h2] at hf;simp only [go_sem,ya,bP,hv.a7 hi,lh gE,h2,yQ,wK];refine ⟨_,_,rfl,by simp,_,_,rfl,.inl ⟨rfl,?_,hf.symm⟩⟩;simp only [go_sem]
   ·left
    rw [yD h2] at hf;simp only [go_sem,ya,bP,hv.a7 hi,lh gE,h2,yG];have hb:=sL h1;have ht:(l.take i).length=i:=by rw [yK];omega
    refine ⟨_,k-1,rfl,by omega,i+1,?_,by omega,hl,?_,hf⟩
    ·rw [wrap64 (n:=(i:Int)+1) (by omega) (by omega),wrap64 (by omega) (by omega),oK hi];simp only [go_sem,ya,aJ,aP hv.pu,aS _ hv.pu]<;>rfl
    ·rw [wb hi];clear ht hb hf hk;generalize l.take i=m at h1
     induction m with
     | nil=>simp [bA];omega
     | cons a r ih=>
      simp only [bA] at h1
      split at h1
      ·cases h1
      ·rename_i hc;simp only [yH,bA,hc,yG];exact ih h1
  ·right
   simp only [go_sem,show ¬(i:Int)<l.length by omega];refine ⟨_,_,rfl,by simp,_,_,rfl,.inr ⟨rfl,?_,?_⟩⟩
   ·simp only [go_sem,ya];rw [yI (by omega)]
   ·rw [yI (by omega)] at h1;exact h1
def s37 (h:Has P L 37 F6) (KQ:Has P L 38 CN) {v:AV} {l:List Int} (hv:aX v l) (hl:l.length<=33) (ho:bA 0 1000 l=false):an P L 37 [aa 0,v,.fn (.f 38) [] []] (aa (b6 l)):=by
 have key:=cG (P:=P) (L:=L) (live:=[0,2,9,10,11]) (a:=ER)
  (I:=fun k st=>∃i:Nat,st=⟨[(0,aa (b6 (l.take i))),(2,.fn (.f 38) [] []),(9,v),(10,aa l.length),(11,aa i)],[],0,0⟩/\i+k=l.length)
  (Q:=fun ex st=>∃tm ct,st=⟨tm,[],ct,0⟩/\ex= .exit 0/\ah tm 0=aa (b6 l)) ?_
 ·unfold an;rw [aT h];simp only [go_sem,ya,F6,hv.len];generalize hq:D P L (.loop [0,2,9,10,11] ER) _=q;obtain ⟨ex,st,rfl,tm,ct,rfl,rfl,h2⟩:=cm hq (key l.length) ⟨0,by simp only [go_sem,ya,aJ,aP hv.pu,aS _ hv.pu]<;>rfl,by omega⟩
  simp only [go_sem,aJ,h2]
 ·rintro k st ⟨i,rfl,hk⟩;simp only [go_sem,ya,ER];by_cases hi:i<l.length
  ·have bP:(i:Int)<l.length:=by omega
   left
   have hb:=sL (HI ho i);have ht:(l.take i).length=i:=by rw [yK];omega
   have hg:=sQ ho i hi
   simp only [go_sem,ya,bP,hv.a7 hi,s38 KQ,wrap64 (n:=b6 (l.take i)+l[i]) (by omega) (by omega)];refine ⟨_,k-1,rfl,by omega,i+1,?_,by omega⟩;rw [wrap64 (by omega) (by omega),oK hi];simp only [go_sem,ya,aJ,aP hv.pu,aS _ hv.pu]<;>rfl
  ·right
   simp only [go_sem,show ¬(i:Int)<l.length by omega];refine ⟨_,_,rfl,by simp,_,_,rfl,rfl,?_⟩;simp only [go_sem,ya];rw [yI (by omega)]
def Nn {l:List Int} {f:Int->Int} {i:Nat} (h:i<l.length):((l.take (i+1)).map f).map aa=((l.take i).map f).map aa++[AV.int .i64 (f l[i])]:=by
 rw [wb h,xG,xG];rfl
def s35 (h:Has P L 35 F3) {v:AV} {l:List Int} (hv:aX v l) (hl:l.length<=1000000) {g:Nat} {f:Int->Int} (hg:∀x,an P L g [aa x] (aa (f x))):
  ∃r,an P L 35 [v,.fn (.f g) [] []] r/\aX (shut r) (l.map f):=by
 have key:=cG (P:=P) (L:=L) (live:=[1,5,8,9,10]) (a:=rn)
  (I:=fun k st=>∃i:Nat,i+k=l.length/\((i=0/\st=⟨[(1,.fn (.f g) [] []),(5,.ab),(8,v),(9,aa l.length),(10,aa i)],[],0,0⟩)\/
   (0<i/\st=⟨[(1,.fn (.f g) [] []),(5,.aq 0 0 i),(8,v),(9,aa l.length),(10,aa i)],[(0,.cells true true false 1 (((l.take i).map f).map aa))],1,0⟩)))
  (Q:=fun ex st=>∃tm hp ct,st=⟨tm,hp,ct,0⟩/\ex= .exit 0/\((l.length=0/\ah tm 5= .ab)\/(0<l.length/\ah tm 5= .aq 0 0 l.length/\aj hp 0=some (.cells true true false 1 ((l.map f).map aa))))) ?_
 ·unfold an;rw [aT h];simp only [go_sem,ya,F3,hv.len];generalize hq:D P L (.loop [1,5,8,9,10] rn) _=q;obtain ⟨ex,st,rfl,tm,hp,ct,rfl,rfl,h2⟩:=cm hq (key l.length) ⟨0,by omega,.inl ⟨rfl,by simp only [go_sem,ya,aJ,aP hv.pu,aS _ hv.pu]<;>rfl⟩⟩
  rcases h2 with ⟨h2,h3⟩ | ⟨h2,h3,h4⟩
  ·refine ⟨.ab,by simp only [go_sem,aJ,h3],?_⟩;rw [List.eq_nil_of_length_eq_zero h2];exact oP
  ·refine ⟨.bS false 1 l.length ((l.map f).map aa),?_,?_⟩
   ·simp only [go_sem,yc,aJ,h3,h4];exact X7 (Ib _ _ _) (by simp) (by decide)
   ·have:=fM false (l.map f)
    rwa [yU] at this
 ·rintro k st ⟨i,hk,aQ⟩;by_cases hi:i<l.length
  ·have bP:(i:Int)<l.length:=by omega
   left
   rcases aQ with ⟨h0,rfl⟩ | ⟨h0,rfl⟩
   ·subst h0;simp only [go_sem,ya,yc,Nat.reduceMul,Nat.reduceLT,yd,yh,rn,show ((0:Nat):Int)<l.length from bP,hv.a7 hi,hg,mq];refine ⟨_,k-1,rfl,by omega,1,by omega,.inr ⟨by omega,?_⟩⟩;rw [wrap64 (by omega) (by omega),Nn hi];simp only [go_sem,ya,yc,aJ,aP hv.pu,aS _ hv.pu]<;>rfl
   ·have hlen:(((l.take i).map f).map aa).length=i:=by simp;omega
    simp only [go_sem,ya,yc,yd,yh,rn,bP,hv.a7 hi,hg]
    rw [mr (ex:=false) (pu:=true) (cs:=((l.take i).map f).map aa) (by simp only [go_sem,ya]) (by rw [hlen,yh]) (by omega) (by omega) (by decide) (by simp only [go_sem])];simp only [go_sem,ya,yc];refine ⟨_,k-1,rfl,by omega,i+1,by omega,.inr ⟨by omega,?_⟩⟩;rw [wrap64 (by omega) (by omega),Nn hi];simp only [go_sem,ya,yc,aJ,aP hv.pu,aS _ hv.pu]<;>rfl
  ·right
   rcases aQ with ⟨h0,rfl⟩ | ⟨h0,rfl⟩
   ·simp only [go_sem,ya,rn,show ¬(i:Int)<l.length by omega];refine ⟨_,_,rfl,by simp,_,_,_,rfl,rfl,.inl ⟨by omega,?_⟩⟩;simp only [go_sem,ya]
   ·simp only [go_sem,ya,rn,show ¬(i:Int)<l.length by omega];refine ⟨_,_,rfl,by simp,_,_,_,rfl,rfl,.inr ⟨by omega,?_,?_⟩⟩
    ·simp only [go_sem,ya];rw [show i=l.length by omega]
    ·simp only [go_sem];rw [yI (by omega)]
end
end
section
def dK (n:Nat) (f:Nat->Nat->Int):List (List Int):=(yR n).map fun r=>(yR n).map fun c=>f c r
def gY (n:Nat) (f:Nat->Nat->Int):(dK n f).length=n:=by simp [dK]
def sW {n:Nat} {f:Nat->Nat->Int} {r:Nat} (h:r<n):(dK n f)[r]'(by rw [gY];exact h)=(yR n).map fun c=>f c r:=by simp [dK]
def jk (x:Int):Int:=(39373*x)%2147483647
def mB (x:Int):Nat->Int
 | 0=>x
 | k+1=>jk (mB x k)
def LU (x:Int):0<=jk x/\jk x<=2147483646:=by
 unfold jk;omega
def Xs {key:Int} (h:0<=key/\key<=2147483646):∀k,0<=mB key k/\mB key k<=2147483646
 | 0=>h
 | k+1=>LU _
def kC:List Int->Int->Nat
 | [],_=>0
 | w::r,t=>if t<w then 0 else 1+kC r (t-w)
def Yd {w:List Int} {t:Int}:∀k,k<w.length->(∀j,j<k->b6 (w.take (j+1))<=t)->kC w t=k+kC (w.drop k) (t-b6 (w.take k)):=by
 intro k
 induction k with
 | zero=>intro _ _;simp [b6]
 | succ k ih=>
  intro hk h;have h1:=ih (by omega) (fun j hj=>h j (by omega));have kV:k<w.length:=by omega
  have h2:=h k (by omega);rw [oK kV] at h2;rw [h1,yO kV,kC,yD (by omega),oK kV,show t-b6 (w.take k)-w[k]=t-(b6 (w.take k)+w[k]) by omega];omega
def abH {w:List Int} {t:Int} {k:Nat} (hk:k<w.length) (h:∀j,j<k->b6 (w.take (j+1))<=t) (ht:t<b6 (w.take (k+1))):kC w t=k:=by
 rw [Yd k hk h,yO hk,kC,yS (by rw [oK hk] at ht;omega)];omega
def Ok {w:List Int}:∀{t:Int},t<b6 w->0<=t->kC w t<w.length:=by
 induction w with
 | nil=>intro t h h0;simp [b6] at h;omega
 | cons a r ih=>
  intro t h h0;simp only [kC,yz]
  split
  ·omega
  ·have:=ih (t:=t-a) (by simp only [b6] at h;omega) (by omega)
   omega
def eF (key:Int) (w:List Int) (k:Nat):Int:=(kC w (mB key (k+1)%b6 w):Int)-(w.length/2:Nat)
def a8 (f:Nat->Int):Nat->Int
 | 0=>0
 | n+1=>a8 f n+f n
def AJ {f:Nat->Int} {b:Int} (h:∀k,-b<=f k/\f k<=b):∀n:Nat,-(b*n)<=a8 f n/\a8 f n<=b*n
 | 0=>by simp [a8]
 | n+1=>by
  have h1:=AJ h n;have h2:=h n;have e:b*((n+1:Nat):Int)=b*n+b:=by grind
  simp only [a8,e];omega
def kv (k:List (List Int)) (j i:Nat):Int:=(k.getD j []).getD i 0
def gI (s k:List (List Int)) (c r:Nat):Int:=
 a8 (fun j=>a8 (fun i=>kv k j i*bB s ((c:Int)+i-(k.length/2:Nat)) ((r:Int)+j-(k.length/2:Nat))) k.length) k.length
def Mx {lo hi:Int} {l:List Int} (h:bA lo hi l=false) (h0:lo<=0/\0<=hi) (i:Nat):lo<=l.getD i 0/\l.getD i 0<=hi:=by
 by_cases hl:i<l.length
 ·have:=sQ h i hl
  grind
 ·grind
def lA {n:Nat} {lo hi:Int} {k:List (List Int)} (h:cy n lo hi k=0) (h0:lo<=0/\0<=hi) (j i:Nat):lo<=kv k j i/\kv k j i<=hi:=by
 unfold kv;by_cases hl:j<k.length
 ·have:=jx h j hl
  simp only [xk,xP hl,vv];exact Mx this.2 h0 i
 ·grind
def Dn {n:Nat} {lo hi:Int} {s:List (List Int)} (h:cy n lo hi s=0) (h0:lo<=0/\0<=hi) (c r:Int):lo<=bB s c r/\bB s c r<=hi:=by
 unfold bB;by_cases hl:(r%s.length).toNat<s.length
 ·have:=jx h _ hl
  simp only [xk,xP hl,vv];exact Mx this.2 h0 _
 ·grind
end
section
open Go (IntKind)
section
variable {P:aA} {L:Lib}
def No {k:yJ} {n:Int} (h:0<=n):cP (.int k n)=some n.toNat:=by
 cases n with
 | ofNat n=>rfl
 | negSucc n=>exact absurd h (by simp)
def Ie {s:List (List Int)} {n:Nat} (hn:s.length=n) (h0:0<n) (hr:∀i (hi:i<s.length),s[i].length=n) (c r:Int):
  ∃(h1:(r%n).toNat<s.length) (h2:(c%n).toNat<(s[(r%n).toNat]'h1).length),bB s c r=(s[(r%n).toNat]'h1)[(c%n).toNat]'h2:=by
 have a2:=wG r (show (0:Int)<n by omega);have b2:=wG c (show (0:Int)<n by omega);unfold bB
 grind
def KR (h:Has P L 97 CS) (nV:Has P L 134 rH) {v:AV} {s:List (List Int)} (hv:bK v s) {n:Nat} (hn:s.length=n) (h0:0<n) (hl:n<=1000000) (hr:∀i (hi:i<s.length),s[i].length=n) (c r:Int):
  an P L 97 [v,aa c,aa r] (aa (bB s c r)):=by
 obtain ⟨h1,h2,h3⟩:=Ie hn h0 hr c r;have a1:=w7 r (show (n:Int)≠0 by omega);have b1:=w7 c (show (n:Int)≠0 by omega);obtain ⟨q,rest,ja,oz⟩:=hv.a7 h1;have e1:=Ui nV (n:=r) (m:=(s.length:Int)) (by omega) (by omega);have e2:=Ui nV (n:=c) (m:=(s.length:Int)) (by omega) (by omega);rw [hn] at e1 e2;unfold an at e1 e2 ⊢;rw [aT h];simp only [go_sem,ya,CS,hv.len,hn,e1,e2,No a1,No b1,oz,ja.a7 h2,h3]
def kJ (l:List Int):AV:= .aC false l.length (l.map aa)
def agr (l:List Int):aX (kJ l) l:=fM false l
def ags (s:List (List Int)):gr aX (s.map kJ) s:=by
 induction s with
 | nil=>trivial
 | cons a r ih=>exact ⟨agr a,ih⟩
def agt (e:Bool) (s:List (List Int)):bK (.aC e s.length (s.map kJ)) s:=by
 refine ⟨s.map kJ,?_,ags s⟩
 have:=A8 e (s.map kJ)
 rwa [yU] at this
def jV:List AV->AV
 | []=> .ab
 | a::r=> .aq 0 0 (r.length+1)
def oA:List AV->List AV->AV
 | _,[]=> .ab
 | [],b::q=> .aq 0 0 (q.length+1)
 | _::_,b::q=> .aq 1 0 (q.length+1)
def jb:List AV->List AV->Hp
 | [],[]=>[]
 | a::r,[]=>[(0,.cells true true false 1 (a::r))]
 | [],b::q=>[(0,.cells true true false 1 (b::q))]
 | a::r,b::q=>[(1,.cells true true false 1 (b::q)),(0,.cells true true false 1 (a::r))]
def ma:List AV->List AV->Nat
 | [],[]=>0
 | _::_,[]=>1
 | [],_::_=>1
 | _::_,_::_=>2
def kD:jV []= .ab:=rfl
def kE (a:AV) (r:List AV):jV (a::r)= .aq 0 0 (r.length+1):=rfl
def kF (o:List AV):oA o []= .ab:=by cases o<;>rfl
def kg (b:AV) (q:List AV):oA [] (b::q)= .aq 0 0 (q.length+1):=rfl
def kh (a:AV) (r:List AV) (b:AV) (q:List AV):oA (a::r) (b::q)= .aq 1 0 (q.length+1):=rfl
def ki:jb [] []=[]:=rfl
def kj (a:AV) (r:List AV):jb (a::r) []=[(0,.cells true true false 1 (a::r))]:=rfl
def km (b:AV) (q:List AV):jb [] (b::q)=[(0,.cells true true false 1 (b::q))]:=rfl
def ko (a:AV) (r:List AV) (b:AV) (q:List AV):jb (a::r) (b::q)=[(1,.cells true true false 1 (b::q)),(0,.cells true true false 1 (a::r))]:=rfl
def kq:ma [] []=0:=rfl
def ku (a:AV) (r:List AV):ma (a::r) []=1:=rfl
def kx (b:AV) (q:List AV):ma [] (b::q)=1:=rfl
def ky (a:AV) (r:List AV) (b:AV) (q:List AV):ma (a::r) (b::q)=2:=rfl
end
end
section
open Go (IntKind)
section
variable {P:aA} {L:Lib}
def dE (k id o:Nat):BE k (.ptr id o)=some (.ptr id (o+k)):=rfl
def gk {α:Type} (a:α) (l:List α):ux 1 (a::l)=l:=rfl
def E2 {α:Type} (a b:α) (l:List α):ux 2 (a::b::l)=l:=rfl
def ahU {α:Type} (a b c:α) (l:List α):ux 3 (a::b::c::l)=l:=rfl
def Ye (x:Int) (k:Nat):mB x (k+1)=jk (mB x k):=rfl
def jI (s k:List (List Int)) (c r:Nat) (j i:Nat):Int:=kv k j i*bB s ((c:Int)+i-(k.length/2:Nat)) ((r:Int)+j-(k.length/2:Nat))
def Yf (s k:List (List Int)) (c r:Nat):gI s k c r=a8 (fun j=>a8 (jI s k c r j) k.length) k.length:=rfl
def DK {a b x y:Int} (h1: -a<=x/\x<=a) (h2: -b<=y/\y<=b): -(a*b)<=x*y/\x*y<=a*b:=by
 have p1:=ve (show 0<=a-x by omega) (show 0<=b-y by omega);have p2:=ve (show 0<=a+x by omega) (show 0<=b+y by omega);have p3:=ve (show 0<=a-x by omega) (show 0<=b+y by omega);have p4:=ve (show 0<=a+x by omega) (show 0<=b-y by omega)
 grind
def LV {s k:List (List Int)} {n m:Nat} (hs:cy n (-1000) 1000 s=0) (hk:cy m (-100) 100 k=0) (c r j i:Nat): -100000<=jI s k c r j i/\jI s k c r j i<=100000:=
 DK (lA hk (by decide) j i) (Dn hs (by decide) _ _)
def LW {s k:List (List Int)} {n m:Nat} (hs:cy n (-1000) 1000 s=0) (hk:cy m (-100) 100 k=0) (c r j:Nat) (i:Nat): -(100000*i)<=a8 (jI s k c r j) i/\a8 (jI s k c r j) i<=100000*i:=
 AJ (fun i=>LV hs hk c r j i) i
def oY {k:List (List Int)} {j i:Nat} (hj:j<k.length) (hi:i<k[j].length):k[j][i]=kv k j i:=by
 unfold kv
 grind
def Ji (s k:List (List Int)) (r:Nat) (c:Nat):List Int:=(yR c).map fun c=>gI s k c r
def ZH (s k:List (List Int)) (r c:Nat):(Ji s k r c).length=c:=by simp [Ji]
def ze (s k:List (List Int)) (n:Nat) (r:Nat):List (List Int):=(yR r).map fun r=>Ji s k r n
def jM:List (List Int)->Bool
 | []=>false
 | l::r=>bA (-1000) 1000 l||jM r
end
end
section
open Go (IntKind)
section
variable {P:aA} {L:Lib}
abbrev Nm (n:Int):AV:= .agg [aa n,.ab]
def jE (hp:Hp) (ct id:Nat) (a:Int) (x y:AV):iI hp ct id 0 2 [.int .i64 a,.ab] (some (.cells true true true 2 [x,y]))=some (.ay [],aW hp id (.cells true true true 2 [.int .i64 a,.ab]),ct):=rfl
def ns (hp:Hp):gN .sl .ab .ab=some true:=rfl
def nE (b:Bool):Fy false (some b)=some (.bool b):=by cases b<;>rfl
def agu (f:bZ) (tm:Env) (hp:Hp) (ct:Nat) (x y:X):aY P L f tm hp ct (.mn [x,y])=rd hp ct (min2 (ao tm x) (ao tm y)):=by
 simp only [aY,rd,bc,cx,o6]
 grind
def Bz (f:bZ) (tm:Env) (hp:Hp) (ct:Nat) (x y:X):aY P L f tm hp ct (.mx [x,y])=rd hp ct (max2 (ao tm x) (ao tm y)):=by
 simp only [aY,rd,bc,cx,o6]
 grind
def abI (k k':yJ) (x y:Int):min2 (.int k x) (.int k' y)=some (.int k (if y<x then y else x)):=rfl
def A0 (k k':yJ) (x y:Int):max2 (.int k x) (.int k' y)=some (.int k (if y>x then y else x)):=rfl
def li (n:Int):Int:=if n<0 then -1 else if n=0 then 0 else 1
def agv (n:Int):(if (if n<1 then n else 1)> -1 then (if n<1 then n else 1) else -1)=li n:=by
 unfold li
 grind
def n117 (h:Has P L 117 B3) (n:Int):an P L 117 [aa n] (Nm n):=by
 unfold an;rw [aT h];simp only [go_sem,ya,yc,yd,B3,b9,yy,jE];rfl
def n147 (h:Has P L 147 pk) {n:Int} (hn: -9223372036854775808<n/\n<9223372036854775808):an P L 147 [Nm n] (Nm (-n)):=by
 unfold an;rw [aT h]
 simp only [go_sem,ya,yc,yd,pk,b9,jE,ns,nE,dE,yy,gk,show ¬n= -9223372036854775808 by omega,wrap64 (n:=0-n) (by omega) (by omega)];simp only [Int.zero_sub];rfl
def n146 (h:Has P L 146 nQ) (n:Int):an P L 146 [Nm n] (aa (li n)):=by
 unfold an;rw [aT h];simp only [go_sem,ya,yc,nQ,b9,dE,yy,agu,Bz,abI,A0,agv]
def Jj (hp:Hp) (p q:Bool):gN .b (.bool p) (.bool q)=some (p==q):=rfl
end
end
section
open Go (IntKind)
section
variable {P:aA} {L:Lib}
def Ol {n:Nat} {sp:List AV->Option AV} (h:L.pure n=some sp) {f:bZ} (vals:List AV):cf P L f n vals=sp vals:=by simp only [cf,h]
abbrev mb (n:Int):AV:= .int .u64 n
def SC {n:Int} (h1:0<=n) (h2:n<18446744073709551616):IntKind.wrap .u64 n=n:=by
 simp only [IntKind.wrap,IntKind.signed,IntKind.bits]
 grind
def Rw (n:Int):lL (.toInt .u64) (aa n)=some (mb (IntKind.wrap .u64 n)):=rfl
def Rx (n:Int):lL (.toInt .i64) (mb n)=some (aa (IntKind.wrap .i64 n)):=rfl
def Ry (b:Bool):Fy true (some b)=some (.bool (!b)):=by cases b<;>rfl
def agw (a b c d:AV):over 0 [a,b] [c,d]=[a,b]:=rfl
def jl (a b:AV) (r:List AV):gB 2 true (a::b::r)=some (.agg [a,b]):=rfl
def Jk (a b c d:AV) (r:List AV):gB 4 true (a::b::c::d::r)=some (.agg [a,b,c,d]):=rfl
def n142 (h:Has P L 142 rI) {n:Int} (hn: -9223372036854775808<n/\n<9223372036854775808):an P L 142 [aa n] (mb n.natAbs):=by
 unfold an;rw [aT h];by_cases h0:n<0
 ·simp only [go_sem,ya,rI,h0,Rw,wrap64 (n:=0-n) (by omega) (by omega),SC (n:=0-n) (by omega) (by omega)];rw [show 0-n=(n.natAbs:Int) by omega]
 ·simp only [go_sem,ya,rI,h0,Rw,SC (n:=n) (by omega) (by omega)];rw [show n=(n.natAbs:Int) by omega];rfl
def Xt {x y:Nat} (hx:x<18446744073709551616) (hy:y<18446744073709551616) (h:x*y<18446744073709551616):qQ [mb x,mb y]=some (.ay [mb 0,mb (x*y:Nat)]):=by
 show (bif yB x 18446744073709551616&&yB y 18446744073709551616 then _ else none)=_
 rw [show yB x 18446744073709551616=true from yv (by omega),show yB y 18446744073709551616=true from yv (by omega)];simp only [Bool.and_self,ym,Nat.div_eq_of_lt h,vG h];rfl
def n100 (h:Has P L 100 zD) (zL:Has P L 142 rI) (Um:L.pure 143=some qQ) {a b:Int} (ha: -4611686018427387904<a/\a<4611686018427387904) (hb: -4611686018427387904<b/\b<4611686018427387904) (hm:a.natAbs*b.natAbs<4611686018427387904):an P L 100 [Nm a,Nm b] (Nm (a*b)):=by
 have e1:=n142 zL (n:=a) (by omega);have e2:=n142 zL (n:=b) (by omega);have e3:cf P L (D P L) 143 [mb a.natAbs,mb b.natAbs]=some (.ay [mb 0,mb (a.natAbs*b.natAbs:Nat)]):=by
  rw [Ol Um];exact Xt (by omega) (by omega) (by omega)
 unfold an at e1 e2 ⊢;rw [aT h];have key:∃m:Nat,a.natAbs*b.natAbs=m:=⟨_,rfl⟩;obtain ⟨m,ek⟩:=key;rw [ek] at e3 hm;by_cases hs:(decide (a<0)==decide (b<0))=true
 ·have e5:a*b=(m:Int):=by
   have:decide (a<0)=decide (b<0):=eq_of_beq hs
   have VH:(a<0)=(b<0):=by simpa using this
   rw [<-ek];by_cases h1:a<0
   ·have h2:b<0:=VH▸h1;rw [xA,show (a.natAbs:Int)= -a by omega,show (b.natAbs:Int)= -b by omega,Int.neg_mul_neg]
   ·have h2:¬b<0:=VH▸h1;rw [xA,show (a.natAbs:Int)=a by omega,show (b.natAbs:Int)=b by omega]
  rw [e5]
  simp only [go_sem,ya,yc,yd,zD,b9,jE,ns,nE,Ry,y9,Jj,dE,yy,gk,e1,e2,e3,show (m:Int)<=9223372036854775807 by omega,hs,Rx,wrap64 (n:=(m:Int)) (by omega) (by omega)];rfl
 ·have hs:(decide (a<0)==decide (b<0))=false:=by simpa using hs
  have e5:a*b=0-(m:Int):=by
   rw [<-ek];by_cases h1:a<0
   ·have h2:¬b<0:=fun h2=>by simp [h1,h2] at hs
    rw [xA,show (a.natAbs:Int)= -a by omega,show (b.natAbs:Int)=b by omega,Int.neg_mul];omega
   ·have h2:b<0:=by
     by_cases h2:b<0
     ·exact h2
     ·simp [h1,h2] at hs
    rw [xA,show (a.natAbs:Int)=a by omega,show (b.natAbs:Int)= -b by omega,Int.mul_neg];omega
  rw [e5]
  simp only [go_sem,ya,yc,yd,zD,b9,jE,ns,nE,Ry,xB,Jj,dE,yy,gk,e1,e2,e3,show (m:Int)<=9223372036854775807 by omega,hs,Rx,wrap64 (n:=(m:Int)) (by omega) (by omega),wrap64 (n:=0-(m:Int)) (by omega) (by omega)];rfl
def n163 (h:Has P L 163 pn) (nW:Has P L 147 pk) {n:Int} (hn: -9223372036854775808<n/\n<9223372036854775808):an P L 163 [Nm n] (Nm n.natAbs):=by
 have e1:=n147 nW hn;unfold an at e1 ⊢;rw [aT h];by_cases h0:n<0
 ·simp only [go_sem,ya,yc,pn,b9,jE,dE,yy,h0,jl,ef,e1];rw [show -n=(n.natAbs:Int) by omega];rfl
 ·simp only [go_sem,ya,yc,pn,b9,jE,dE,yy,h0,jl];rw [show ((n.natAbs:Nat):Int)=n by omega];rfl
def ZI {a b:Int} (hb:0<b):(a.tmod b<0->a/b=a.tdiv b-1/\a%b=a.tmod b+b)/\(¬a.tmod b<0->a/b=a.tdiv b/\a%b=a.tmod b):=by
 have h1:=Int.mul_tdiv_add_tmod a b;have h2:a.tmod b<b:=tz a hb;have h3: -b<a.tmod b:=tA a hb;refine ⟨fun h=>(u5 hb).2 ⟨?_,?_,?_⟩,fun h=>(u5 hb).2 ⟨?_,?_,?_⟩⟩
 ·grind
 ·omega
 ·omega
 ·omega
 ·omega
 ·omega
def n164 (h:Has P L 164 mI) {a b:Int} (ha: -4611686018427387904<a/\a<4611686018427387904) (hb:0<b/\b<4611686018427387904):an P L 164 [Nm a,Nm b] (.ay [Nm (a/b),Nm (a%b)]):=by
 obtain ⟨f1,f2⟩:=ZI (a:=a) hb.1;have hq: -4611686018427387904<a.tdiv b/\a.tdiv b<4611686018427387904:=by
  have:=Int.natAbs_tdiv_le_natAbs a b
  omega
 have hr: -4611686018427387904<a.tmod b/\a.tmod b<4611686018427387904:=by
  have:=tz a hb.1
  have:=tA a hb.1
  omega
 unfold an;rw [aT h];by_cases h0:a.tmod b<0
 ·obtain ⟨g1,g2⟩:=f1 h0;rw [g1,g2]
  simp only [go_sem,ya,yc,yd,mI,b9,jE,ns,nE,dE,yy,gk,show ¬a= -9223372036854775808 by omega,er _ _ _ (show b≠0 by omega),dw _ _ _ (show b≠0 by omega),h0,wrap64 (n:=a.tdiv b) (by omega) (by omega),wrap64 (n:=a.tdiv b-1) (by omega) (by omega),wrap64 (n:=a.tmod b+b) (by omega) (by omega)];rfl
 ·obtain ⟨g1,g2⟩:=f2 h0;rw [g1,g2]
  simp only [go_sem,ya,yc,yd,mI,b9,jE,ns,nE,dE,yy,gk,show ¬a= -9223372036854775808 by omega,er _ _ _ (show b≠0 by omega),dw _ _ _ (show b≠0 by omega),h0,wrap64 (n:=a.tdiv b) (by omega) (by omega)];rfl
def n148 (h:Has P L 148 zH) (jN:Has P L 146 nQ) (kK:Has P L 164 mI) {a b:Int} (ha: -4611686018427387904<a/\a<4611686018427387904) (hb:0<b/\b<4611686018427387904):an P L 148 [Nm a,Nm b] (Nm (a/b)):=by
 have e1:=n146 jN b;have e2:=n164 kK ha hb;have e3:li b=1:=by unfold li;rw [yD (by omega),yD (by omega)]
 rw [e3] at e1;unfold an at e1 e2 ⊢;rw [aT h];simp only [go_sem,ya,yc,zH,uK,yF,b9,jE,yy,jl,ef,e1,e2,AT];rfl
def abJ (a b:Nat) (hb:b≠0):xU b (a%b)=xU a b:=by
 rw [vI b,<-yaI,vI]
def agx (jN:Has P L 146 nQ) (kK:Has P L 164 mI) (G:Nat):
  ∀k s,(∃x y:Nat,bw [2,3,4] s=⟨[(2,.ptr 0 0),(3,.ptr 1 0),(4,.ptr 2 0)],[(2,.cells true true true 2 [aa 0,.ab]),(1,.cells true true true 2 [aa y,.ab]),(0,.cells true true true 2 [aa x,.ab])],3,0⟩/\x<4611686018427387904/\y<4611686018427387904/\xU x y=G/\y=k)->
   ∃ex s',D P L (.loop [2,3,4] Bj) s=some (ex,s')/\∃tm,s'=⟨tm,[(2,.cells true true true 2 [aa 0,.ab]),(1,.cells true true true 2 [aa 0,.ab]),(0,.cells true true true 2 [aa G,.ab])],3,0⟩/\ex= .exit 0/\ah tm 2= .ptr 0 0/\ah tm 4= .ptr 2 0:=by
 refine cG (I:=fun k s=>∃x y:Nat,s=⟨[(2,.ptr 0 0),(3,.ptr 1 0),(4,.ptr 2 0)],[(2,.cells true true true 2 [aa 0,.ab]),(1,.cells true true true 2 [aa y,.ab]),(0,.cells true true true 2 [aa x,.ab])],3,0⟩/\x<4611686018427387904/\y<4611686018427387904/\xU x y=G/\y=k)
  (Q:=fun ex s'=>∃tm,s'=⟨tm,[(2,.cells true true true 2 [aa 0,.ab]),(1,.cells true true true 2 [aa 0,.ab]),(0,.cells true true true 2 [aa G,.ab])],3,0⟩/\ex= .exit 0/\ah tm 2= .ptr 0 0/\ah tm 4= .ptr 2 0) ?_
 rintro k s ⟨x,y,rfl,hx,hy,hG,rfl⟩;have e1:=n146 jN (y:Int);by_cases VI:y=0
 ·right
  subst VI;have e3:li ((0:Nat):Int)=0:=rfl;rw [e3] at e1;simp only [go_sem,ya,Bj,yE,y9,jl,ef,e1];obtain rfl:x=G:=by rw [<-hG,tB]
  exact ⟨_,_,rfl,by simp,_,rfl,rfl,by simp only [go_sem,ya],by simp only [go_sem,ya]⟩
 ·left
  have e3:li (y:Int)=1:=by unfold li;rw [yD (by omega),yD (by omega)]
  rw [e3] at e1;have e2:=n164 kK (a:=x) (b:=y) (by omega) (by omega);rw [show ((x:Int)%(y:Int))=((x%y:Nat):Int) from rfl] at e2;have aU:=vh x (show 0<y by omega);simp only [go_sem,ya,yc,Bj,wK,yF,xB,b9,jE,jl,ef,e1,e2,AT];refine ⟨_,x%y,rfl,aU,y,x%y,?_,hy,by omega,by rw [<-hG];exact abJ x y VI,rfl⟩
  simp only [go_sem,ya,yc,aJ,agw,Bool.true_and]
def n130 (h:Has P L 130 zF) (rN:Has P L 163 pn) (nW:Has P L 147 pk) (jN:Has P L 146 nQ) (kK:Has P L 164 mI) {a b:Int} (ha: -4611686018427387904<a/\a<4611686018427387904) (hb: -4611686018427387904<b/\b<4611686018427387904):an P L 130 [Nm a,Nm b] (Nm (xL a b:Nat)):=by
 have e1:=n163 rN nW (n:=a) (by omega);have e2:=n163 rN nW (n:=b) (by omega);unfold an at e1 e2 ⊢;rw [aT h];simp only [go_sem,ya,yc,zF,b9,jE,jl,ef,e1,e2,dM,yy];generalize hq:D P L (.loop [2,3,4] Bj) _=q;obtain ⟨ex,s,rfl,tm,rfl,rfl,h2,h4⟩:=cm hq (agx (P:=P) (L:=L) jN kK (xL a b) b.natAbs) ⟨a.natAbs,b.natAbs,by simp only [go_sem,ya,yc,aJ],by omega,by omega,rfl,rfl⟩;simp only [go_sem,ya,yc,aJ,h2,h4,jE,jl];rfl
abbrev Fq (n d:Int):AV:= .agg [aa n,.ab,aa d,.ab]
def oZ (hp:Hp) (ct id:Nat) (a b:Int) (x y z w:AV):iI hp ct id 0 4 [.int .i64 a,.ab,.int .i64 b,.ab] (some (.cells true true true 4 [x,y,z,w]))=some (.ay [],aW hp id (.cells true true true 4 [.int .i64 a,.ab,.int .i64 b,.ab]),ct):=rfl
def IU (tm:Env) (x y z w:AV) (a:Int) (r:List (Nat×Nat×X)):BW tm [x,y,z,w] 0 2 [.int .i64 a,.ab] r=fill tm [.int .i64 a,.ab,z,w] r:=rfl
def IV (tm:Env) (x y z w:AV) (a:Int) (r:List (Nat×Nat×X)):BW tm [x,y,z,w] 2 2 [.int .i64 a,.ab] r=fill tm [x,y,.int .i64 a,.ab] r:=rfl
def n101 (h:Has P L 101 zE) (Cf:Has P L 148 zH) (FE:Has P L 130 zF) (rN:Has P L 163 pn) (nW:Has P L 147 pk) (jN:Has P L 146 nQ) (kK:Has P L 164 mI) {a b:Int} (ha: -4611686018427387904<a/\a<4611686018427387904) (hb:0<b/\b<4611686018427387904):
  an P L 101 [Nm a,Nm b] (Fq (a/(xL a b:Nat)) (b/(xL a b:Nat))):=by
 have e1:=n146 jN b;have e3:li b=1:=by unfold li;rw [yD (by omega),yD (by omega)]
 rw [e3] at e1;have e2:=n130 FE rN nW jN kK ha (b:=b) (by omega);have hg:(0:Int)<(xL a b:Nat):=by
  have:=ub a (show b≠0 by omega)
  omega
 have iX:((xL a b:Nat):Int)<4611686018427387904:=by
  have:=Int.gcd_le_natAbs_right a (show b≠0 by omega)
  omega
 have e4:=n148 Cf jN kK ha (b:=(xL a b:Nat)) ⟨hg,iX⟩;have e5:=n148 Cf jN kK (a:=b) (b:=(xL a b:Nat)) (by omega) ⟨hg,iX⟩;unfold an at e1 e2 e4 e5 ⊢;rw [aT h];by_cases pV:b=1
 ·subst pV;rw [Int.gcd_one];simp only [go_sem,ya,yc,zE,uK,yF,yE,b9,oZ,jl,ef,e1,dE,yy,gk,ns,nE,IU,IV];rw [show a/((1:Nat):Int)=a from Int.ediv_one a];rfl
 ·simp only [go_sem,ya,yc,zE,uK,yF,b9,jE,oZ,jl,ef,e1,dE,yy,gk,ns,nE,pV,e2,e4,e5,dM,IU,IV];rfl
def n98 (h:Has P L 98 CT) (n d:Int):an P L 98 [Fq n d] (.bool (decide (d=1))):=by
 unfold an;rw [aT h];simp only [go_sem,ya,yc,CT,b9,dE,yy,E2,ahU,ns,nE]
end
end
section
def bi (a b:Int):Int:=a/(xL a b:Nat)
def bm (a b:Int):Int:=b/(xL a b:Nat)
def El {a b:Int} (hb:0<b):(0:Int)<(xL a b:Nat):=by
 have:=ub a (show b≠0 by omega)
 omega
def My {a b k:Int} (hk:0<k):bi (k*a) (k*b)=bi a b:=by
 unfold bi;rw [tW,xA,show (k.natAbs:Int)=k by omega,uA _ _ hk]
def Mz {a b k:Int} (hk:0<k):bm (k*a) (k*b)=bm a b:=by
 unfold bm;rw [tW,xA,show (k.natAbs:Int)=k by omega,uA _ _ hk]
def BA (a b:Int):a=(xL a b:Nat)*bi a b:=(u6 (vV a b)).symm
def Ez (a b:Int):b=(xL a b:Nat)*bm a b:=(u6 (vN a b)).symm
def oQ {a b:Int} (hb:0<b):0<bm a b:=by
 have h1:=El (a:=a) hb;have h2:=Ez a b;rcases Int.lt_trichotomy (bm a b) 0 with h | h | h
 ·have:=Int.mul_neg_of_pos_of_neg h1 h;omega
 ·grind
 ·exact h
def ni (a b:Int):(bi a b).natAbs<=a.natAbs:=by
 unfold bi;rw [wZ (vV a b)];exact uU _ _
def nj (a b:Int):(bm a b).natAbs<=b.natAbs:=by
 unfold bm;rw [wZ (vN a b)];exact uU _ _
def ajj {a b c d:Int} (hb:0<b) (hd:0<d) (h:a*d=c*b):bi a b=bi c d/\bm a b=bm c d:=by
 have e1:bi (d*a) (d*b)=bi (b*c) (b*d):=by rw [wQ d a,h,wQ c b,wQ d b]
 have e2:bm (d*a) (d*b)=bm (b*c) (b*d):=by rw [wQ d a,h,wQ c b,wQ d b]
 rw [My hd,My hb] at e1;rw [Mz hd,Mz hb] at e2;exact ⟨e1,e2⟩
def fU (a b:Int):List Nat:=if bm a b=1 then bz (bi a b) else bz (bi a b)++[47]++bz (bm a b)
end
section
def SD {a b:Nat} (h:¬a<b):yB a b=false:=by
 cases hb:yB a b with
 | false=>rfl
 | true=>exact absurd (yr hb) (by omega)
def IE:∀(f n:Nat) (acc:List Nat),n<f->je f n acc=je f n []++acc
 | 0,_,_,h=>by omega
 | f+1,n,acc,h=>by
  simp only [je];by_cases h1:n<10
  ·rw [show yB n 10=true from yv h1];rfl
  ·rw [show yB n 10=false from SD (by omega)];rw [IE f (n/10) _ (by omega),IE f (n/10) [48+n%10] (by omega)]
   simp
def HJ {f n:Nat} (h:n<10):je (f+1) n []=[48+n]:=by
 simp only [je];rw [show yB n 10=true from yv h];rfl
def IF {f n:Nat} (h:¬n<10) (hf:n<=f):je (f+1) n []=je f (n/10) []++[48+n%10]:=by
 rw [<-IE f (n/10) _ (by omega)];simp only [je];rw [show yB n 10=false from SD (by omega)];rfl
def abK:∀(n f:Nat),n<f->je f n []=az n:=by
 intro n
 induction n using w6 with
 | _ n ih=>
  intro f hf;obtain ⟨g,rfl⟩:∃g,f=g+1:=⟨f-1,by omega⟩;by_cases h:n<10
  ·rw [HJ h];unfold az;rw [HJ h]
  ·rw [IF h (by omega),ih (n/10) (by omega) g (by omega)];unfold az;rw [IF h (yC n),ih (n/10) (by omega) n (by omega)];rfl
def jX {n:Nat} (h:n<10):az n=[48+n]:=HJ h
def lC {n:Nat} (h:¬n<10):az n=az (n/10)++[48+n%10]:=by
 rw [show az n=je (n+1) n [] from rfl,IF h (yC n),abK (n/10) n (by omega)]
def oR:∀{k n:Nat},n<10^(k+1)->(az n).length<=k+1
 | 0,n,h=>by rw [jX (by simpa using h)];simp
 | k+1,n,h=>by
  by_cases h1:n<10
  ·rw [jX h1];simp
  ·rw [lC h1,yW]
   have:n/10<10^(k+1):=by
    grind
   have:=oR this
   grind
def DD {n:Nat} (h:n<18446744073709551616):(az n).length<=20:=oR (k:=19) (by omega)
def qH (n:Nat):bz (n:Int)=az n:=rfl
def A1 {n:Int} (h:n<0):bz n=45::az n.natAbs:=by
 cases n with
 | ofNat n=>exact absurd h (by simp)
 | negSucc n=>rfl
def bR:List Nat->Nat
 | []=>0
 | b::r=>if b=47 then 0 else bR r+1
def Xu {s:List Nat} {i:Nat} (h:i<s.length):bR (s.drop i)=if s[i]=47 then 0 else bR (s.drop (i+1))+1:=by
 rw [yO h];rfl
def DL:∀s:List Nat,bR s<=s.length
 | []=>yC _
 | b::r=>by
  unfold bR
  have:=DL r
  grind
def ej:List Nat->Bool
 | []=>true
 | b::r=>yA 48 b&&yA b 57&&ej r
def GY:∀(a b:List Nat),ej (a++b)=(ej a&&ej b)
 | [],b=>by simp [ej]
 | x::a,b=>by simp [ej,GY a b,Bool.and_assoc]
def qB (n:Nat):ej (az n)=true:=by
 induction n using w6 with
 | _ n ih=>
  by_cases h:n<10
  ·rw [jX h];simp [ej];omega
  ·rw [lC h,GY,ih (n/10) (by omega)];simp [ej];omega
def AE:∀{s:List Nat} (r:List Nat),ej s=true->bR (s++r)=s.length+bR r
 | [],r,_=>by simp
 | b::s,r,h=>by
  simp only [ej,yf] at h;have h1:=yr h.1.1;simp only [yH,bR,yz];rw [yD (by omega),AE r h.2];omega
def Dp:∀(l:List Nat) (a d:Nat),d<10->dT (l++[48+d]) a=(dT l a).map (fun v=>10*v+d)
 | [],a,d,h=>by
  simp only [List.nil_append,dT];rw [show yA 48 (48+d)=true from yv (by omega),show yA (48+d) 57=true from yv (by omega)]
  simp
 | b::l,a,d,h=>by
  simp only [yH,dT]
  cases (yA 48 b&&yA b 57) with
  | true=>exact Dp l _ d h
  | false=>rfl
def qC (n:Nat):dT (az n) 0=some n:=by
 induction n using w6 with
 | _ n ih=>
  by_cases h:n<10
  ·rw [jX h]
   have:=Dp [] 0 n h
   simpa [dT] using this
  ·rw [lC h,Dp _ _ _ (by omega),ih (n/10) (by omega)]
   simp;omega
def ZJ {s:List Nat} {i a v:Nat} (h:i<s.length) (hv:dT (s.drop i) a=some v):48<=s[i]/\s[i]<=57/\dT (s.drop (i+1)) (10*a+(s[i]-48))=some v:=by
 rw [yO h] at hv;simp only [dT] at hv
 cases hb:(yA 48 s[i]&&yA s[i] 57) with
 | false=>rw [hb] at hv;cases hv
 | true=>
  simp_all
def fV:Nat->Nat->List Nat
 | 0,_=>[]
 | k+1,n=>fV k (n/10)++[48+n%10]
def Ig:∀k n,(fV k n).length=k
 | 0,_=>rfl
 | k+1,n=>by simp [fV,Ig k]
def Ih:∀(k m r:Nat),0<m->r<10^k->az (m*10^k+r)=az m++fV k r
 | 0,m,r,_,h=>by simp at h;subst h;simp [fV]
 | k+1,m,r,hm,h=>by
  have h1:m*10^(k+1)+r=(m*10^k)*10+r:=by grind
  have hp:0<m*10^k:=Nat.mul_pos hm (Nat.pow_pos (by decide));have e1:(m*10^(k+1)+r)/10=m*10^k+r/10:=by omega
  have e2:(m*10^(k+1)+r)%10=r%10:=by omega
  rw [lC (by omega),e1,e2,Ih k m (r/10) hm (by rw [xy] at h;omega)];simp [fV]
def Om:∀(k r a:Nat),r<10^k->dT (fV k r) a=some (a*10^k+r)
 | 0,r,a,h=>by simp at h;subst h;simp [fV,dT]
 | k+1,r,a,h=>by
  rw [fV,Dp _ _ _ (vh _ (by decide)),Om k (r/10) a (by omega)];simp only [Option.map_some,yb,xy]
  grind
def abL {m:Nat} (h:1000000000<=m):az m=az (m/1000000000)++fV 9 (m%1000000000):=by
 have:=Ih 9 (m/1000000000) (m%1000000000) (by omega) (by omega)
 grind
end
section
open Go (IntKind)
def fW (s:List Nat) (l h:Option Nat):Option AV:=
 match l,h with
 | some l,some h=>bif yA l h&&yA h s.length then some (.str ((s.take h).drop l)) else none
 | _,_=>none
def dN (hp:Hp) (s:List Nat) (tm:Env) (lo hi:Option X):fg hp .str (.str s) tm lo hi=fW s (cI tm 0 lo) (cI tm s.length hi):=by
 unfold fW;simp only [fg]
 grind
def et (tm:Env) (d:Nat):cI tm d none=some d:=rfl
def dF (tm:Env) (d:Nat) (x:X):cI tm d (some x)=cP (ao tm x):=rfl
def jC {s:List Nat} {l h:Nat} (h1:l<=h) (h2:h<=s.length):fW s (some l) (some h)=some (.str ((s.take h).drop l)):=by
 simp [fW,yv h1,yv h2]
def fN {a b:List Nat} (h:a.length+b.length<=9223372036854775807):binOp .add (.str a) (.str b)=some (.str (a++b)):=by
 show BD .add a b=_
 simp only [BD,yv h,ym]
def adM (k:yJ) (n:Int):lL (.toInt .i64) (.int k n)=some (aa (IntKind.wrap .i64 n)):=rfl
def mu (a b:List Nat):binOp .eql (.str a) (.str b)=some (.bool (dI a b)):=rfl
def lF {s:List Nat} {i:Nat} (h:i<s.length):lH i (.str s)=some (.int .u8 (s[i]:Nat)):=by
 simp only [lH,xP h]
def MA {r:Nat} (h:r<10):fW [48,49,50,51,52,53,54,55,56,57] (some r) (some (r+1))=some (.str [48+r]):=by
 have:r=0\/r=1\/r=2\/r=3\/r=4\/r=5\/r=6\/r=7\/r=8\/r=9:=by omega
 rcases this with rfl | rfl | rfl | rfl | rfl | rfl | rfl | rfl | rfl | rfl<;>rfl
section
variable {P:aA} {L:Lib}
def JH (h:Has P L 292 nR) {n:Nat} (hn:n<9223372036854775808):an P L 292 [aa n,aa 1] (.str (az n)):=by
 have key:=cG (P:=P) (L:=L) (live:=[0,1,5]) (a:=jD)
  (I:=fun k st=>∃(m:Nat) (s:List Nat),st=⟨[(0,aa m),(1,aa 1),(5,.str s)],[],0,0⟩/\m<=n/\m+(1-s.length)=k/\s.length<=20/\((s=[]/\m=n)\/(0<s.length/\(m=0->s=az n)/\(0<m->az n=az m++s))))
  (Q:=fun ex st=>∃tm ct,st=⟨tm,[],ct,0⟩/\ex= .exit 0/\ah tm 5= .str (az n)) ?_
 ·unfold an;rw [aT h];simp only [go_sem,nR];generalize hq:D P L (.loop [0,1,5] jD) _=q;obtain ⟨ex,st,rfl,tm,ct,rfl,rfl,h2⟩:=cm hq (key (n+1)) ⟨n,[],by simp only [go_sem,ya,aJ]<;>rfl,by omega,rfl,by simp,.inl ⟨rfl,rfl⟩⟩
  simp only [go_sem,aJ,h2]
 ·rintro k st ⟨m,s,rfl,hm,hk,hl,hs⟩;by_cases Ah:0<m\/s.length<1
  ·left
   have hc:((decide ((0:Int)<m))=true)\/((decide ((0:Int)<m))=false/\((s.length:Nat):Int)<1):=by
    by_cases h0:0<m
    ·exact .inl (vR (by omega))
    ·exact .inr ⟨decide_eq_false (by omega),by omega⟩
   have hr:((m:Int)).tmod 10=((m%10:Nat):Int):=by rw [yT (by omega)];rfl
   have hq:((m:Int)).tdiv 10=((m/10:Nat):Int):=by rw [Int.tdiv_eq_ediv_of_nonneg (by omega)];rfl
   have hd:=MA (r:=m%10) (by omega);have fin:∃s' k',D P L jD ⟨[(0,aa m),(1,aa 1),(5,.str s)],[],0,0⟩=some (.normal,s')/\k'<k/\bw [0,1,5] s'=⟨[(0,aa (m/10:Nat)),(1,aa 1),(5,.str ([48+m%10]++s))],[],0,0⟩/\m/10+(1-([48+m%10]++s).length)=k':=by
    rcases hc with hc | ⟨hc,rZ⟩
    ·have hc:(0:Int)<m:=of_decide_eq_true hc
     simp only [go_sem,ya,yc,jD,hc,dw _ _ _ (show (10:Int)≠0 by decide),er _ _ _ (show (10:Int)≠0 by decide),hr,hq,wrapN (n:=m%10+1) (by omega),wrap64 (n:=((m/10:Nat):Int)) (by omega) (by omega),dN,dF,show ((m%10:Nat):Int)+1=((m%10+1:Nat):Int) from rfl,hd,fN (a:=[48+m%10]) (b:=s) (by simp;omega)];refine ⟨_,_,rfl,?_,by simp only [go_sem,ya,aJ],rfl⟩
     simp;omega
    ·have hc:¬(0:Int)<m:=of_decide_eq_false hc
     simp only [go_sem,ya,yc,jD,hc,rZ,dw _ _ _ (show (10:Int)≠0 by decide),er _ _ _ (show (10:Int)≠0 by decide),hr,hq,wrapN (n:=m%10+1) (by omega),wrap64 (n:=((m/10:Nat):Int)) (by omega) (by omega),dN,dF,show ((m%10:Nat):Int)+1=((m%10+1:Nat):Int) from rfl,hd,fN (a:=[48+m%10]) (b:=s) (by simp;omega)];refine ⟨_,_,rfl,?_,by simp only [go_sem,ya,aJ],rfl⟩
     simp;omega
   obtain ⟨s',k',f1,f2,f3,f4⟩:=fin;refine ⟨s',k',f1,f2,m/10,[48+m%10]++s,f3,by omega,f4,?_,.inr ⟨by simp,fun h0=>?_,fun h0=>?_⟩⟩
   ·have amR:=DD (n:=n) (by omega);rcases hs with ⟨rfl,rfl⟩ | ⟨h1,h2,h3⟩
    ·simp
    ·by_cases h0:0<m
     ·have e:=congrArg List.length (h3 h0);have e2:0<(az m).length:=by
       by_cases h9:m<10
       ·rw [jX h9];simp
       ·rw [lC h9];simp
      simp only [yW] at e
      simp;omega
     ·omega
   ·have h9:m<10:=by omega
    rcases hs with ⟨rfl,rfl⟩ | ⟨h1,h2,h3⟩
    ·rw [jX h9,vG h9];rfl
    ·have:0<m:=by omega
     rw [h3 this,jX h9,vG h9]
   ·have h9:¬m<10:=by omega
    rcases hs with ⟨rfl,rfl⟩ | ⟨h1,h2,h3⟩
    ·rw [lC h9];simp
    ·rw [h3 (by omega),lC h9];simp
  ·right
   simp only [go_sem,ya,jD,show ¬(0:Int)<m by omega,show ¬((s.length:Nat):Int)<1 by omega];refine ⟨_,_,rfl,by simp,_,_,rfl,rfl,?_⟩;simp only [go_sem,ya];rcases hs with ⟨rfl,rfl⟩ | ⟨h1,h2,h3⟩
   ·simp at Ah
   ·rw [h2 (by omega)]
def ajk (h:Has P L 291 B9) {a b:Nat} (ha:a<9223372036854775808) (hb:b<9223372036854775808):an P L 291 [aa a,aa b] (aa (xU a b)):=by
 have key:=cG (P:=P) (L:=L) (live:=[0,1]) (a:=Bt)
  (I:=fun k st=>∃x y:Nat,st=⟨[(0,aa x),(1,aa y)],[],0,0⟩/\y=k/\xU x y=xU a b)
  (Q:=fun ex st=>∃tm ct,st=⟨tm,[],ct,0⟩/\ex= .exit 0/\ah tm 0=aa (xU a b)) ?_
 ·unfold an;rw [aT h];simp only [go_sem,B9];generalize hq:D P L (.loop [0,1] Bt) _=q;obtain ⟨ex,st,rfl,tm,ct,rfl,rfl,h2⟩:=cm hq (key b) ⟨a,b,by simp only [go_sem,ya,aJ]<;>rfl,rfl,rfl⟩
  simp only [go_sem,aJ,h2]
 ·rintro k st ⟨x,y,rfl,rfl,hg⟩;by_cases hy:y=0
  ·right
   subst hy;simp only [go_sem,ya,Bt,show ¬(0:Int)<((0:Nat):Int) by omega];refine ⟨_,_,rfl,by simp,_,_,rfl,rfl,?_⟩;simp only [go_sem,ya];rw [<-hg,tB]
  ·left
   have hr:((x:Int)).tmod y=((x%y:Nat):Int):=by rw [yT (by omega)];rfl
   simp only [go_sem,ya,Bt,show (0:Int)<y by omega,dw _ _ _ (show (y:Int)≠0 by omega),hr];refine ⟨_,x%y,rfl,vh _ (by omega),y,x%y,by simp only [go_sem,ya,aJ],rfl,?_⟩;rw [<-hg,vI y,<-yaI,vI]
end
end
section
open Go (IntKind)
section
variable {P:aA} {L:Lib}
def Cg (h:Has P L 272 B6) {s:List Nat} (hl:s.length<=1000000000000):an P L 272 [.str s] (aa (bR s)):=by
 have key:=cG (P:=P) (L:=L) (live:=[0,3]) (a:=zc)
  (I:=fun k st=>∃i:Nat,st=⟨[(0,.str s),(3,aa i)],[],0,0⟩/\i+k=s.length/\i+bR (s.drop i)=bR s)
  (Q:=fun ex st=>∃tm ct,st=⟨tm,[],ct,0⟩/\((ex= .ret/\ah tm 2=aa (bR s))\/(ex= .exit 0/\ah tm 0= .str s/\bR s=s.length))) ?_
 ·unfold an;rw [aT h];simp only [go_sem,B6];generalize hq:D P L (.loop [0,3] zc) _=q;obtain ⟨ex,st,rfl,tm,ct,rfl,h2⟩:=cm hq (key s.length) ⟨0,by simp only [go_sem,ya,aJ]<;>rfl,by omega,by simp⟩
  rcases h2 with ⟨rfl,h2⟩ | ⟨rfl,h2,h3⟩
  ·simp only [go_sem,h2]
  ·simp only [go_sem,aJ,h2,h3]
 ·rintro k st ⟨i,rfl,hk,hs⟩;by_cases hi:i<s.length
  ·rw [Xu hi] at hs;by_cases h7:s[i]=47
   ·right
    rw [yS h7] at hs;simp only [go_sem,ya,zc,show (i:Int)<s.length by omega,lF hi,show ((s[i]:Nat):Int)=47 by omega];refine ⟨_,_,rfl,by simp,_,_,rfl,.inl ⟨rfl,?_⟩⟩;rw [<-hs];rfl
   ·left
    rw [yD h7] at hs;simp only [go_sem,ya,zc,show (i:Int)<s.length by omega,lF hi,show ¬((s[i]:Nat):Int)=47 by omega];refine ⟨_,k-1,rfl,by omega,i+1,?_,by omega,by omega⟩;rw [wrap64 (by omega) (by omega)];simp only [go_sem,ya,aJ]<;>rfl
  ·right
   simp only [go_sem,ya,zc,show ¬(i:Int)<s.length by omega];refine ⟨_,_,rfl,by simp,_,_,rfl,.inr ⟨rfl,by simp only [go_sem,ya],?_⟩⟩;rw [yZ (by omega)] at hs;simp only [bR] at hs;omega
def Ch (h:Has P L 290 zI) {s:List Nat} {v:Nat} (hl:s.length<=18) (hv:dT s 0=some v):an P L 290 [.str s] (aa v):=by
 have key:=cG (P:=P) (L:=L) (live:=[0,3,4]) (a:=Bs)
  (I:=fun k st=>∃i a:Nat,st=⟨[(0,.str s),(3,aa a),(4,aa i)],[],0,0⟩/\i+k=s.length/\a<10^i/\dT (s.drop i) a=some v)
  (Q:=fun ex st=>∃tm ct,st=⟨tm,[],ct,0⟩/\ex= .exit 0/\ah tm 3=aa v) ?_
 ·unfold an;rw [aT h];simp only [go_sem,zI];generalize hq:D P L (.loop [0,3,4] Bs) _=q;obtain ⟨ex,st,rfl,tm,ct,rfl,rfl,h2⟩:=cm hq (key s.length) ⟨0,0,by simp only [go_sem,ya,aJ]<;>rfl,by omega,by simp,hv⟩
  simp only [go_sem,aJ,h2]
 ·rintro k st ⟨i,a,rfl,hk,ha,hs⟩;by_cases hi:i<s.length
  ·left
   obtain ⟨h1,h2,h3⟩:=ZJ hi hs;have hp:10^i<=10^17:=we (by decide) (by omega);have hb:IntKind.wrap .i64 ((s[i]:Nat):Int)=((s[i]:Nat):Int):=wrap64 (by omega) (by omega)
   simp only [go_sem,ya,Bs,show (i:Int)<s.length by omega,lF hi,adM,hb,wrap64 (n:=10*(a:Int)) (by omega) (by omega),wrap64 (n:=10*(a:Int)+(s[i]:Nat)) (by omega) (by omega),wrap64 (n:=10*(a:Int)+(s[i]:Nat)-48) (by omega) (by omega)];refine ⟨_,k-1,rfl,by omega,i+1,10*a+(s[i]-48),?_,by omega,?_,h3⟩
   ·rw [wrap64 (by omega) (by omega),show 10*(a:Int)+(s[i]:Nat)-48=((10*a+(s[i]-48):Nat):Int) by omega];simp only [go_sem,ya,aJ]<;>rfl
   ·rw [xy];omega
  ·right
   simp only [go_sem,ya,Bs,show ¬(i:Int)<s.length by omega];refine ⟨_,_,rfl,by simp,_,_,rfl,rfl,?_⟩;rw [yZ (by omega)] at hs;simp only [dT,yb] at hs;subst hs;simp only [go_sem,ya]
def Em (a:Int):(if 0-a>a then 0-a else a)=(a.natAbs:Int):=by omega
def D3 (a b:Int):a.tdiv (xL a b:Nat)=bi a b:=uB (vV a b)
def D4 (a b:Int):b.tdiv (xL a b:Nat)=bm a b:=uB (vN a b)
def oL (n:Int):(if n<0 then [45] else [])++az n.natAbs=bz n:=by
 split
 ·rename_i h;rw [A1 h];rfl
 ·rename_i h;obtain ⟨m,rfl⟩:∃m:Nat,n=m:=⟨n.toNat,by omega⟩;rfl
def Ii {n:Int} (h:n.natAbs<18446744073709551616):(bz n).length<=21:=by
 rw [<-oL]
 have:=DD h
 grind
def adN {a b:Int} (hb:0<b):fU a b=(if 1<bm a b then (bz (bi a b)++[47])++az (bm a b).natAbs else bz (bi a b)):=by
 have h:=oQ (a:=a) hb;unfold fU;by_cases h1:bm a b=1
 ·grind
 ·rw [yD h1,yS (by omega)];obtain ⟨m,hm⟩:∃m:Nat,bm a b=m:=⟨(bm a b).toNat,by omega⟩;rw [hm];rfl
def ajl (h:Has P L 277 rK) (JI:Has P L 291 B9) (kL:Has P L 292 nR) {a b:Int} (ha: -4000000000000000000<=a/\a<=4000000000000000000) (hb:0<b/\b<=4000000000000000000):
  an P L 277 [aa a,aa b] (.str (fU a b)):=by
 have hn:=ni a b;have hd:=nj a b;have hp:=oQ (a:=a) hb.1;have e1:=ajk JI (a:=a.natAbs) (b:=b.natAbs) (by omega) (by omega);have e2:=JH kL (n:=(bi a b).natAbs) (by omega);have e3:=JH kL (n:=(bm a b).natAbs) (by omega);have hg:=El (a:=a) hb.1;rw [show ((b.natAbs:Nat):Int)=b by omega,show xU a.natAbs b.natAbs=xL a b from rfl] at e1;rw [show (((bm a b).natAbs:Nat):Int)=bm a b by omega] at e3;have kU:=Ii (n:=bi a b) (by omega);have mS:=DD (n:=(bi a b).natAbs) (by omega);have hl3:=DD (n:=(bm a b).natAbs) (by omega);have hT:=adN (a:=a) hb.1;have hS:=oL (bi a b);unfold an at e1 e2 e3 ⊢;rw [aT h];by_cases h0:bi a b<0
 ·rw [yS h0] at hS;by_cases h1:1<bm a b
  ·rw [yS h1] at hT
   simp only [go_sem,ya,rK,show ¬a< -4000000000000000000 by omega,show ¬4000000000000000000<a by omega,show ¬b< -4000000000000000000 by omega,show ¬4000000000000000000<b by omega,show ¬b<0 by omega,wrap64 (n:=0-a) (by omega) (by omega),Bz,A0,Em,e1,er _ _ _ (show ((xL a b:Nat):Int)≠0 by omega),D3,D4,wrap64 (n:=bi a b) (by omega) (by omega),wrap64 (n:=bm a b) (by omega) (by omega),h0,wrap64 (n:=0-bi a b) (by omega) (by omega),e2,fN (a:=[45]) (b:=az (bi a b).natAbs) (by simp;omega),hS,h1,fN (a:=bz (bi a b)) (b:=[47]) (by simp;omega),e3,fN (a:=bz (bi a b)++[47]) (b:=az (bm a b).natAbs) (by simp;omega),hT]
  ·rw [yD h1] at hT
   simp only [go_sem,ya,rK,show ¬a< -4000000000000000000 by omega,show ¬4000000000000000000<a by omega,show ¬b< -4000000000000000000 by omega,show ¬4000000000000000000<b by omega,show ¬b<0 by omega,wrap64 (n:=0-a) (by omega) (by omega),Bz,A0,Em,e1,er _ _ _ (show ((xL a b:Nat):Int)≠0 by omega),D3,D4,wrap64 (n:=bi a b) (by omega) (by omega),wrap64 (n:=bm a b) (by omega) (by omega),h0,wrap64 (n:=0-bi a b) (by omega) (by omega),e2,fN (a:=[45]) (b:=az (bi a b).natAbs) (by simp;omega),hS,h1,hT]
 ·rw [yD h0] at hS;by_cases h1:1<bm a b
  ·rw [yS h1] at hT
   simp only [go_sem,ya,rK,show ¬a< -4000000000000000000 by omega,show ¬4000000000000000000<a by omega,show ¬b< -4000000000000000000 by omega,show ¬4000000000000000000<b by omega,show ¬b<0 by omega,wrap64 (n:=0-a) (by omega) (by omega),Bz,A0,Em,e1,er _ _ _ (show ((xL a b:Nat):Int)≠0 by omega),D3,D4,wrap64 (n:=bi a b) (by omega) (by omega),wrap64 (n:=bm a b) (by omega) (by omega),h0,wrap64 (n:=0-bi a b) (by omega) (by omega),e2,fN (a:=[]) (b:=az (bi a b).natAbs) (by simp;omega),hS,h1,fN (a:=bz (bi a b)) (b:=[47]) (by simp;omega),e3,fN (a:=bz (bi a b)++[47]) (b:=az (bm a b).natAbs) (by simp;omega),hT]
  ·rw [yD h1] at hT
   simp only [go_sem,ya,rK,show ¬a< -4000000000000000000 by omega,show ¬4000000000000000000<a by omega,show ¬b< -4000000000000000000 by omega,show ¬4000000000000000000<b by omega,show ¬b<0 by omega,wrap64 (n:=0-a) (by omega) (by omega),Bz,A0,Em,e1,er _ _ _ (show ((xL a b:Nat):Int)≠0 by omega),D3,D4,wrap64 (n:=bi a b) (by omega) (by omega),wrap64 (n:=bm a b) (by omega) (by omega),h0,wrap64 (n:=0-bi a b) (by omega) (by omega),e2,fN (a:=[]) (b:=az (bi a b).natAbs) (by simp;omega),hS,h1,hT]
end
end
section
open Go (IntKind)
def TT (n:Int) (d:Nat):List Nat:=bz n++(if d=1 then [] else 47::az d)
def adO {a b:Int} (hb:0<b):fU a b=TT (bi a b) (bm a b).toNat:=by
 have h:=oQ (a:=a) hb;unfold fU TT;by_cases h1:bm a b=1
 ·grind
 ·rw [yD h1,yD (by omega)];obtain ⟨m,hm⟩:∃m:Nat,bm a b=m:=⟨(bm a b).toNat,by omega⟩;rw [hm,List.append_assoc];rfl
def qI (n:Nat):0<(az n).length:=by
 by_cases h:n<10
 ·rw [jX h];simp
 ·rw [lC h];simp
def IG:∀(n:Nat),n<10^(az n).length:=by
 intro n
 induction n using w6 with
 | _ n ih=>
  by_cases h:n<10
  ·rw [jX h];simpa using h
  ·have:=ih (n/10) (by omega)
   rw [lC h,yW,List.length_singleton,xy];omega
def On {n:Nat} (h:(az n).length<=9):n<1000000000:=
 Nat.lt_of_lt_of_le (IG n) (by simpa using we (show 0<10 by decide) h)
def Np (n:Nat):∃b r,az n=b::r/\48<=b/\b<=57:=by
 cases hq:az n with
 | nil=>have:=qI n;rw [hq] at this;simp at this
 | cons b r=>
  have:=qB n
  rw [hq] at this;simp only [ej,yf] at this
  simp_all
section
variable {P:aA} {L:Lib}
def zO (s:List Nat):lH 0 (.str (45::s))=some (.int .u8 45):=rfl
def IW (q:Bool) (n:Int) (d:Nat):AV:=if q=true then .ay [aa n,aa d,.bool true] else .ay [aa 0,aa 0,.bool false]
def fQ (d:Nat):List Nat:=if d=1 then [] else 47::az d
def MB (d:Nat):bR (fQ d)=0:=by unfold fQ;split<;>rfl
def ajm (h:Has P L 276 kH) (rO:Has P L 272 B6) (nX:Has P L 290 zI) {n:Int} {d:Nat} (hl:(TT n d).length<=20000000000):
  ∃q:Bool,an P L 276 [.str (TT n d)] (IW q n d)/\(q=true->n.natAbs<1000000000/\d<1000000000):=by
 generalize hs:TT n d=s at hl;by_cases gU:20<s.length
 ·refine ⟨false,?_,fun h=>by cases h⟩;unfold an;rw [aT h];simp only [go_sem,ya,kH,show (20:Int)<s.length by omega];rfl
 ·have hu:∃u,u=az n.natAbs++fQ d:=⟨_,rfl⟩;obtain ⟨u,hu⟩:=hu;have hK:∃K,K=(az n.natAbs).length:=⟨_,rfl⟩;obtain ⟨K,hK⟩:=hK;have FO:bR u=K:=by rw [hu,AE _ (qB _),MB,hK];rfl
  have hlen:u.length=K+(fQ d).length:=by rw [hu,hK,yW]
  have hp:=qI n.natAbs;obtain ⟨b,r,hb,pV,hb2⟩:=Np n.natAbs;have se:(n<0/\s=45::u)\/(¬n<0/\s=u):=by
   by_cases h0:n<0
   ·left;refine ⟨h0,?_⟩;rw [<-hs,hu,TT,A1 h0];rfl
   ·right;refine ⟨h0,?_⟩;rw [<-hs,hu,TT,<-oL,yD h0];rfl
  have hul:u.length<=s.length:=by rcases se with ⟨_,e⟩ | ⟨_,e⟩<;>rw [e]<;>simp
  have Ai:0<u.length:=by omega
  have lY:u[0]=b:=by
   have:u=b::(r++fQ d):=by rw [hu,hb];rfl
   simp [this]
  have e1:=Cg rO (s:=u) (by omega);rw [FO] at e1;have gS:fW u (some 0) (some K)=some (.str (az n.natAbs)):=by
   rw [jC (by omega) (by omega),List.drop_zero,hu,hK,List.take_left]
  unfold an at e1;by_cases h9:9<K
  ·refine ⟨false,?_,fun h=>by cases h⟩;unfold an;rw [aT h];rcases se with ⟨h0,e⟩ | ⟨h0,e⟩
   ·have gU:¬20<u.length+1:=by rw [e] at gU;exact gU
    have mW:fW (45::u) (some 1) (some (u.length+1))=some (.str u):=by rw [jC (s:=45::u) (l:=1) (h:=u.length+1) (by omega) (by simp)];simp
    rw [e];simp only [go_sem,ya,kH,show ¬(20:Int)<((u.length+1:Nat):Int) by omega,show (0:Int)<((u.length+1:Nat):Int) by omega,zO,dN,et,dF,mW,e1,show (9:Int)<(K:Int) by omega];rfl
   ·rw [e];simp only [go_sem,ya,kH,show ¬(20:Int)<(u.length:Nat) by omega,show (0:Int)<(u.length:Nat) by omega,lF Ai,lY,show ¬((b:Nat):Int)=45 by omega,e1,show (9:Int)<(K:Int) by omega];rfl
  ·by_cases n8:10<(fQ d).length
   ·refine ⟨false,?_,fun h=>by cases h⟩;unfold an;rw [aT h];rcases se with ⟨h0,e⟩ | ⟨h0,e⟩
    ·have gU:¬20<u.length+1:=by rw [e] at gU;exact gU
     have mW:fW (45::u) (some 1) (some (u.length+1))=some (.str u):=by rw [jC (s:=45::u) (l:=1) (h:=u.length+1) (by omega) (by simp)];simp
     rw [e]
     simp only [go_sem,ya,kH,show ¬(20:Int)<((u.length+1:Nat):Int) by omega,show (0:Int)<((u.length+1:Nat):Int) by omega,zO,dN,et,dF,mW,e1,show ¬(9:Int)<(K:Int) by omega,wrap64 (n:=(u.length:Int)-(K:Int)) (by omega) (by omega),show (10:Int)<(u.length:Int)-(K:Int) by omega];rfl
    ·rw [e]
     simp only [go_sem,ya,kH,show ¬(20:Int)<(u.length:Nat) by omega,show (0:Int)<(u.length:Nat) by omega,lF Ai,lY,show ¬((b:Nat):Int)=45 by omega,e1,show ¬(9:Int)<(K:Int) by omega,wrap64 (n:=(u.length:Int)-(K:Int)) (by omega) (by omega),show (10:Int)<(u.length:Int)-(K:Int) by omega];rfl
   ·have e2:=Ch nX (s:=az n.natAbs) (by omega) (qC n.natAbs);unfold an at e2;have hm:=On (n:=n.natAbs) (by omega);by_cases hd:d=1
    ·subst hd;have oe:fQ 1=[]:=rfl;refine ⟨true,?_,fun _=>⟨hm,by decide⟩⟩;rw [oe] at hlen;simp only [List.length_nil,Nat.add_zero] at hlen;unfold an;rw [aT h];rcases se with ⟨h0,e⟩ | ⟨h0,e⟩
     ·have gU:¬20<u.length+1:=by rw [e] at gU;exact gU
      have mW:fW (45::u) (some 1) (some (u.length+1))=some (.str u):=by rw [jC (s:=45::u) (l:=1) (h:=u.length+1) (by omega) (by simp)];simp
      rw [e]
      simp only [go_sem,ya,kH,show ¬(20:Int)<((u.length+1:Nat):Int) by omega,show (0:Int)<((u.length+1:Nat):Int) by omega,zO,dN,et,dF,mW,e1,show ¬(9:Int)<(K:Int) by omega,wrap64 (n:=(u.length:Int)-(K:Int)) (by omega) (by omega),show ¬(10:Int)<(u.length:Int)-(K:Int) by omega,gS,e2,show ¬(K:Int)<(u.length:Int) by omega,wrap64 (n:=0-(n.natAbs:Int)) (by omega) (by omega)];rw [show 0-(n.natAbs:Int)=n by omega];rfl
     ·rw [e]
      simp only [go_sem,ya,kH,show ¬(20:Int)<(u.length:Nat) by omega,show (0:Int)<(u.length:Nat) by omega,lF Ai,lY,show ¬((b:Nat):Int)=45 by omega,dN,et,dF,e1,show ¬(9:Int)<(K:Int) by omega,wrap64 (n:=(u.length:Int)-(K:Int)) (by omega) (by omega),show ¬(10:Int)<(u.length:Int)-(K:Int) by omega,gS,e2,show ¬(K:Int)<(u.length:Int) by omega];rw [show (n.natAbs:Int)=n by omega];rfl
    ·have oe:fQ d=47::az d:=yD hd;have VJ:(fQ d).length=(az d).length+1:=by rw [oe];rfl
     have hpd:=qI d;have hd9:=On (n:=d) (by omega);have e3:=Ch nX (s:=az d) (by omega) (qC d);unfold an at e3;have rZ:fW u (some (K+1)) (some u.length)=some (.str (az d)):=by
      rw [jC (by omega) (yC _),List.take_length,hu,oe,hK,show (az n.natAbs).length+1=(az n.natAbs++[47]).length by simp,show az n.natAbs++47::az d=(az n.natAbs++[47])++az d by simp,List.drop_left]
     refine ⟨true,?_,fun _=>⟨hm,hd9⟩⟩;unfold an;rw [aT h];rcases se with ⟨h0,e⟩ | ⟨h0,e⟩
     ·have gU:¬20<u.length+1:=by rw [e] at gU;exact gU
      have mW:fW (45::u) (some 1) (some (u.length+1))=some (.str u):=by rw [jC (s:=45::u) (l:=1) (h:=u.length+1) (by omega) (by simp)];simp
      rw [e]
      simp only [go_sem,ya,kH,show ¬(20:Int)<((u.length+1:Nat):Int) by omega,show (0:Int)<((u.length+1:Nat):Int) by omega,zO,dN,et,dF,mW,e1,show ¬(9:Int)<(K:Int) by omega,wrap64 (n:=(u.length:Int)-(K:Int)) (by omega) (by omega),show ¬(10:Int)<(u.length:Int)-(K:Int) by omega,gS,e2,show (K:Int)<(u.length:Int) by omega,wrapN (n:=K+1) (by omega),show (K:Int)+1=((K+1:Nat):Int) from rfl,rZ,e3,wrap64 (n:=0-(n.natAbs:Int)) (by omega) (by omega)];rw [show 0-(n.natAbs:Int)=n by omega];rfl
     ·rw [e]
      simp only [go_sem,ya,kH,show ¬(20:Int)<(u.length:Nat) by omega,show (0:Int)<(u.length:Nat) by omega,lF Ai,lY,show ¬((b:Nat):Int)=45 by omega,dN,et,dF,e1,show ¬(9:Int)<(K:Int) by omega,wrap64 (n:=(u.length:Int)-(K:Int)) (by omega) (by omega),show ¬(10:Int)<(u.length:Int)-(K:Int) by omega,gS,e2,show (K:Int)<(u.length:Int) by omega,wrapN (n:=K+1) (by omega),show (K:Int)+1=((K+1:Nat):Int) from rfl,rZ,e3];rw [show (n.natAbs:Int)=n by omega];rfl
end
end
end VE
