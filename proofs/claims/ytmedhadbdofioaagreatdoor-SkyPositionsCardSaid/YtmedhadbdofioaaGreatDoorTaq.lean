import Derived.Test.YtmedhadbdofioaaGreatDoorTap
import Derived.Test.YtmedhadbdofioaaGreatDoorTao
import Derived.Test.YtmedhadbdofioaaGreatDoorTah
import Derived.Test.YtmedhadbdofioaaGreatDoorTal
set_option linter.all false
set_option maxRecDepth 100000
open Bool renaming and_eq_true→yg
open Go renaming IntKind→yV
open Int renaming ediv_emod_unique→vD,emod_lt_of_pos→we,emod_nonneg→xM,gcd→xZ,gcd_dvd_left→uA,gcd_dvd_right→um,gcd_pos_of_ne_zero_right→uK,lt_tmod_of_pos→tW,mul_ediv_cancel'→tD,mul_nonneg→vS,natAbs_ediv_of_dvd→vJ,reduceEq→vN,reduceLT→tg,tdiv_eq_ediv_of_dvd→ta,tmod_eq_emod_of_nonneg→xn,tmod_lt_of_pos→tV
open List renaming cons_append→y7,drop→xm,drop_eq_getElem_cons→yL,drop_eq_nil_of_le→y8,getD_eq_getElem?_getD→y9,getElem?_eq_getElem→xz,length_append→yQ,length_cons→yr,length_take→yT,map_append→xC,range→xi,take_length→wo,take_of_length_le→yM,take_succ_eq_append_getElem→vj
open Nat renaming ble→yG,ble_eq_true_of_le→yv,blt→yK,div_le_self→vA,gcd→wg,gcd_comm→uj,gcd_rec→ybl,gcd_zero_right→tX,le_of_ble_eq_true→yy,le_refl→yC,min_eq_left→wu,mod_eq_of_lt→yP,mod_lt→xy,mul_one→yh,pow_le_pow_right→xP,pow_succ→xg,reduceAdd→yb,reduceEqDiff→ya,reduceLT→yt,reduceLeDiff→ye,strongRecOn→vL,zero_add→yd,zero_le→yal
open Option renaming getD_some→wT
open Option.some renaming injEq→yc
namespace VE
section
open Go (IntKind)
section
variable {P:aG} {L:Lib}
def s2 (h:Has P L 2 c2) {v:AV} {s:List (List Int)} (hv:cF v s) {n:Nat}:ae P L 2 [v,aa n] (.bool (A8 n s)):=by
 have key:=cg (P:=P) (L:=L) (live:=[0,5]) (a:=Jo)
  (I:=fun k st=>∃i:Nat,st=⟨[(0,v),(5,aa i)],[],0,0⟩/\i+k=s.length/\s.length<=18/\pV (s.drop i)=pV s)
  (Q:=fun ex st=>∃tm ct,st=⟨tm,[],ct,0⟩/\((ex= .ret/\af tm 4= .bool (pV s))\/(ex= .exit 0/\pV s=true))) ?_
 ·unfold ae;rw [av h];unfold A8;by_cases h1:n<s.length
  ·by_cases h2:s.length<=16
   ·simp only [go_sem,ya,c2,hv.len,show (n:Int)<s.length by omega,show (s.length:Int)<=16 by omega];rw [yI (by omega)]
   ·by_cases h3:18<s.length
    ·simp only [go_sem,ya,c2,hv.len,show (n:Int)<s.length by omega,show ¬(s.length:Int)<=16 by omega,show (18:Int)<s.length by omega];rw [yI (by omega)]
    ·simp only [go_sem,ya,c2,hv.len,show (n:Int)<s.length by omega,show ¬(s.length:Int)<=16 by omega,show ¬(18:Int)<s.length by omega];rw [yB (by omega)];generalize hq:D P L (.loop [0,5] Jo) _=q;obtain ⟨ex,st,rfl,tm,ct,rfl,h2⟩:=bP hq (key s.length) ⟨0,by simp only [go_sem,ya,ay,aJ hv.pu,aO _ hv.pu]<;>rfl,by omega,by omega,rfl⟩
     rcases h2 with ⟨rfl,h2⟩ | ⟨rfl,h2⟩
     ·simp only [go_sem,h2]
     ·rw [h2];simp only [go_sem]
  ·by_cases h3:18<s.length
   ·simp only [go_sem,ya,c2,hv.len,show ¬(n:Int)<s.length by omega,show (18:Int)<s.length by omega];rw [yI (by omega)]
   ·simp only [go_sem,ya,c2,hv.len,show ¬(n:Int)<s.length by omega,show ¬(18:Int)<s.length by omega];rw [yB (by omega)];generalize hq:D P L (.loop [0,5] Jo) _=q;obtain ⟨ex,st,rfl,tm,ct,rfl,h2⟩:=bP hq (key s.length) ⟨0,by simp only [go_sem,ya,ay,aJ hv.pu,aO _ hv.pu]<;>rfl,by omega,by omega,rfl⟩
    rcases h2 with ⟨rfl,h2⟩ | ⟨rfl,h2⟩
    ·simp only [go_sem,h2]
    ·rw [h2];simp only [go_sem]
 ·rintro k st ⟨i,rfl,hk,hl,hf⟩;simp only [go_sem,ya,Jo,hv.len];by_cases hi:i<s.length
  ·have cu:(i:Int)<s.length:=by omega
   rw [ail hi] at hf;obtain ⟨r,rest,cp,fe⟩:=hv.bk hi;by_cases h1:18<s[i].length
   ·right
    rw [yI h1] at hf;simp only [go_sem,ya,cu,fe,cp.len,show (18:Int)<s[i].length by omega];refine ⟨_,_,rfl,by simp,_,_,rfl,.inl ⟨rfl,?_⟩⟩;simp only [go_sem,<-hf]
   ·left
    rw [yB h1] at hf;simp only [go_sem,ya,cu,fe,cp.len,show ¬(18:Int)<s[i].length by omega];refine ⟨_,k-1,rfl,by omega,i+1,?_,by omega,hl,hf⟩;rw [wrap64 (by omega) (by omega)];simp only [go_sem,ya,ay,aJ hv.pu,aO _ hv.pu]<;>rfl
  ·right
   simp only [go_sem,show ¬(i:Int)<s.length by omega];refine ⟨_,_,rfl,by simp,_,_,rfl,.inr ⟨rfl,?_⟩⟩;rw [<-hf,y8 (by omega)];rfl
def s59 (h:Has P L 59 FP) {v w:AV} {l m:List Int} (hv:br v l) (hw:br w m) (hl:l.length<=1000000) (he:l=m):ae P L 59 [v,w] (.bool true):=by
 subst he;have key:=cg (P:=P) (L:=L) (live:=[0,1,5]) (a:=Nv)
  (I:=fun k st=>∃i:Nat,st=⟨[(0,v),(1,w),(5,aa i)],[],0,0⟩/\i+k=l.length)
  (Q:=fun ex st=>∃tm ct,st=⟨tm,[],ct,0⟩/\ex= .exit 0) ?_
 ·unfold ae;rw [av h];simp only [go_sem,ya,FP,hv.len,hw.len];generalize hq:D P L (.loop [0,1,5] Nv) _=q;obtain ⟨ex,st,rfl,tm,ct,rfl,rfl⟩:=bP hq (key l.length) ⟨0,by simp only [go_sem,ya,ay,aJ hv.pu,aO _ hv.pu,aJ hw.pu,aO _ hw.pu]<;>rfl,by omega⟩
  simp only [go_sem]
 ·rintro k st ⟨i,rfl,hk⟩;simp only [go_sem,ya,Nv,hv.len];by_cases hi:i<l.length
  ·have cu:(i:Int)<l.length:=by omega
   left
   simp only [go_sem,ya,cu,hv.bk hi,hw.bk hi];refine ⟨_,k-1,rfl,by omega,i+1,?_,by omega⟩;rw [wrap64 (by omega) (by omega)];simp only [go_sem,ya,ay,aJ hv.pu,aO _ hv.pu,aJ hw.pu,aO _ hw.pu]<;>rfl
  ·right
   simp only [go_sem,show ¬(i:Int)<l.length by omega];exact ⟨_,_,rfl,by simp,_,_,rfl,rfl⟩
def s21 (h:Has P L 21 KG) (Ap:Has P L 59 FP) {v w:AV} {s t:List (List Int)} (hv:cF v s) (hw:cF w t) (hl:s.length<=1000000) (hr:∀i (hi:i<s.length),s[i].length<=1000000) (he:s=t):ae P L 21 [v,w] (.bool true):=by
 subst he;have key:=cg (P:=P) (L:=L) (live:=[0,1,5]) (a:=Np)
  (I:=fun k st=>∃i:Nat,st=⟨[(0,v),(1,w),(5,aa i)],[],0,0⟩/\i+k=s.length)
  (Q:=fun ex st=>∃tm ct,st=⟨tm,[],ct,0⟩/\ex= .exit 0) ?_
 ·unfold ae;rw [av h];simp only [go_sem,ya,KG,hv.len,hw.len];generalize hq:D P L (.loop [0,1,5] Np) _=q;obtain ⟨ex,st,rfl,tm,ct,rfl,rfl⟩:=bP hq (key s.length) ⟨0,by simp only [go_sem,ya,ay,aJ hv.pu,aO _ hv.pu,aJ hw.pu,aO _ hw.pu]<;>rfl,by omega⟩
  simp only [go_sem]
 ·rintro k st ⟨i,rfl,hk⟩;simp only [go_sem,ya,Np,hv.len];by_cases hi:i<s.length
  ·have cu:(i:Int)<s.length:=by omega
   obtain ⟨r,rest,cp,fe⟩:=hv.bk hi;obtain ⟨q,NE,eN,lF⟩:=hw.bk hi;have hc:=s59 Ap cp eN (hr i hi) rfl;unfold ae at hc;left
   simp only [go_sem,ya,cu,fe,lF,cp.ah,eN.ah,hc];refine ⟨_,k-1,rfl,by omega,i+1,?_,by omega⟩;rw [wrap64 (by omega) (by omega)];simp only [go_sem,ya,ay,aJ hv.pu,aO _ hv.pu,aJ hw.pu,aO _ hw.pu]<;>rfl
  ·right
   simp only [go_sem,show ¬(i:Int)<s.length by omega];exact ⟨_,_,rfl,by simp,_,_,rfl,rfl⟩
def s4 (h:Sq P L) {v:AV} {s:List (List Int)} (hv:cF v s) (hl:s.length<=1000000) (hr:∀i (hi:i<s.length),s[i].length<=1000000):ae P L 4 [v] (aa (jX s)):=by
 have hc:=Wu h hv hl hr (m:=1000) (by decide) (by decide);have hf:∀a b c:Int,ae P L 33 [.aE true 3 [.int .i64 a,.int .i64 b,.int .i64 c]] (aa (bj [a,b,c])):=fun a b c=>sC h.og (fm true [a,b,c]) (by simp)
 unfold ae at hc hf ⊢;rw [av h.h4];simp only [go_sem,ya,yb,yt,ye,yh,c4,hv.len,hv.ah,hc,mO h.fK,hf]
 congr 2
 unfold jX;by_cases h1:s.length=0
 ·simp [h1,bj]
 ·by_cases h2:16<s.length
  ·simp [h1,h2,bj,show (16:Int)<s.length by omega]
  ·simp only [h1,h2,bj,show ¬(16:Int)<s.length by omega,show ¬(s.length:Int)=0 by omega,yo,Bool.false_eq_true,yO,y5]
   split<;>simp_all
end
end
section
open Go (IntKind)
section
variable {P:aG} {L:Lib}
def s3 (h:Has P L 3 c3) (pL:Has P L 30 Ak) {v:AV} {s:List (List Int)} (hv:cF v s):ae P L 3 [v] (aa (jX s)):=by
 have inner:∀{i:Nat} (hi:i<s.length),s[i].length=s.length->s.length<=16->∀k st,(∃j:Nat,bD [0,3,4] st=⟨[(0,v),(3,aa i),(4,aa j)],[],0,0⟩/\j+k=s.length/\dB (-1000) 1000 (s[i].drop j)=dB (-1000) 1000 s[i])->
   ∃ex st',D P L (.loop [0,3,4] NY) st=some (ex,st')/\∃tm ct,st'=⟨tm,[],ct,0⟩/\((ex= .ret/\af tm 2=aa 3/\dB (-1000) 1000 s[i]=true)\/(ex= .exit 2/\af tm 0=v/\af tm 3=aa i/\dB (-1000) 1000 s[i]=false)):=by
  intro i hi hr hl
  refine cg (I:=fun k st=>∃j:Nat,st=⟨[(0,v),(3,aa i),(4,aa j)],[],0,0⟩/\j+k=s.length/\dB (-1000) 1000 (s[i].drop j)=dB (-1000) 1000 s[i])
   (Q:=fun ex st=>∃tm ct,st=⟨tm,[],ct,0⟩/\((ex= .ret/\af tm 2=aa 3/\dB (-1000) 1000 s[i]=true)\/(ex= .exit 2/\af tm 0=v/\af tm 3=aa i/\dB (-1000) 1000 s[i]=false))) ?_
  rintro k st ⟨j,rfl,hk,hf⟩;simp only [go_sem,ya,NY,hv.len];obtain ⟨r,rest,cp,fe⟩:=hv.bk hi;by_cases hj:j<s.length
  ·have qK:(j:Int)<s.length:=by omega
   have Wv:j<s[i].length:=by omega
   rw [akM Wv] at hf;by_cases h1:s[i][j]< -1000\/1000<s[i][j]
   ·right
    rw [yI h1] at hf;simp only [go_sem,ya,qK,fe,cp.bk Wv,Wp pL,h1,y5,vN];refine ⟨_,_,rfl,by simp,_,_,rfl,.inl ⟨rfl,?_,hf.symm⟩⟩;simp only [go_sem]
   ·left
    rw [yB h1] at hf;simp only [go_sem,ya,qK,fe,cp.bk Wv,Wp pL,h1,yO];refine ⟨_,k-1,rfl,by omega,j+1,?_,by omega,hf⟩;rw [wrap64 (by omega) (by omega)];simp only [go_sem,ya,ay,aJ hv.pu,aO _ hv.pu]<;>rfl
  ·right
   simp only [go_sem,show ¬(j:Int)<s.length by omega];refine ⟨_,_,rfl,by simp,_,_,rfl,.inr ⟨rfl,?_,?_,?_⟩⟩
   ·simp only [go_sem,ya]
   ·simp only [go_sem,ya]
   ·rw [<-hf,y8 (by omega)];rfl
 have key:=cg (P:=P) (L:=L) (live:=[0,3]) (a:=NZ)
  (I:=fun k st=>∃i:Nat,st=⟨[(0,v),(3,aa i)],[],0,0⟩/\i+k=s.length/\s.length<=16/\fB s.length (-1000) 1000 (s.drop i)=fB s.length (-1000) 1000 s)
  (Q:=fun ex st=>∃tm ct,st=⟨tm,[],ct,0⟩/\((ex= .ret/\af tm 2=aa (fB s.length (-1000) 1000 s))\/(ex= .exit 0/\fB s.length (-1000) 1000 s=0))) ?_
 ·unfold ae;rw [av h];unfold jX;by_cases h1:s.length=0
  ·simp only [go_sem,ya,c3,hv.len,show (s.length:Int)=0 by omega];rw [yI h1]
  ·rw [yB h1];by_cases h2:16<s.length
   ·simp only [go_sem,ya,c3,hv.len,show ¬(s.length:Int)=0 by omega,show (16:Int)<s.length by omega];rw [yI h2]
   ·simp only [go_sem,ya,c3,hv.len,show ¬(s.length:Int)=0 by omega,show ¬(16:Int)<s.length by omega];rw [yB h2];generalize hq:D P L (.loop [0,3] NZ) _=q;obtain ⟨ex,st,rfl,tm,ct,rfl,h2⟩:=bP hq (key s.length) ⟨0,by simp only [go_sem,ya,ay,aJ hv.pu,aO _ hv.pu]<;>rfl,by omega,by omega,rfl⟩
    rcases h2 with ⟨rfl,h2⟩ | ⟨rfl,h2⟩
    ·simp only [go_sem,h2]
    ·rw [h2];simp only [go_sem]
 ·rintro k st ⟨i,rfl,hk,hl,hf⟩;simp only [go_sem,ya,NZ,hv.len];by_cases hi:i<s.length
  ·have cu:(i:Int)<s.length:=by omega
   rw [YP hi] at hf;obtain ⟨r,rest,cp,fe⟩:=hv.bk hi;by_cases h1:s[i].length=s.length
   ·simp only [h1,tJ,wQ,yO] at hf;simp only [go_sem,ya,cu,fe,cp.len,hv.len,show (s[i].length:Int)=s.length by omega];generalize hq:D P L (.loop [0,3,4] NY) _=q;obtain ⟨ex,st,rfl,tm,ct,rfl,h2⟩:=bP hq (inner hi h1 hl s.length) ⟨0,by simp only [go_sem,ya,ay,aJ hv.pu,aO _ hv.pu]<;>rfl,by omega,rfl⟩
    rcases h2 with ⟨rfl,h2,h3⟩ | ⟨rfl,h2,h3,h4⟩
    ·right
     rw [yI h3] at hf;exact ⟨_,_,rfl,by simp,_,_,rfl,.inl ⟨rfl,by rw [h2,<-hf]⟩⟩
    ·left
     rw [yB (by simp [h4])] at hf;simp only [go_sem,ya,ay,h2,h3,aJ hv.pu,aO _ hv.pu];refine ⟨_,k-1,rfl,by omega,i+1,?_,by omega,hl,hf⟩;rw [wrap64 (by omega) (by omega)];simp only [go_sem,ya,ay,aJ hv.pu,aO _ hv.pu]<;>rfl
   ·right
    simp only [h1,tJ,uV,y5] at hf;simp only [go_sem,ya,cu,fe,cp.len,hv.len,show ¬(s[i].length:Int)=s.length by omega];refine ⟨_,_,rfl,by simp,_,_,rfl,.inl ⟨rfl,?_⟩⟩;simp only [go_sem,<-hf]
  ·right
   simp only [go_sem,show ¬(i:Int)<s.length by omega];refine ⟨_,_,rfl,by simp,_,_,rfl,.inr ⟨rfl,?_⟩⟩;rw [<-hf,y8 (by omega)];rfl
end
end
section
open Go (IntKind)
section
variable {P:aG} {L:Lib}
def s37 (h:Has P L 37 PC) (KW:Has P L 38 KI) {v:AV} {l:List Int} (hv:br v l) (hl:l.length<=33) (ho:dB 0 1000 l=false):ae P L 37 [aa 0,v,.fn (.f 38) [] []] (aa (dK l)):=by
 have key:=cg (P:=P) (L:=L) (live:=[0,2,9,10,11]) (a:=Ns)
  (I:=fun k st=>∃i:Nat,st=⟨[(0,aa (dK (l.take i))),(2,.fn (.f 38) [] []),(9,v),(10,aa l.length),(11,aa i)],[],0,0⟩/\i+k=l.length)
  (Q:=fun ex st=>∃tm ct,st=⟨tm,[],ct,0⟩/\ex= .exit 0/\af tm 0=aa (dK l)) ?_
 ·unfold ae;rw [av h];simp only [go_sem,ya,PC,hv.len];generalize hq:D P L (.loop [0,2,9,10,11] Ns) _=q;obtain ⟨ex,st,rfl,tm,ct,rfl,rfl,h2⟩:=bP hq (key l.length) ⟨0,by simp only [go_sem,ya,ay,aJ hv.pu,aO _ hv.pu]<;>rfl,by omega⟩
  simp only [go_sem,ay,h2]
 ·rintro k st ⟨i,rfl,hk⟩;simp only [go_sem,ya,Ns];by_cases hi:i<l.length
  ·have cu:(i:Int)<l.length:=by omega
   left
   have hb:=LV (Rr ho i);have ht:(l.take i).length=i:=by rw [yT];omega
   have hg:=HY ho i hi
   simp only [go_sem,ya,cu,hv.bk hi,s38 KW,wrap64 (n:=dK (l.take i)+l[i]) (by omega) (by omega)];refine ⟨_,k-1,rfl,by omega,i+1,?_,by omega⟩;rw [wrap64 (by omega) (by omega),Cm hi];simp only [go_sem,ya,ay,aJ hv.pu,aO _ hv.pu]<;>rfl
  ·right
   simp only [go_sem,show ¬(i:Int)<l.length by omega];refine ⟨_,_,rfl,by simp,_,_,rfl,rfl,?_⟩;simp only [go_sem,ya];rw [yM (by omega)]
def ZH {l:List Int} {f:Int->Int} {i:Nat} (h:i<l.length):((l.take (i+1)).map f).map aa=((l.take i).map f).map aa++[AV.int .i64 (f l[i])]:=by
 rw [vj h,xC,xC];rfl
def s35 (h:Has P L 35 PA) {v:AV} {l:List Int} (hv:br v l) (hl:l.length<=1000000) {g:Nat} {f:Int->Int} (hg:∀x,ae P L g [aa x] (aa (f x))):
  ∃r,ae P L 35 [v,.fn (.f g) [] []] r/\br (shut r) (l.map f):=by
 have key:=cg (P:=P) (L:=L) (live:=[1,5,8,9,10]) (a:=CT)
  (I:=fun k st=>∃i:Nat,i+k=l.length/\((i=0/\st=⟨[(1,.fn (.f g) [] []),(5,.ab),(8,v),(9,aa l.length),(10,aa i)],[],0,0⟩)\/
   (0<i/\st=⟨[(1,.fn (.f g) [] []),(5,.an 0 0 i),(8,v),(9,aa l.length),(10,aa i)],[(0,.cells true true false 1 (((l.take i).map f).map aa))],1,0⟩)))
  (Q:=fun ex st=>∃tm hp ct,st=⟨tm,hp,ct,0⟩/\ex= .exit 0/\((l.length=0/\af tm 5= .ab)\/(0<l.length/\af tm 5= .an 0 0 l.length/\ak hp 0=some (.cells true true false 1 ((l.map f).map aa))))) ?_
 ·unfold ae;rw [av h];simp only [go_sem,ya,PA,hv.len];generalize hq:D P L (.loop [1,5,8,9,10] CT) _=q;obtain ⟨ex,st,rfl,tm,hp,ct,rfl,rfl,h2⟩:=bP hq (key l.length) ⟨0,by omega,.inl ⟨rfl,by simp only [go_sem,ya,ay,aJ hv.pu,aO _ hv.pu]<;>rfl⟩⟩
  rcases h2 with ⟨h2,h3⟩ | ⟨h2,h3,h4⟩
  ·refine ⟨.ab,by simp only [go_sem,ay,h3],?_⟩;rw [List.eq_nil_of_length_eq_zero h2];exact pZ
  ·refine ⟨.cJ false 1 l.length ((l.map f).map aa),?_,?_⟩
   ·simp only [go_sem,yb,ay,h3,h4];exact QV (H4 _ _ _) (by simp) (by decide)
   ·have:=fm false (l.map f)
    rwa [List.length_map] at this
 ·rintro k st ⟨i,hk,aX⟩;by_cases hi:i<l.length
  ·have cu:(i:Int)<l.length:=by omega
   left
   rcases aX with ⟨h0,rfl⟩ | ⟨h0,rfl⟩
   ·subst h0;simp only [go_sem,ya,yb,Nat.reduceMul,yt,ye,yh,CT,show ((0:Nat):Int)<l.length from cu,hv.bk hi,hg,kL];refine ⟨_,k-1,rfl,by omega,1,by omega,.inr ⟨by omega,?_⟩⟩;rw [wrap64 (by omega) (by omega),ZH hi];simp only [go_sem,ya,yb,ay,aJ hv.pu,aO _ hv.pu]<;>rfl
   ·have hlen:(((l.take i).map f).map aa).length=i:=by simp;omega
    simp only [go_sem,ya,yb,ye,yh,CT,cu,hv.bk hi,hg]
    rw [ki (ex:=false) (pu:=true) (cs:=((l.take i).map f).map aa) (by simp only [go_sem,ya]) (by rw [hlen,yh]) (by omega) (by omega) (by decide) (by simp only [go_sem])];simp only [go_sem,ya,yb];refine ⟨_,k-1,rfl,by omega,i+1,by omega,.inr ⟨by omega,?_⟩⟩;rw [wrap64 (by omega) (by omega),ZH hi];simp only [go_sem,ya,yb,ay,aJ hv.pu,aO _ hv.pu]<;>rfl
  ·right
   rcases aX with ⟨h0,rfl⟩ | ⟨h0,rfl⟩
   ·simp only [go_sem,ya,CT,show ¬(i:Int)<l.length by omega];refine ⟨_,_,rfl,by simp,_,_,_,rfl,rfl,.inl ⟨by omega,?_⟩⟩;simp only [go_sem,ya]
   ·simp only [go_sem,ya,CT,show ¬(i:Int)<l.length by omega];refine ⟨_,_,rfl,by simp,_,_,_,rfl,rfl,.inr ⟨by omega,?_,?_⟩⟩
    ·simp only [go_sem,ya];rw [show i=l.length by omega]
    ·simp only [go_sem];rw [yM (by omega)]
end
end
section
def DE (n:Nat) (f:Nat->Nat->Int):List (List Int):=(xi n).map fun r=>(xi n).map fun c=>f c r
def Im (n:Nat) (f:Nat->Nat->Int):(DE n f).length=n:=by simp [DE]
def abS {n:Nat} {f:Nat->Nat->Int} {r:Nat} (h:r<n):(DE n f)[r]'(by rw [Im];exact h)=(xi n).map fun c=>f c r:=by simp [DE]
def nc (x:Int):Int:=(39373*x)%2147483647
def Bi (x:Int):Nat->Int
 | 0=>x
 | k+1=>nc (Bi x k)
def Yi (x:Int):0<=nc x/\nc x<=2147483646:=by
 unfold nc;omega
def ai3 {key:Int} (h:0<=key/\key<=2147483646):∀k,0<=Bi key k/\Bi key k<=2147483646
 | 0=>h
 | k+1=>Yi _
def oR:List Int->Int->Nat
 | [],_=>0
 | w::r,t=>if t<w then 0 else 1+oR r (t-w)
def ajN {w:List Int} {t:Int}:∀k,k<w.length->(∀j,j<k->dK (w.take (j+1))<=t)->oR w t=k+oR (w.drop k) (t-dK (w.take k)):=by
 intro k
 induction k with
 | zero=>intro _ _;simp [dK]
 | succ k ih=>
  intro hk h;have h1:=ih (by omega) (fun j hj=>h j (by omega));have pz:k<w.length:=by omega
  have h2:=h k (by omega);rw [Cm pz] at h2;rw [h1,yL pz,oR,yB (by omega),Cm pz,show t-dK (w.take k)-w[k]=t-(dK (w.take k)+w[k]) by omega];omega
def anG {w:List Int} {t:Int} {k:Nat} (hk:k<w.length) (h:∀j,j<k->dK (w.take (j+1))<=t) (ht:t<dK (w.take (k+1))):oR w t=k:=by
 rw [ajN k hk h,yL hk,oR,yI (by rw [Cm hk] at ht;omega)];omega
def anH {w:List Int}:∀{t:Int},t<dK w->0<=t->oR w t<w.length:=by
 induction w with
 | nil=>intro t h h0;simp [dK] at h;omega
 | cons a r ih=>
  intro t h h0;simp only [oR,yr]
  split
  ·omega
  ·have:=ih (t:=t-a) (by simp only [dK] at h;omega) (by omega)
   omega
def M6 (key:Int) (w:List Int) (k:Nat):Int:=(oR w (Bi key (k+1)%dK w):Int)-(w.length/2:Nat)
def jR (f:Nat->Int):Nat->Int
 | 0=>0
 | n+1=>jR f n+f n
def QW {f:Nat->Int} {b:Int} (h:∀k,-b<=f k/\f k<=b):∀n:Nat,-(b*n)<=jR f n/\jR f n<=b*n
 | 0=>by simp [jR]
 | n+1=>by
  have h1:=QW h n;have h2:=h n;have e:b*((n+1:Nat):Int)=b*n+b:=by grind
  simp only [jR,e];omega
def kv (k:List (List Int)) (j i:Nat):Int:=(k.getD j []).getD i 0
def sY (s k:List (List Int)) (c r:Nat):Int:=
 jR (fun j=>jR (fun i=>kv k j i*iz s ((c:Int)+i-(k.length/2:Nat)) ((r:Int)+j-(k.length/2:Nat))) k.length) k.length
def YU {lo hi:Int} {l:List Int} (h:dB lo hi l=false) (h0:lo<=0/\0<=hi) (i:Nat):lo<=l.getD i 0/\l.getD i 0<=hi:=by
 by_cases hl:i<l.length
 ·have:=HY h i hl
  grind
 ·grind
def anI {n:Nat} {lo hi:Int} {k:List (List Int)} (h:fB n lo hi k=0) (h0:lo<=0/\0<=hi) (j i:Nat):lo<=kv k j i/\kv k j i<=hi:=by
 unfold kv;by_cases hl:j<k.length
 ·have:=HO h j hl
  simp only [y9,xz hl,wT];exact YU this.2 h0 i
 ·grind
def QH {n:Nat} {lo hi:Int} {s:List (List Int)} (h:fB n lo hi s=0) (h0:lo<=0/\0<=hi) (c r:Int):lo<=iz s c r/\iz s c r<=hi:=by
 unfold iz;by_cases hl:(r%s.length).toNat<s.length
 ·have:=HO h _ hl
  simp only [y9,xz hl,wT];exact YU this.2 h0 _
 ·grind
end
section
open Go (IntKind)
section
variable {P:aG} {L:Lib}
def jY {k:yV} {n:Int} (h:0<=n):dY (.int k n)=some n.toNat:=by
 cases n with
 | ofNat n=>rfl
 | negSucc n=>exact absurd h (by simp)
def aaF {s:List (List Int)} {n:Nat} (hn:s.length=n) (h0:0<n) (hr:∀i (hi:i<s.length),s[i].length=n) (c r:Int):
  ∃(h1:(r%n).toNat<s.length) (h2:(c%n).toNat<(s[(r%n).toNat]'h1).length),iz s c r=(s[(r%n).toNat]'h1)[(c%n).toNat]'h2:=by
 have a1:=xM r (show (n:Int)≠0 by omega);have a2:=we r (show (0:Int)<n by omega);have b1:=xM c (show (n:Int)≠0 by omega);have b2:=we c (show (0:Int)<n by omega);have h1:(r%n).toNat<s.length:=by omega
 have h2:(c%n).toNat<(s[(r%n).toNat]'h1).length:=by rw [hr];omega
 refine ⟨h1,h2,?_⟩;unfold iz;rw [hn];simp only [y9,xz h1,xz h2,wT]
def s97 (h:Has P L 97 PM) (rO:Has P L 134 C5) {v:AV} {s:List (List Int)} (hv:cF v s) {n:Nat} (hn:s.length=n) (h0:0<n) (hl:n<=1000000) (hr:∀i (hi:i<s.length),s[i].length=n) (c r:Int):
  ae P L 97 [v,aa c,aa r] (aa (iz s c r)):=by
 obtain ⟨h1,h2,h3⟩:=aaF hn h0 hr c r;have a1:=xM r (show (n:Int)≠0 by omega);have b1:=xM c (show (n:Int)≠0 by omega);obtain ⟨q,rest,eN,lF⟩:=hv.bk h1;have e1:=OG rO (n:=r) (m:=(s.length:Int)) (by omega) (by omega);have e2:=OG rO (n:=c) (m:=(s.length:Int)) (by omega) (by omega);rw [hn] at e1 e2;unfold ae at e1 e2 ⊢;rw [av h];simp only [go_sem,ya,PM,hv.len,hn,e1,e2,jY a1,jY b1,lF,eN.bk h2,h3]
end
end
section
open Go (IntKind)
section
variable {P:aG} {L:Lib}
def aV (k id o:Nat):EV k (.ptr id o)=some (.ptr id (o+k)):=rfl
def bU {α:Type} (a:α) (l:List α):xm 1 (a::l)=l:=rfl
def aul {α:Type} (a b:α) (l:List α):xm 2 (a::b::l)=l:=rfl
def ae5 {α:Type} (a b c:α) (l:List α):xm 3 (a::b::c::l)=l:=rfl
def ajO (x:Int) (k:Nat):Bi x (k+1)=nc (Bi x k):=rfl
def nK (s k:List (List Int)) (c r:Nat) (j i:Nat):Int:=kv k j i*iz s ((c:Int)+i-(k.length/2:Nat)) ((r:Int)+j-(k.length/2:Nat))
def ajP (s k:List (List Int)) (c r:Nat):sY s k c r=jR (fun j=>jR (nK s k c r j) k.length) k.length:=rfl
def alp {a b x y:Int} (h1: -a<=x/\x<=a) (h2: -b<=y/\y<=b): -(a*b)<=x*y/\x*y<=a*b:=by
 have p1:=vS (show 0<=a-x by omega) (show 0<=b-y by omega);have p2:=vS (show 0<=a+x by omega) (show 0<=b+y by omega);have p3:=vS (show 0<=a-x by omega) (show 0<=b+y by omega);have p4:=vS (show 0<=a+x by omega) (show 0<=b-y by omega)
 grind
def Yj {s k:List (List Int)} {n m:Nat} (hs:fB n (-1000) 1000 s=0) (hk:fB m (-100) 100 k=0) (c r j i:Nat): -100000<=nK s k c r j i/\nK s k c r j i<=100000:=
 alp (anI hk (by decide) j i) (QH hs (by decide) _ _)
def Yk {s k:List (List Int)} {n m:Nat} (hs:fB n (-1000) 1000 s=0) (hk:fB m (-100) 100 k=0) (c r j:Nat) (i:Nat): -(100000*i)<=jR (nK s k c r j) i/\jR (nK s k c r j) i<=100000*i:=
 QW (fun i=>Yj hs hk c r j i) i
def SL {k:List (List Int)} {j i:Nat} (hj:j<k.length) (hi:i<k[j].length):k[j][i]=kv k j i:=by
 unfold kv
 grind
def Tk (s k:List (List Int)) (r:Nat) (c:Nat):List Int:=(xi c).map fun c=>sY s k c r
def alq (s k:List (List Int)) (r c:Nat):(Tk s k r c).length=c:=by simp [Tk]
def M7 (s k:List (List Int)) (n:Nat) (r:Nat):List (List Int):=(xi r).map fun r=>Tk s k r n
def JU:List (List Int)->Bool
 | []=>false
 | l::r=>dB (-1000) 1000 l||JU r
end
end
section
open Go (IntKind)
section
variable {P:aG} {L:Lib}
abbrev Nm (n:Int):AV:= .agg [aa n,.ab]
def jw (hp:Hp) (ct id:Nat) (a:Int) (x y:AV):eM hp ct id 0 2 [.int .i64 a,.ab] (some (.cells true true true 2 [x,y]))=some (.ap [],aW hp id (.cells true true true 2 [.int .i64 a,.ab]),ct):=rfl
def Io (hp:Hp):gH .sl .ab .ab=some true:=rfl
def cQ (b:Bool):JR false (some b)=some (.bool b):=by cases b<;>rfl
def SM (f:cK) (tm:Env) (hp:Hp) (ct:Nat) (x y:X):bw P L f tm hp ct (.mn [x,y])=rd hp ct (min2 (aA tm x) (aA tm y)):=by
 simp only [bw,rd,bE,dG,Ba]
 grind
def EP (f:cK) (tm:Env) (hp:Hp) (ct:Nat) (x y:X):bw P L f tm hp ct (.mx [x,y])=rd hp ct (max2 (aA tm x) (aA tm y)):=by
 simp only [bw,rd,bE,dG,Ba]
 grind
def RX (k k':yV) (x y:Int):min2 (.int k x) (.int k' y)=some (.int k (if y<x then y else x)):=rfl
def Ei (k k':yV) (x y:Int):max2 (.int k x) (.int k' y)=some (.int k (if y>x then y else x)):=rfl
def cf (n:Int):Int:=if n<0 then -1 else if n=0 then 0 else 1
def adt (n:Int):(if (if n<1 then n else 1)> -1 then (if n<1 then n else 1) else -1)=cf n:=by
 unfold cf
 grind
def n117 (h:Has P L 117 N8) (n:Int):ae P L 117 [aa n] (Nm n):=by
 unfold ae;rw [av h];simp only [go_sem,ya,yb,ye,N8,aB,yd,jw];rfl
def n147 (h:Has P L 147 rJ) {n:Int} (hn: -9223372036854775808<n/\n<9223372036854775808):ae P L 147 [Nm n] (Nm (-n)):=by
 unfold ae;rw [av h]
 simp only [go_sem,ya,yb,ye,rJ,aB,jw,Io,cQ,aV,yd,bU,show ¬n= -9223372036854775808 by omega,wrap64 (n:=0-n) (by omega) (by omega)];simp only [Int.zero_sub];rfl
def n146 (h:Has P L 146 zK) (n:Int):ae P L 146 [Nm n] (aa (cf n)):=by
 unfold ae;rw [av h];simp only [go_sem,ya,yb,zK,aB,aV,yd,SM,EP,RX,Ei,adt]
def oS (hp:Hp) (p q:Bool):gH .b (.bool p) (.bool q)=some (p==q):=rfl
end
end
section
open Go (IntKind)
section
variable {P:aG} {L:Lib}
def js {n:Nat} {sp:List AV->Option AV} (h:L.pure n=some sp) {f:cK} (vals:List AV):bO P L f n vals=sp vals:=by simp only [bO,h]
abbrev U64 (n:Int):AV:= .int .u64 n
def aum {n:Int} (h1:0<=n) (h2:n<18446744073709551616):IntKind.wrap .u64 n=n:=by
 simp only [IntKind.wrap,IntKind.signed,IntKind.bits]
 grind
def adu (n:Int):oT (.toInt .u64) (aa n)=some (U64 (IntKind.wrap .u64 n)):=rfl
def M8 (n:Int):oT (.toInt .i64) (U64 n)=some (aa (IntKind.wrap .i64 n)):=rfl
def IU (b:Bool):JR true (some b)=some (.bool (!b)):=by cases b<;>rfl
def ash (a b c d:AV):over 0 [a,b] [c,d]=[a,b]:=rfl
def bZ (a b:AV) (r:List AV):dO 2 true (a::b::r)=some (.agg [a,b]):=rfl
def hZ (a b c d:AV) (r:List AV):dO 4 true (a::b::c::d::r)=some (.agg [a,b,c,d]):=rfl
def n163 (h:Has P L 163 zL) (rP:Has P L 147 rJ) {n:Int} (hn: -9223372036854775808<n/\n<9223372036854775808):ae P L 163 [Nm n] (Nm n.natAbs):=by
 have e1:=n147 rP hn;unfold ae at e1 ⊢;rw [av h];by_cases h0:n<0
 ·simp only [go_sem,ya,yb,zL,aB,jw,aV,yd,h0,bZ,aZ,e1];rw [show -n=(n.natAbs:Int) by omega];rfl
 ·simp only [go_sem,ya,yb,zL,aB,jw,aV,yd,h0,bZ];rw [show ((n.natAbs:Nat):Int)=n by omega];rfl
def ZI {a b:Int} (hb:0<b):(a.tmod b<0->a/b=a.tdiv b-1/\a%b=a.tmod b+b)/\(¬a.tmod b<0->a/b=a.tdiv b/\a%b=a.tmod b):=by
 have h1:=Int.mul_tdiv_add_tmod a b;have h2:a.tmod b<b:=tV a hb;have h3: -b<a.tmod b:=tW a hb;refine ⟨fun h=>(vD hb).2 ⟨?_,?_,?_⟩,fun h=>(vD hb).2 ⟨?_,?_,?_⟩⟩
 ·grind
 ·omega
 ·omega
 ·omega
 ·omega
 ·omega
def n164 (h:Has P L 164 iM) {a b:Int} (ha: -4611686018427387904<a/\a<4611686018427387904) (hb:0<b/\b<4611686018427387904):ae P L 164 [Nm a,Nm b] (.ap [Nm (a/b),Nm (a%b)]):=by
 obtain ⟨f1,f2⟩:=ZI (a:=a) hb.1;have hq: -4611686018427387904<a.tdiv b/\a.tdiv b<4611686018427387904:=by
  have:=Int.natAbs_tdiv_le_natAbs a b
  omega
 have hr: -4611686018427387904<a.tmod b/\a.tmod b<4611686018427387904:=by
  have:=tV a hb.1
  have:=tW a hb.1
  omega
 unfold ae;rw [av h];by_cases h0:a.tmod b<0
 ·obtain ⟨g1,g2⟩:=f1 h0;rw [g1,g2]
  simp only [go_sem,ya,yb,ye,iM,aB,jw,Io,cQ,aV,yd,bU,show ¬a= -9223372036854775808 by omega,eU _ _ _ (show b≠0 by omega),er _ _ _ (show b≠0 by omega),h0,wrap64 (n:=a.tdiv b) (by omega) (by omega),wrap64 (n:=a.tdiv b-1) (by omega) (by omega),wrap64 (n:=a.tmod b+b) (by omega) (by omega)];rfl
 ·obtain ⟨g1,g2⟩:=f2 h0;rw [g1,g2]
  simp only [go_sem,ya,yb,ye,iM,aB,jw,Io,cQ,aV,yd,bU,show ¬a= -9223372036854775808 by omega,eU _ _ _ (show b≠0 by omega),er _ _ _ (show b≠0 by omega),h0,wrap64 (n:=a.tdiv b) (by omega) (by omega)];rfl
def n148 (h:Has P L 148 Fh) (oX:Has P L 146 zK) (nN:Has P L 164 iM) {a b:Int} (ha: -4611686018427387904<a/\a<4611686018427387904) (hb:0<b/\b<4611686018427387904):ae P L 148 [Nm a,Nm b] (Nm (a/b)):=by
 have e1:=n146 oX b;have e2:=n164 nN ha hb;have e3:cf b=1:=by unfold cf;rw [yB (by omega),yB (by omega)]
 rw [e3] at e1;unfold ae at e1 e2 ⊢;rw [av h];simp only [go_sem,ya,yb,Fh,tg,yo,aB,jw,yd,bZ,aZ,e1,e2,oC];rfl
def aaG (a b:Nat) (hb:b≠0):wg b (a%b)=wg a b:=by
 rw [uj b,<-ybl,uj]
def asi (oX:Has P L 146 zK) (nN:Has P L 164 iM) (G:Nat):
  ∀k s,(∃x y:Nat,bD [2,3,4] s=⟨[(2,.ptr 0 0),(3,.ptr 1 0),(4,.ptr 2 0)],[(2,.cells true true true 2 [aa 0,.ab]),(1,.cells true true true 2 [aa y,.ab]),(0,.cells true true true 2 [aa x,.ab])],3,0⟩/\x<4611686018427387904/\y<4611686018427387904/\wg x y=G/\y=k)->
   ∃ex s',D P L (.loop [2,3,4] ze) s=some (ex,s')/\∃tm,s'=⟨tm,[(2,.cells true true true 2 [aa 0,.ab]),(1,.cells true true true 2 [aa 0,.ab]),(0,.cells true true true 2 [aa G,.ab])],3,0⟩/\ex= .exit 0/\af tm 2= .ptr 0 0/\af tm 4= .ptr 2 0:=by
 refine cg (I:=fun k s=>∃x y:Nat,s=⟨[(2,.ptr 0 0),(3,.ptr 1 0),(4,.ptr 2 0)],[(2,.cells true true true 2 [aa 0,.ab]),(1,.cells true true true 2 [aa y,.ab]),(0,.cells true true true 2 [aa x,.ab])],3,0⟩/\x<4611686018427387904/\y<4611686018427387904/\wg x y=G/\y=k)
  (Q:=fun ex s'=>∃tm,s'=⟨tm,[(2,.cells true true true 2 [aa 0,.ab]),(1,.cells true true true 2 [aa 0,.ab]),(0,.cells true true true 2 [aa G,.ab])],3,0⟩/\ex= .exit 0/\af tm 2= .ptr 0 0/\af tm 4= .ptr 2 0) ?_
 rintro k s ⟨x,y,rfl,hx,hy,hG,rfl⟩;have e1:=n146 oX (y:Int);by_cases iV:y=0
 ·right
  subst iV;have e3:cf ((0:Nat):Int)=0:=rfl;rw [e3] at e1;simp only [go_sem,ya,ze,yq,Bool.not_true,bZ,aZ,e1];obtain rfl:x=G:=by rw [<-hG,tX]
  exact ⟨_,_,rfl,by simp,_,rfl,rfl,by simp only [go_sem,ya],by simp only [go_sem,ya]⟩
 ·left
  have e3:cf (y:Int)=1:=by unfold cf;rw [yB (by omega),yB (by omega)]
  rw [e3] at e1;have e2:=n164 nN (a:=x) (b:=y) (by omega) (by omega);rw [show ((x:Int)%(y:Int))=((x%y:Nat):Int) from rfl] at e2;have bi:=xy x (show 0<y by omega);simp only [go_sem,ya,yb,ze,vN,yo,Bool.not_false,aB,jw,bZ,aZ,e1,e2,oC];refine ⟨_,x%y,rfl,bi,y,x%y,?_,hy,by omega,by rw [<-hG];exact aaG x y iV,rfl⟩
  simp only [go_sem,ya,yb,ay,ash,Bool.true_and]
def n130 (h:Has P L 130 Ff) (Dc:Has P L 163 zL) (rP:Has P L 147 rJ) (oX:Has P L 146 zK) (nN:Has P L 164 iM) {a b:Int} (ha: -4611686018427387904<a/\a<4611686018427387904) (hb: -4611686018427387904<b/\b<4611686018427387904):ae P L 130 [Nm a,Nm b] (Nm (xZ a b:Nat)):=by
 have e1:=n163 Dc rP (n:=a) (by omega);have e2:=n163 Dc rP (n:=b) (by omega);unfold ae at e1 e2 ⊢;rw [av h];simp only [go_sem,ya,yb,Ff,aB,jw,bZ,aZ,e1,e2,bl,yd];generalize hq:D P L (.loop [2,3,4] ze) _=q;obtain ⟨ex,s,rfl,tm,rfl,rfl,h2,h4⟩:=bP hq (asi (P:=P) (L:=L) oX nN (xZ a b) b.natAbs) ⟨a.natAbs,b.natAbs,by simp only [go_sem,ya,yb,ay],by omega,by omega,rfl,rfl⟩;simp only [go_sem,ya,yb,ay,h2,h4,jw,bZ];rfl
abbrev Fq (n d:Int):AV:= .agg [aa n,.ab,aa d,.ab]
def adv (hp:Hp) (ct id:Nat) (a b:Int) (x y z w:AV):eM hp ct id 0 4 [.int .i64 a,.ab,.int .i64 b,.ab] (some (.cells true true true 4 [x,y,z,w]))=some (.ap [],aW hp id (.cells true true true 4 [.int .i64 a,.ab,.int .i64 b,.ab]),ct):=rfl
def adw (tm:Env) (x y z w:AV) (a:Int) (r:List (Nat×Nat×X)):gB tm [x,y,z,w] 0 2 [.int .i64 a,.ab] r=fill tm [.int .i64 a,.ab,z,w] r:=rfl
def adx (tm:Env) (x y z w:AV) (a:Int) (r:List (Nat×Nat×X)):gB tm [x,y,z,w] 2 2 [.int .i64 a,.ab] r=fill tm [x,y,.int .i64 a,.ab] r:=rfl
def n101 (h:Has P L 101 kZ) (OJ:Has P L 148 Fh) (Ut:Has P L 130 Ff) (Dc:Has P L 163 zL) (rP:Has P L 147 rJ) (oX:Has P L 146 zK) (nN:Has P L 164 iM) {a b:Int} (ha: -4611686018427387904<a/\a<4611686018427387904) (hb:0<b/\b<4611686018427387904):
  ae P L 101 [Nm a,Nm b] (Fq (a/(xZ a b:Nat)) (b/(xZ a b:Nat))):=by
 have e1:=n146 oX b;have e3:cf b=1:=by unfold cf;rw [yB (by omega),yB (by omega)]
 rw [e3] at e1;have e2:=n130 Ut Dc rP oX nN ha (b:=b) (by omega);have hg:(0:Int)<(xZ a b:Nat):=by
  have:=uK a (show b≠0 by omega)
  omega
 have mM:((xZ a b:Nat):Int)<4611686018427387904:=by
  have:=Int.gcd_le_natAbs_right a (show b≠0 by omega)
  omega
 have e4:=n148 OJ oX nN ha (b:=(xZ a b:Nat)) ⟨hg,mM⟩;have e5:=n148 OJ oX nN (a:=b) (b:=(xZ a b:Nat)) (by omega) ⟨hg,mM⟩;unfold ae at e1 e2 e4 e5 ⊢;rw [av h];by_cases ff:b=1
 ·subst ff;rw [Int.gcd_one];simp only [go_sem,ya,yb,kZ,tg,yo,yq,aB,adv,bZ,aZ,e1,aV,yd,bU,Io,cQ,adw,adx];rw [show a/((1:Nat):Int)=a from Int.ediv_one a];rfl
 ·simp only [go_sem,ya,yb,kZ,tg,yo,aB,jw,adv,bZ,aZ,e1,aV,yd,bU,Io,cQ,ff,e2,e4,e5,bl,adw,adx];rfl
end
end
section
def dt (a b:Int):Int:=a/(xZ a b:Nat)
def dC (a b:Int):Int:=b/(xZ a b:Nat)
def Ip {a b:Int} (hb:0<b):(0:Int)<(xZ a b:Nat):=by
 have:=uK a (show b≠0 by omega)
 omega
def ady (a b:Int):a=(xZ a b:Nat)*dt a b:=(tD (uA a b)).symm
def adz (a b:Int):b=(xZ a b:Nat)*dC a b:=(tD (um a b)).symm
def H7 {a b:Int} (hb:0<b):0<dC a b:=by
 have h1:=Ip (a:=a) hb;have h2:=adz a b;rcases Int.lt_trichotomy (dC a b) 0 with h | h | h
 ·have:=Int.mul_neg_of_pos_of_neg h1 h;omega
 ·rw [h,Int.mul_zero] at h2;omega
 ·exact h
def aaH (a b:Int):(dt a b).natAbs<=a.natAbs:=by
 unfold dt;rw [vJ (uA a b)];exact vA _ _
def aaI (a b:Int):(dC a b).natAbs<=b.natAbs:=by
 unfold dC;rw [vJ (um a b)];exact vA _ _
def oY (a b:Int):List Nat:=if dC a b=1 then bh (dt a b) else bh (dt a b)++[47]++bh (dC a b)
end
section
def ae6 {a b:Nat} (h:¬a<b):yK a b=false:=by
 cases hb:yK a b with
 | false=>rfl
 | true=>exact absurd (yy hb) (by omega)
def Sh:∀(f n:Nat) (acc:List Nat),n<f->mS f n acc=mS f n []++acc
 | 0,_,_,h=>by omega
 | f+1,n,acc,h=>by
  simp only [mS];by_cases h1:n<10
  ·rw [show yK n 10=true from yv h1];rfl
  ·rw [show yK n 10=false from ae6 (by omega)];rw [Sh f (n/10) _ (by omega),Sh f (n/10) [48+n%10] (by omega)]
   simp
def Rv {f n:Nat} (h:n<10):mS (f+1) n []=[48+n]:=by
 simp only [mS];rw [show yK n 10=true from yv h];rfl
def Si {f n:Nat} (h:¬n<10) (hf:n<=f):mS (f+1) n []=mS f (n/10) []++[48+n%10]:=by
 rw [<-Sh f (n/10) _ (by omega)];simp only [mS];rw [show yK n 10=false from ae6 (by omega)];rfl
def anJ:∀(n f:Nat),n<f->mS f n []=aw n:=by
 intro n
 induction n using vL with
 | _ n ih=>
  intro f hf;obtain ⟨g,rfl⟩:∃g,f=g+1:=⟨f-1,by omega⟩;by_cases h:n<10
  ·rw [Rv h];unfold aw;rw [Rv h]
  ·rw [Si h (by omega),ih (n/10) (by omega) g (by omega)];unfold aw;rw [Si h (yC n),ih (n/10) (by omega) n (by omega)];rfl
def oB {n:Nat} (h:n<10):aw n=[48+n]:=Rv h
def p0 {n:Nat} (h:¬n<10):aw n=aw (n/10)++[48+n%10]:=by
 rw [show aw n=mS (n+1) n [] from rfl,Si h (yC n),anJ (n/10) n (by omega)]
def p9:∀{k n:Nat},n<10^(k+1)->(aw n).length<=k+1
 | 0,n,h=>by rw [oB (by simpa using h)];simp
 | k+1,n,h=>by
  by_cases h1:n<10
  ·rw [oB h1];simp
  ·rw [p0 h1,yQ]
   have:n/10<10^(k+1):=by
    grind
   have:=p9 this
   grind
def LY {n:Nat} (h:n<18446744073709551616):(aw n).length<=20:=p9 (k:=19) (by omega)
def kM (n:Nat):bh (n:Int)=aw n:=rfl
def mR {n:Int} (h:n<0):bh n=45::aw n.natAbs:=by
 cases n with
 | ofNat n=>exact absurd h (by simp)
 | negSucc n=>rfl
def bS:List Nat->Nat
 | []=>0
 | b::r=>if b=47 then 0 else bS r+1
def ai4 {s:List Nat} {i:Nat} (h:i<s.length):bS (s.drop i)=if s[i]=47 then 0 else bS (s.drop (i+1))+1:=by
 rw [yL h];rfl
def HQ:∀s:List Nat,bS s<=s.length
 | []=>yC _
 | b::r=>by
  unfold bS
  have:=HQ r
  grind
def dD:List Nat->Bool
 | []=>true
 | b::r=>yG 48 b&&yG b 57&&dD r
def LC:∀(a b:List Nat),dD (a++b)=(dD a&&dD b)
 | [],b=>by simp [dD]
 | x::a,b=>by simp [dD,LC a b,Bool.and_assoc]
def HR (n:Nat):dD (aw n)=true:=by
 induction n using vL with
 | _ n ih=>
  by_cases h:n<10
  ·rw [oB h];simp [dD];omega
  ·rw [p0 h,LC,ih (n/10) (by omega)];simp [dD];omega
def LD:∀{s:List Nat} (r:List Nat),dD s=true->bS (s++r)=s.length+bS r
 | [],r,_=>by simp
 | b::s,r,h=>by
  simp only [dD,yg] at h;have h1:=yy h.1.1;simp only [y7,bS,yr];rw [yB (by omega),LD r h.2];omega
def LF:∀(l:List Nat) (a d:Nat),d<10->cW (l++[48+d]) a=(cW l a).map (fun v=>10*v+d)
 | [],a,d,h=>by
  simp only [List.nil_append,cW];rw [show yG 48 (48+d)=true from yv (by omega),show yG (48+d) 57=true from yv (by omega)]
  simp
 | b::l,a,d,h=>by
  simp only [y7,cW]
  cases (yG 48 b&&yG b 57) with
  | true=>exact LF l _ d h
  | false=>rfl
def Cn (n:Nat):cW (aw n) 0=some n:=by
 induction n using vL with
 | _ n ih=>
  by_cases h:n<10
  ·rw [oB h]
   have:=LF [] 0 n h
   simpa [cW] using this
  ·rw [p0 h,LF _ _ _ (by omega),ih (n/10) (by omega)]
   simp;omega
def alr {s:List Nat} {i a v:Nat} (h:i<s.length) (hv:cW (s.drop i) a=some v):48<=s[i]/\s[i]<=57/\cW (s.drop (i+1)) (10*a+(s[i]-48))=some v:=by
 rw [yL h] at hv;simp only [cW] at hv
 cases hb:(yG 48 s[i]&&yG s[i] 57) with
 | false=>rw [hb] at hv;cases hv
 | true=>
  simp_all
def iN:Nat->Nat->List Nat
 | 0,_=>[]
 | k+1,n=>iN k (n/10)++[48+n%10]
def RY:∀k n,(iN k n).length=k
 | 0,_=>rfl
 | k+1,n=>by simp [iN,RY k]
def Mt:∀(k m r:Nat),0<m->r<10^k->aw (m*10^k+r)=aw m++iN k r
 | 0,m,r,_,h=>by simp at h;subst h;simp [iN]
 | k+1,m,r,hm,h=>by
  have h1:m*10^(k+1)+r=(m*10^k)*10+r:=by grind
  have hp:0<m*10^k:=Nat.mul_pos hm (Nat.pow_pos (by decide));have e1:(m*10^(k+1)+r)/10=m*10^k+r/10:=by omega
  have e2:(m*10^(k+1)+r)%10=r%10:=by omega
  rw [p0 (by omega),e1,e2,Mt k m (r/10) hm (by rw [xg] at h;omega)];simp [iN]
def aaJ:∀(k r a:Nat),r<10^k->cW (iN k r) a=some (a*10^k+r)
 | 0,r,a,h=>by simp at h;subst h;simp [iN,cW]
 | k+1,r,a,h=>by
  rw [iN,LF _ _ _ (xy _ (by decide)),aaJ k (r/10) a (by omega)];simp only [Option.map_some,yc,xg]
  grind
def anK {m:Nat} (h:1000000000<=m):aw m=aw (m/1000000000)++iN 9 (m%1000000000):=by
 have:=Mt 9 (m/1000000000) (m%1000000000) (by omega) (by omega)
 grind
end
section
open Go (IntKind)
def iC (s:List Nat) (l h:Option Nat):Option AV:=
 match l,h with
 | some l,some h=>bif yG l h&&yG h s.length then some (.str ((s.take h).drop l)) else none
 | _,_=>none
def eV (hp:Hp) (s:List Nat) (tm:Env) (lo hi:Option X):fL hp .str (.str s) tm lo hi=iC s (cP tm 0 lo) (cP tm s.length hi):=by
 unfold iC;simp only [fL]
 grind
def fo (tm:Env) (d:Nat):cP tm d none=some d:=rfl
def dQ (tm:Env) (d:Nat) (x:X):cP tm d (some x)=dY (aA tm x):=rfl
def lK {s:List Nat} {l h:Nat} (h1:l<=h) (h2:h<=s.length):iC s (some l) (some h)=some (.str ((s.take h).drop l)):=by
 simp [iC,yv h1,yv h2]
def gO {a b:List Nat} (h:a.length+b.length<=9223372036854775807):binOp .add (.str a) (.str b)=some (.str (a++b)):=by
 show I1 .add a b=_
 simp only [I1,yv h,ym]
def ap5 (k:yV) (n:Int):oT (.toInt .i64) (.int k n)=some (aa (IntKind.wrap .i64 n)):=rfl
def iF (a b:List Nat):binOp .eql (.str a) (.str b)=some (.bool (cA a b)):=rfl
def qh {s:List Nat} {i:Nat} (h:i<s.length):mX i (.str s)=some (.int .u8 (s[i]:Nat)):=by
 simp only [mX,xz h]
def YV {r:Nat} (h:r<10):iC [48,49,50,51,52,53,54,55,56,57] (some r) (some (r+1))=some (.str [48+r]):=by
 have:r=0\/r=1\/r=2\/r=3\/r=4\/r=5\/r=6\/r=7\/r=8\/r=9:=by omega
 rcases this with rfl | rfl | rfl | rfl | rfl | rfl | rfl | rfl | rfl | rfl<;>rfl
section
variable {P:aG} {L:Lib}
def Uu (h:Has P L 292 zM) {n:Nat} (hn:n<9223372036854775808):ae P L 292 [aa n,aa 1] (.str (aw n)):=by
 have key:=cg (P:=P) (L:=L) (live:=[0,1,5]) (a:=nF)
  (I:=fun k st=>∃(m:Nat) (s:List Nat),st=⟨[(0,aa m),(1,aa 1),(5,.str s)],[],0,0⟩/\m<=n/\m+(1-s.length)=k/\s.length<=20/\((s=[]/\m=n)\/(0<s.length/\(m=0->s=aw n)/\(0<m->aw n=aw m++s))))
  (Q:=fun ex st=>∃tm ct,st=⟨tm,[],ct,0⟩/\ex= .exit 0/\af tm 5= .str (aw n)) ?_
 ·unfold ae;rw [av h];simp only [go_sem,zM];generalize hq:D P L (.loop [0,1,5] nF) _=q;obtain ⟨ex,st,rfl,tm,ct,rfl,rfl,h2⟩:=bP hq (key (n+1)) ⟨n,[],by simp only [go_sem,ya,ay]<;>rfl,by omega,rfl,by simp,.inl ⟨rfl,rfl⟩⟩
  simp only [go_sem,ay,h2]
 ·rintro k st ⟨m,s,rfl,hm,hk,hl,hs⟩;by_cases sF:0<m\/s.length<1
  ·left
   have hc:((decide ((0:Int)<m))=true)\/((decide ((0:Int)<m))=false/\((s.length:Nat):Int)<1):=by
    by_cases h0:0<m
    ·exact .inl (xh (by omega))
    ·exact .inr ⟨yR (by omega),by omega⟩
   have hr:((m:Int)).tmod 10=((m%10:Nat):Int):=by rw [xn (by omega)];rfl
   have hq:((m:Int)).tdiv 10=((m/10:Nat):Int):=by rw [Int.tdiv_eq_ediv_of_nonneg (by omega)];rfl
   have hd:=YV (r:=m%10) (by omega);have fin:∃s' k',D P L nF ⟨[(0,aa m),(1,aa 1),(5,.str s)],[],0,0⟩=some (.normal,s')/\k'<k/\bD [0,1,5] s'=⟨[(0,aa (m/10:Nat)),(1,aa 1),(5,.str ([48+m%10]++s))],[],0,0⟩/\m/10+(1-([48+m%10]++s).length)=k':=by
    rcases hc with hc | ⟨hc,pG⟩
    ·have hc:(0:Int)<m:=of_decide_eq_true hc
     simp only [go_sem,ya,yb,nF,hc,er _ _ _ (show (10:Int)≠0 by decide),eU _ _ _ (show (10:Int)≠0 by decide),hr,hq,wrapN (n:=m%10+1) (by omega),wrap64 (n:=((m/10:Nat):Int)) (by omega) (by omega),eV,dQ,show ((m%10:Nat):Int)+1=((m%10+1:Nat):Int) from rfl,hd,gO (a:=[48+m%10]) (b:=s) (by simp;omega)];refine ⟨_,_,rfl,?_,by simp only [go_sem,ya,ay],rfl⟩
     simp;omega
    ·have hc:¬(0:Int)<m:=of_decide_eq_false hc
     simp only [go_sem,ya,yb,nF,hc,pG,er _ _ _ (show (10:Int)≠0 by decide),eU _ _ _ (show (10:Int)≠0 by decide),hr,hq,wrapN (n:=m%10+1) (by omega),wrap64 (n:=((m/10:Nat):Int)) (by omega) (by omega),eV,dQ,show ((m%10:Nat):Int)+1=((m%10+1:Nat):Int) from rfl,hd,gO (a:=[48+m%10]) (b:=s) (by simp;omega)];refine ⟨_,_,rfl,?_,by simp only [go_sem,ya,ay],rfl⟩
     simp;omega
   obtain ⟨s',k',f1,f2,f3,f4⟩:=fin;refine ⟨s',k',f1,f2,m/10,[48+m%10]++s,f3,by omega,f4,?_,.inr ⟨by simp,fun h0=>?_,fun h0=>?_⟩⟩
   ·have aAX:=LY (n:=n) (by omega);rcases hs with ⟨rfl,rfl⟩ | ⟨h1,h2,h3⟩
    ·simp
    ·by_cases h0:0<m
     ·have e:=congrArg List.length (h3 h0);have e2:0<(aw m).length:=by
       by_cases h9:m<10
       ·rw [oB h9];simp
       ·rw [p0 h9];simp
      simp only [yQ] at e
      simp;omega
     ·omega
   ·have h9:m<10:=by omega
    rcases hs with ⟨rfl,rfl⟩ | ⟨h1,h2,h3⟩
    ·rw [oB h9,yP h9];rfl
    ·have:0<m:=by omega
     rw [h3 this,oB h9,yP h9]
   ·have h9:¬m<10:=by omega
    rcases hs with ⟨rfl,rfl⟩ | ⟨h1,h2,h3⟩
    ·rw [p0 h9];simp
    ·rw [h3 (by omega),p0 h9];simp
  ·right
   simp only [go_sem,ya,nF,show ¬(0:Int)<m by omega,show ¬((s.length:Nat):Int)<1 by omega];refine ⟨_,_,rfl,by simp,_,_,rfl,rfl,?_⟩;simp only [go_sem,ya];rcases hs with ⟨rfl,rfl⟩ | ⟨h1,h2,h3⟩
   ·simp at sF
   ·rw [h2 (by omega)]
def avw (h:Has P L 291 JD) {a b:Nat} (ha:a<9223372036854775808) (hb:b<9223372036854775808):ae P L 291 [aa a,aa b] (aa (wg a b)):=by
 have key:=cg (P:=P) (L:=L) (live:=[0,1]) (a:=IN)
  (I:=fun k st=>∃x y:Nat,st=⟨[(0,aa x),(1,aa y)],[],0,0⟩/\y=k/\wg x y=wg a b)
  (Q:=fun ex st=>∃tm ct,st=⟨tm,[],ct,0⟩/\ex= .exit 0/\af tm 0=aa (wg a b)) ?_
 ·unfold ae;rw [av h];simp only [go_sem,JD];generalize hq:D P L (.loop [0,1] IN) _=q;obtain ⟨ex,st,rfl,tm,ct,rfl,rfl,h2⟩:=bP hq (key b) ⟨a,b,by simp only [go_sem,ya,ay]<;>rfl,rfl,rfl⟩
  simp only [go_sem,ay,h2]
 ·rintro k st ⟨x,y,rfl,rfl,hg⟩;by_cases hy:y=0
  ·right
   subst hy;simp only [go_sem,ya,IN,show ¬(0:Int)<((0:Nat):Int) by omega];refine ⟨_,_,rfl,by simp,_,_,rfl,rfl,?_⟩;simp only [go_sem,ya];rw [<-hg,tX]
  ·left
   have hr:((x:Int)).tmod y=((x%y:Nat):Int):=by rw [xn (by omega)];rfl
   simp only [go_sem,ya,IN,show (0:Int)<y by omega,er _ _ _ (show (y:Int)≠0 by omega),hr];refine ⟨_,x%y,rfl,xy _ (by omega),y,x%y,by simp only [go_sem,ya,ay],rfl,?_⟩;rw [<-hg,uj y,<-ybl,uj]
end
end
section
open Go (IntKind)
section
variable {P:aG} {L:Lib}
def Dd (h:Has P L 272 JA) {s:List Nat} (hl:s.length<=1000000000000):ae P L 272 [.str s] (aa (bS s)):=by
 have key:=cg (P:=P) (L:=L) (live:=[0,3]) (a:=EF)
  (I:=fun k st=>∃i:Nat,st=⟨[(0,.str s),(3,aa i)],[],0,0⟩/\i+k=s.length/\i+bS (s.drop i)=bS s)
  (Q:=fun ex st=>∃tm ct,st=⟨tm,[],ct,0⟩/\((ex= .ret/\af tm 2=aa (bS s))\/(ex= .exit 0/\af tm 0= .str s/\bS s=s.length))) ?_
 ·unfold ae;rw [av h];simp only [go_sem,JA];generalize hq:D P L (.loop [0,3] EF) _=q;obtain ⟨ex,st,rfl,tm,ct,rfl,h2⟩:=bP hq (key s.length) ⟨0,by simp only [go_sem,ya,ay]<;>rfl,by omega,by simp⟩
  rcases h2 with ⟨rfl,h2⟩ | ⟨rfl,h2,h3⟩
  ·simp only [go_sem,h2]
  ·simp only [go_sem,ay,h2,h3]
 ·rintro k st ⟨i,rfl,hk,hs⟩;by_cases hi:i<s.length
  ·rw [ai4 hi] at hs;by_cases h7:s[i]=47
   ·right
    rw [yI h7] at hs;simp only [go_sem,ya,EF,show (i:Int)<s.length by omega,qh hi,show ((s[i]:Nat):Int)=47 by omega];refine ⟨_,_,rfl,by simp,_,_,rfl,.inl ⟨rfl,?_⟩⟩;simp only [go_sem];rw [<-hs];rfl
   ·left
    rw [yB h7] at hs;simp only [go_sem,ya,EF,show (i:Int)<s.length by omega,qh hi,show ¬((s[i]:Nat):Int)=47 by omega];refine ⟨_,k-1,rfl,by omega,i+1,?_,by omega,by omega⟩;rw [wrap64 (by omega) (by omega)];simp only [go_sem,ya,ay]<;>rfl
  ·right
   simp only [go_sem,ya,EF,show ¬(i:Int)<s.length by omega];refine ⟨_,_,rfl,by simp,_,_,rfl,.inr ⟨rfl,by simp only [go_sem,ya],?_⟩⟩;rw [y8 (by omega)] at hs;simp only [bS] at hs;omega
def JV (h:Has P L 290 Fm) {s:List Nat} {v:Nat} (hl:s.length<=18) (hv:cW s 0=some v):ae P L 290 [.str s] (aa v):=by
 have key:=cg (P:=P) (L:=L) (live:=[0,3,4]) (a:=IM)
  (I:=fun k st=>∃i a:Nat,st=⟨[(0,.str s),(3,aa a),(4,aa i)],[],0,0⟩/\i+k=s.length/\a<10^i/\cW (s.drop i) a=some v)
  (Q:=fun ex st=>∃tm ct,st=⟨tm,[],ct,0⟩/\ex= .exit 0/\af tm 3=aa v) ?_
 ·unfold ae;rw [av h];simp only [go_sem,Fm];generalize hq:D P L (.loop [0,3,4] IM) _=q;obtain ⟨ex,st,rfl,tm,ct,rfl,rfl,h2⟩:=bP hq (key s.length) ⟨0,0,by simp only [go_sem,ya,ay]<;>rfl,by omega,by simp,hv⟩
  simp only [go_sem,ay,h2]
 ·rintro k st ⟨i,a,rfl,hk,ha,hs⟩;by_cases hi:i<s.length
  ·left
   obtain ⟨h1,h2,h3⟩:=alr hi hs;have hp:10^i<=10^17:=xP (by decide) (by omega);have ao:(10:Nat)^17=100000000000000000:=by decide
   have hb:IntKind.wrap .i64 ((s[i]:Nat):Int)=((s[i]:Nat):Int):=wrap64 (by omega) (by omega)
   simp only [go_sem,ya,IM,show (i:Int)<s.length by omega,qh hi,ap5,hb,wrap64 (n:=10*(a:Int)) (by omega) (by omega),wrap64 (n:=10*(a:Int)+(s[i]:Nat)) (by omega) (by omega),wrap64 (n:=10*(a:Int)+(s[i]:Nat)-48) (by omega) (by omega)];refine ⟨_,k-1,rfl,by omega,i+1,10*a+(s[i]-48),?_,by omega,?_,h3⟩
   ·rw [wrap64 (by omega) (by omega),show 10*(a:Int)+(s[i]:Nat)-48=((10*a+(s[i]-48):Nat):Int) by omega];simp only [go_sem,ya,ay]<;>rfl
   ·rw [xg];omega
  ·right
   simp only [go_sem,ya,IM,show ¬(i:Int)<s.length by omega];refine ⟨_,_,rfl,by simp,_,_,rfl,rfl,?_⟩;rw [y8 (by omega)] at hs;simp only [cW,yc] at hs;subst hs;simp only [go_sem,ya]
def MP (a:Int):(if 0-a>a then 0-a else a)=(a.natAbs:Int):=by split<;>omega
def Mu (a b:Int):a.tdiv (xZ a b:Nat)=dt a b:=ta (uA a b)
def Mv (a b:Int):b.tdiv (xZ a b:Nat)=dC a b:=ta (um a b)
def nB (n:Int):(if n<0 then [45] else [])++aw n.natAbs=bh n:=by
 split
 ·rename_i h;rw [mR h];rfl
 ·rename_i h;obtain ⟨m,rfl⟩:∃m:Nat,n=m:=⟨n.toNat,by omega⟩;rfl
def anL {n:Int} (h:n.natAbs<18446744073709551616):(bh n).length<=21:=by
 rw [<-nB]
 have:=LY h
 split<;>simp<;>omega
def ap6 {a b:Int} (hb:0<b):oY a b=(if 1<dC a b then (bh (dt a b)++[47])++aw (dC a b).natAbs else bh (dt a b)):=by
 have h:=H7 (a:=a) hb;unfold oY;by_cases h1:dC a b=1
 ·rw [yI h1,yB (by omega)]
 ·rw [yB h1,yI (by omega)];obtain ⟨m,hm⟩:∃m:Nat,dC a b=m:=⟨(dC a b).toNat,by omega⟩;rw [hm];rfl
def avx (h:Has P L 277 C8) (Uv:Has P L 291 JD) (nO:Has P L 292 zM) {a b:Int} (ha: -4000000000000000000<=a/\a<=4000000000000000000) (hb:0<b/\b<=4000000000000000000):
  ae P L 277 [aa a,aa b] (.str (oY a b)):=by
 have hn:=aaH a b;have hd:=aaI a b;have hp:=H7 (a:=a) hb.1;have e1:=avw Uv (a:=a.natAbs) (b:=b.natAbs) (by omega) (by omega);have e2:=Uu nO (n:=(dt a b).natAbs) (by omega);have e3:=Uu nO (n:=(dC a b).natAbs) (by omega);have hg:=Ip (a:=a) hb.1;rw [show ((b.natAbs:Nat):Int)=b by omega,show wg a.natAbs b.natAbs=xZ a b from rfl] at e1;rw [show (((dC a b).natAbs:Nat):Int)=dC a b by omega] at e3;have ni:=anL (n:=dt a b) (by omega);have rZ:=LY (n:=(dt a b).natAbs) (by omega);have hl3:=LY (n:=(dC a b).natAbs) (by omega);have hT:=ap6 (a:=a) hb.1;have hS:=nB (dt a b);unfold ae at e1 e2 e3 ⊢;rw [av h];by_cases h0:dt a b<0
 ·rw [yI h0] at hS;by_cases h1:1<dC a b
  ·rw [yI h1] at hT
   simp only [go_sem,ya,C8,show ¬a< -4000000000000000000 by omega,show ¬4000000000000000000<a by omega,show ¬b< -4000000000000000000 by omega,show ¬4000000000000000000<b by omega,show ¬b<0 by omega,wrap64 (n:=0-a) (by omega) (by omega),EP,Ei,MP,e1,eU _ _ _ (show ((xZ a b:Nat):Int)≠0 by omega),Mu,Mv,wrap64 (n:=dt a b) (by omega) (by omega),wrap64 (n:=dC a b) (by omega) (by omega),h0,wrap64 (n:=0-dt a b) (by omega) (by omega),e2,gO (a:=[45]) (b:=aw (dt a b).natAbs) (by simp;omega),hS,h1,gO (a:=bh (dt a b)) (b:=[47]) (by simp;omega),e3,gO (a:=bh (dt a b)++[47]) (b:=aw (dC a b).natAbs) (by simp;omega),hT]
  ·rw [yB h1] at hT
   simp only [go_sem,ya,C8,show ¬a< -4000000000000000000 by omega,show ¬4000000000000000000<a by omega,show ¬b< -4000000000000000000 by omega,show ¬4000000000000000000<b by omega,show ¬b<0 by omega,wrap64 (n:=0-a) (by omega) (by omega),EP,Ei,MP,e1,eU _ _ _ (show ((xZ a b:Nat):Int)≠0 by omega),Mu,Mv,wrap64 (n:=dt a b) (by omega) (by omega),wrap64 (n:=dC a b) (by omega) (by omega),h0,wrap64 (n:=0-dt a b) (by omega) (by omega),e2,gO (a:=[45]) (b:=aw (dt a b).natAbs) (by simp;omega),hS,h1,hT]
 ·rw [yB h0] at hS;by_cases h1:1<dC a b
  ·rw [yI h1] at hT
   simp only [go_sem,ya,C8,show ¬a< -4000000000000000000 by omega,show ¬4000000000000000000<a by omega,show ¬b< -4000000000000000000 by omega,show ¬4000000000000000000<b by omega,show ¬b<0 by omega,wrap64 (n:=0-a) (by omega) (by omega),EP,Ei,MP,e1,eU _ _ _ (show ((xZ a b:Nat):Int)≠0 by omega),Mu,Mv,wrap64 (n:=dt a b) (by omega) (by omega),wrap64 (n:=dC a b) (by omega) (by omega),h0,wrap64 (n:=0-dt a b) (by omega) (by omega),e2,gO (a:=[]) (b:=aw (dt a b).natAbs) (by simp;omega),hS,h1,gO (a:=bh (dt a b)) (b:=[47]) (by simp;omega),e3,gO (a:=bh (dt a b)++[47]) (b:=aw (dC a b).natAbs) (by simp;omega),hT]
  ·rw [yB h1] at hT
   simp only [go_sem,ya,C8,show ¬a< -4000000000000000000 by omega,show ¬4000000000000000000<a by omega,show ¬b< -4000000000000000000 by omega,show ¬4000000000000000000<b by omega,show ¬b<0 by omega,wrap64 (n:=0-a) (by omega) (by omega),EP,Ei,MP,e1,eU _ _ _ (show ((xZ a b:Nat):Int)≠0 by omega),Mu,Mv,wrap64 (n:=dt a b) (by omega) (by omega),wrap64 (n:=dC a b) (by omega) (by omega),h0,wrap64 (n:=0-dt a b) (by omega) (by omega),e2,gO (a:=[]) (b:=aw (dt a b).natAbs) (by simp;omega),hS,h1,hT]
end
end
section
open Go (IntKind)
def TT (n:Int) (d:Nat):List Nat:=bh n++(if d=1 then [] else 47::aw d)
def ap7 {a b:Int} (hb:0<b):oY a b=TT (dt a b) (dC a b).toNat:=by
 have h:=H7 (a:=a) hb;unfold oY TT;by_cases h1:dC a b=1
 ·grind
 ·rw [yB h1,yB (by omega)];obtain ⟨m,hm⟩:∃m:Nat,dC a b=m:=⟨(dC a b).toNat,by omega⟩;rw [hm,List.append_assoc];rfl
def ri (n:Nat):0<(aw n).length:=by
 by_cases h:n<10
 ·rw [oB h];simp
 ·rw [p0 h];simp
def Iq:∀(n:Nat),n<10^(aw n).length:=by
 intro n
 induction n using vL with
 | _ n ih=>
  by_cases h:n<10
  ·rw [oB h];simpa using h
  ·have:=ih (n/10) (by omega)
   rw [p0 h,yQ,List.length_singleton,xg];omega
def aaK {n:Nat} (h:(aw n).length<=9):n<1000000000:=
 Nat.lt_of_lt_of_le (Iq n) (by simpa using xP (show 0<10 by decide) h)
def Ef (n:Nat):∃b r,aw n=b::r/\48<=b/\b<=57:=by
 cases hq:aw n with
 | nil=>have:=ri n;rw [hq] at this;simp at this
 | cons b r=>
  have:=HR n
  rw [hq] at this;simp only [dD,yg] at this
  simp_all
section
variable {P:aG} {L:Lib}
def De (s:List Nat):mX 0 (.str (45::s))=some (.int .u8 45):=rfl
def SN (q:Bool) (n:Int) (d:Nat):AV:=if q=true then .ap [aa n,aa d,.bool true] else .ap [aa 0,aa 0,.bool false]
def zA (d:Nat):List Nat:=if d=1 then [] else 47::aw d
def ajQ (d:Nat):bS (zA d)=0:=by unfold zA;split<;>rfl
def avy (h:Has P L 276 oV) (zR:Has P L 272 JA) (zS:Has P L 290 Fm) {n:Int} {d:Nat} (hl:(TT n d).length<=20000000000):
  ∃q:Bool,ae P L 276 [.str (TT n d)] (SN q n d)/\(q=true->n.natAbs<1000000000/\d<1000000000):=by
 generalize hs:TT n d=s at hl;by_cases mP:20<s.length
 ·refine ⟨false,?_,fun h=>by cases h⟩;unfold ae;rw [av h];simp only [go_sem,ya,oV,show (20:Int)<s.length by omega];rfl
 ·have hu:∃u,u=aw n.natAbs++zA d:=⟨_,rfl⟩;obtain ⟨u,hu⟩:=hu;have hK:∃K,K=(aw n.natAbs).length:=⟨_,rfl⟩;obtain ⟨K,hK⟩:=hK;have Po:bS u=K:=by rw [hu,LD _ (HR _),ajQ,hK];rfl
  have hlen:u.length=K+(zA d).length:=by rw [hu,hK,yQ]
  have hp:=ri n.natAbs;obtain ⟨b,r,hb,ff,lG⟩:=Ef n.natAbs;have DF:(n<0/\s=45::u)\/(¬n<0/\s=u):=by
   by_cases h0:n<0
   ·left;refine ⟨h0,?_⟩;rw [<-hs,hu,TT,mR h0];rfl
   ·right;refine ⟨h0,?_⟩;rw [<-hs,hu,TT,<-nB,yB h0];rfl
  have hul:u.length<=s.length:=by rcases DF with ⟨_,e⟩ | ⟨_,e⟩<;>rw [e]<;>simp
  have BX:0<u.length:=by omega
  have qP:u[0]=b:=by
   have:u=b::(r++zA d):=by rw [hu,hb];rfl
   simp [this]
  have e1:=Dd zR (s:=u) (by omega);rw [Po] at e1;have eh:iC u (some 0) (some K)=some (.str (aw n.natAbs)):=by
   rw [lK (by omega) (by omega),List.drop_zero,hu,hK,List.take_left]
  unfold ae at e1;by_cases h9:9<K
  ·refine ⟨false,?_,fun h=>by cases h⟩;unfold ae;rw [av h];rcases DF with ⟨h0,e⟩ | ⟨h0,e⟩
   ·have mP:¬20<u.length+1:=by rw [e] at mP;exact mP
    have lD:iC (45::u) (some 1) (some (u.length+1))=some (.str u):=by rw [lK (s:=45::u) (l:=1) (h:=u.length+1) (by omega) (by simp)];simp
    rw [e];simp only [go_sem,ya,oV,show ¬(20:Int)<((u.length+1:Nat):Int) by omega,show (0:Int)<((u.length+1:Nat):Int) by omega,De,eV,fo,dQ,lD,e1,show (9:Int)<(K:Int) by omega];rfl
   ·rw [e];simp only [go_sem,ya,oV,show ¬(20:Int)<(u.length:Nat) by omega,show (0:Int)<(u.length:Nat) by omega,qh BX,qP,show ¬((b:Nat):Int)=45 by omega,e1,show (9:Int)<(K:Int) by omega];rfl
  ·by_cases iT:10<(zA d).length
   ·refine ⟨false,?_,fun h=>by cases h⟩;unfold ae;rw [av h];rcases DF with ⟨h0,e⟩ | ⟨h0,e⟩
    ·have mP:¬20<u.length+1:=by rw [e] at mP;exact mP
     have lD:iC (45::u) (some 1) (some (u.length+1))=some (.str u):=by rw [lK (s:=45::u) (l:=1) (h:=u.length+1) (by omega) (by simp)];simp
     rw [e]
     simp only [go_sem,ya,oV,show ¬(20:Int)<((u.length+1:Nat):Int) by omega,show (0:Int)<((u.length+1:Nat):Int) by omega,De,eV,fo,dQ,lD,e1,show ¬(9:Int)<(K:Int) by omega,wrap64 (n:=(u.length:Int)-(K:Int)) (by omega) (by omega),show (10:Int)<(u.length:Int)-(K:Int) by omega];rfl
    ·rw [e]
     simp only [go_sem,ya,oV,show ¬(20:Int)<(u.length:Nat) by omega,show (0:Int)<(u.length:Nat) by omega,qh BX,qP,show ¬((b:Nat):Int)=45 by omega,e1,show ¬(9:Int)<(K:Int) by omega,wrap64 (n:=(u.length:Int)-(K:Int)) (by omega) (by omega),show (10:Int)<(u.length:Int)-(K:Int) by omega];rfl
   ·have e2:=JV zS (s:=aw n.natAbs) (by omega) (Cn n.natAbs);unfold ae at e2;have hm:=aaK (n:=n.natAbs) (by omega);by_cases hd:d=1
    ·subst hd;have lY:zA 1=[]:=rfl;refine ⟨true,?_,fun _=>⟨hm,by decide⟩⟩;rw [lY] at hlen;simp only [List.length_nil,Nat.add_zero] at hlen;unfold ae;rw [av h];rcases DF with ⟨h0,e⟩ | ⟨h0,e⟩
     ·have mP:¬20<u.length+1:=by rw [e] at mP;exact mP
      have lD:iC (45::u) (some 1) (some (u.length+1))=some (.str u):=by rw [lK (s:=45::u) (l:=1) (h:=u.length+1) (by omega) (by simp)];simp
      rw [e]
      simp only [go_sem,ya,oV,show ¬(20:Int)<((u.length+1:Nat):Int) by omega,show (0:Int)<((u.length+1:Nat):Int) by omega,De,eV,fo,dQ,lD,e1,show ¬(9:Int)<(K:Int) by omega,wrap64 (n:=(u.length:Int)-(K:Int)) (by omega) (by omega),show ¬(10:Int)<(u.length:Int)-(K:Int) by omega,eh,e2,show ¬(K:Int)<(u.length:Int) by omega,wrap64 (n:=0-(n.natAbs:Int)) (by omega) (by omega)];rw [show 0-(n.natAbs:Int)=n by omega];rfl
     ·rw [e]
      simp only [go_sem,ya,oV,show ¬(20:Int)<(u.length:Nat) by omega,show (0:Int)<(u.length:Nat) by omega,qh BX,qP,show ¬((b:Nat):Int)=45 by omega,eV,fo,dQ,e1,show ¬(9:Int)<(K:Int) by omega,wrap64 (n:=(u.length:Int)-(K:Int)) (by omega) (by omega),show ¬(10:Int)<(u.length:Int)-(K:Int) by omega,eh,e2,show ¬(K:Int)<(u.length:Int) by omega];rw [show (n.natAbs:Int)=n by omega];rfl
    ·have lY:zA d=47::aw d:=yB hd;have KX:(zA d).length=(aw d).length+1:=by rw [lY];rfl
     have hpd:=ri d;have hd9:=aaK (n:=d) (by omega);have e3:=JV zS (s:=aw d) (by omega) (Cn d);unfold ae at e3;have pG:iC u (some (K+1)) (some u.length)=some (.str (aw d)):=by
      rw [lK (by omega) (yC _),wo,hu,lY,hK,show (aw n.natAbs).length+1=(aw n.natAbs++[47]).length by simp,show aw n.natAbs++47::aw d=(aw n.natAbs++[47])++aw d by simp,List.drop_left]
     refine ⟨true,?_,fun _=>⟨hm,hd9⟩⟩;unfold ae;rw [av h];rcases DF with ⟨h0,e⟩ | ⟨h0,e⟩
     ·have mP:¬20<u.length+1:=by rw [e] at mP;exact mP
      have lD:iC (45::u) (some 1) (some (u.length+1))=some (.str u):=by rw [lK (s:=45::u) (l:=1) (h:=u.length+1) (by omega) (by simp)];simp
      rw [e]
      simp only [go_sem,ya,oV,show ¬(20:Int)<((u.length+1:Nat):Int) by omega,show (0:Int)<((u.length+1:Nat):Int) by omega,De,eV,fo,dQ,lD,e1,show ¬(9:Int)<(K:Int) by omega,wrap64 (n:=(u.length:Int)-(K:Int)) (by omega) (by omega),show ¬(10:Int)<(u.length:Int)-(K:Int) by omega,eh,e2,show (K:Int)<(u.length:Int) by omega,wrapN (n:=K+1) (by omega),show (K:Int)+1=((K+1:Nat):Int) from rfl,pG,e3,wrap64 (n:=0-(n.natAbs:Int)) (by omega) (by omega)];rw [show 0-(n.natAbs:Int)=n by omega];rfl
     ·rw [e]
      simp only [go_sem,ya,oV,show ¬(20:Int)<(u.length:Nat) by omega,show (0:Int)<(u.length:Nat) by omega,qh BX,qP,show ¬((b:Nat):Int)=45 by omega,eV,fo,dQ,e1,show ¬(9:Int)<(K:Int) by omega,wrap64 (n:=(u.length:Int)-(K:Int)) (by omega) (by omega),show ¬(10:Int)<(u.length:Int)-(K:Int) by omega,eh,e2,show (K:Int)<(u.length:Int) by omega,wrapN (n:=K+1) (by omega),show (K:Int)+1=((K+1:Nat):Int) from rfl,pG,e3];rw [show (n.natAbs:Int)=n by omega];rfl
end
end
section
open Go (IntKind)
section
variable {P:aG} {L:Lib}
def Uw (h:Has P L 302 rN) {v:AV} {l:List Int} (hv:br v l) (i:Nat):ae P L 302 [v,aa i] (aa (l.getD i 0)):=by
 unfold ae;rw [av h];by_cases hi:i<l.length
 ·simp only [go_sem,ya,rN,hv.len,show (i:Int)<l.length by omega,hv.bk hi];simp [y9,xz hi]
 ·simp only [go_sem,ya,rN,hv.len,show ¬(i:Int)<l.length by omega];simp [y9,List.getElem?_eq_none (Nat.le_of_not_lt hi)]
def abT {hp:Hp} {e:Bool} {n:Nat} {cs:List AV} {tm:Env} {h:Nat} {x:X} (hx:cP tm n (some x)=some h) (hh:h<=n):
  fL hp (.sl 1) (.aE e n cs) tm none (some x)=some (.aE (e&&Nat.beq h n) h (cs.take h)):=by
 simp only [fL,hx,fo];simp [yv hh,slice];rw [show yG 0 h=true from yv (yal _)];rfl
def Bz (h:Has P L 300 lT) {v:AV} {l:List Int} (hv:br v l) (hl:l.length<=20000000000):∃r,ae P L 300 [v] r/\br r (et l)/\shut r=r:=by
 rcases hv with ⟨rfl,h0⟩ | ⟨e,rfl⟩
 ·have:l=[]:=by simpa using h0
  subst this;refine ⟨.ab,?_,pZ,rfl⟩;unfold ae;rw [av h];simp only [go_sem,ya,lT,EN,CH,ay,show ¬(0:Int)<0 by decide]
 ·have key:=cg (P:=P) (L:=L) (live:=[0]) (a:=CH)
   (I:=fun k st=>∃(i:Nat) (e:Bool),st=⟨[(0,.aE e i ((l.take i).map aa))],[],0,0⟩/\i<=l.length/\i=k/\et (l.take i)=et l)
   (Q:=fun ex st=>∃tm ct,st=⟨tm,[],ct,0⟩/\ex= .exit 0/\∃i e,af tm 0= .aE e i ((l.take i).map aa)/\i<=l.length/\l.take i=et l) ?_
  ·have hlen:(l.map aa).length=l.length:=by simp
   rw [hlen];have je:∃i e',ae P L 300 [.aE e l.length (l.map aa)] (.aE e' i ((l.take i).map aa))/\i<=l.length/\l.take i=et l:=by
    unfold ae;rw [av h];simp only [go_sem,lT];generalize hq:D P L (.loop [0] CH) _=q;obtain ⟨ex,st,rfl,tm,ct,rfl,rfl,i,e',h2,h3,h4⟩:=bP hq (key l.length) ⟨l.length,e,by simp only [go_sem,ya,ay,wo],yC _,rfl,by rw [wo]⟩;simp only [go_sem,ay,h2];exact ⟨i,e',rfl,h3,h4⟩
   obtain ⟨i,e',g1,g2,g3⟩:=je;refine ⟨_,g1,?_,rfl⟩;rw [<-g3]
   have:=fm e' (l.take i)
   rwa [yT,wu g2] at this
  ·rintro k st ⟨i,e,rfl,hi,rfl,ht⟩
   cases i with
   | zero=>
    right
    simp only [go_sem,ya,CH,show ¬(0:Int)<((0:Nat):Int) by omega];exact ⟨_,_,rfl,by simp,_,_,rfl,rfl,0,e,by simp only [go_sem,ya],yal _,by simpa [et] using ht⟩
   | succ i=>
    have KY:i<l.length:=by omega
    have eF:l.take (i+1)=l.take i++[l[i]]:=vj KY;have jm:xm i ((l.take (i+1)).map aa)=[AV.int .i64 l[i]]:=by
     rw [eF,xC,List.drop_left' (by simp;omega)];rfl
    have oh:jx 1 i (.aE e (i+1) ((l.take (i+1)).map aa))=some (.aI [AV.int .i64 l[i]]):=by
     rw [Se e _ (by omega),yh,jm]
    by_cases h0:l[i]=0
    ·left
     have lj:∀tm x,cP tm (i+1) (some x)=some i->fL [] (.sl 1) (.aE e (i+1) ((l.take (i+1)).map aa)) tm none (some x)=some (.aE (e&&Nat.beq i (i+1)) i ((l.take i).map aa)):=fun tm x hx=>by
      rw [abT hx (by omega),<-List.map_take,List.take_take,wu (by omega)]
     simp only [go_sem,ya,CH,show (0:Int)<((i+1:Nat):Int) by omega,show ((i+1:Nat):Int)-1=(i:Int) by omega,wrapN (n:=i) (by omega),oh,h0,lj,dQ];refine ⟨_,i,rfl,by omega,i,_,by simp only [go_sem,ay]<;>rfl,by omega,rfl,?_⟩
     rw [<-ht,eF,h0,HB]
    ·right
     simp only [go_sem,ya,CH,show (0:Int)<((i+1:Nat):Int) by omega,show ((i+1:Nat):Int)-1=(i:Int) by omega,wrapN (n:=i) (by omega),oh,h0];refine ⟨_,_,rfl,by simp,_,_,rfl,rfl,i+1,e,by simp only [go_sem,ya],by omega,?_⟩;rw [<-ht,eF,LW h0]
end
end
end VE
