import Derived.Test.YtahpdocnbjccfaaGreatDoorTba
import Derived.Test.YtahpdocnbjccfaaGreatDoorTay
import Derived.Test.YtahpdocnbjccfaaGreatDoorTao
set_option linter.all false
set_option maxRecDepth 100000
open Nat (reduceAdd reduceEqDiff reduceLT reduceLeDiff)
section
namespace VE
open Go (IntKind)
section
variable {P:zP} {L:Lib}
theorem s2 (h:Has P L 2 c2) {v:AV} {s:List (List Int)} (hv:IsS v s) {n:Nat}:zn P L 2 [v,zf n] (.bool (zuZ n s)):=by
 have key:=zM (P:=P) (L:=L) (live:=[0,5]) (a:=zwn)
  (I:=fun k st=>∃i:Nat,st=⟨[(0,v),(5,zf i)],[],0,0⟩∧i+k=s.length∧s.length≤18∧zcb (s.drop i)=zcb s)
  (Q:=fun ex st=>∃tm ct,st=⟨tm,[],ct,0⟩∧((ex= .ret∧zd tm 4= .bool (zcb s))∨(ex= .exit 0∧zcb s=true))) ?_
 ·unfold zn;rw [zc h]
  unfold zuZ
  by_cases h1:n<s.length
  ·by_cases h2:s.length≤16
   ·simp only [go_sem,reduceEqDiff,c2,hv.len,show (n:Int)<s.length by omega,show (s.length:Int)≤16 by omega]
    rw [if_pos (by omega)]
   ·by_cases h3:18<s.length
    ·simp only [go_sem,reduceEqDiff,c2,hv.len,show (n:Int)<s.length by omega,show ¬(s.length:Int)≤16 by omega,show (18:Int)<s.length by omega]
     rw [if_pos (by omega)]
    ·simp only [go_sem,reduceEqDiff,c2,hv.len,show (n:Int)<s.length by omega,show ¬(s.length:Int)≤16 by omega,show ¬(18:Int)<s.length by omega]
     rw [if_neg (by omega)]
     generalize hq:D P L (.loop [0,5] zwn) _=q
     obtain ⟨ex,st,rfl,tm,ct,rfl,h2⟩:=zW hq (key s.length) ⟨0,by simp only [go_sem,reduceEqDiff,za,zb hv.pu,ze _ hv.pu]<;>rfl,by omega,by omega,rfl⟩
     rcases h2 with ⟨rfl,h2⟩ | ⟨rfl,h2⟩
     ·simp only [go_sem,h2]
     ·rw [h2];simp only [go_sem]
  ·by_cases h3:18<s.length
   ·simp only [go_sem,reduceEqDiff,c2,hv.len,show ¬(n:Int)<s.length by omega,show (18:Int)<s.length by omega]
    rw [if_pos (by omega)]
   ·simp only [go_sem,reduceEqDiff,c2,hv.len,show ¬(n:Int)<s.length by omega,show ¬(18:Int)<s.length by omega]
    rw [if_neg (by omega)]
    generalize hq:D P L (.loop [0,5] zwn) _=q
    obtain ⟨ex,st,rfl,tm,ct,rfl,h2⟩:=zW hq (key s.length) ⟨0,by simp only [go_sem,reduceEqDiff,za,zb hv.pu,ze _ hv.pu]<;>rfl,by omega,by omega,rfl⟩
    rcases h2 with ⟨rfl,h2⟩ | ⟨rfl,h2⟩
    ·simp only [go_sem,h2]
    ·rw [h2];simp only [go_sem]
 ·rintro k st ⟨i,rfl,hk,hl,hf⟩
  simp only [go_sem,reduceEqDiff,zwn,hv.len]
  by_cases hi:i<s.length
  ·have hi':(i:Int)<s.length:=by omega
   rw [zld hi] at hf
   obtain ⟨r,rest,hr1,hr2⟩:=hv.ixa hi
   by_cases h1:18<s[i].length
   ·right
    rw [if_pos h1] at hf
    simp only [go_sem,reduceEqDiff,hi',hr2,hr1.len,show (18:Int)<s[i].length by omega]
    refine ⟨_,_,rfl,by simp,_,_,rfl,.inl ⟨rfl,?_⟩⟩
    simp only [go_sem,←hf]
   ·left
    rw [if_neg h1] at hf
    simp only [go_sem,reduceEqDiff,hi',hr2,hr1.len,show ¬(18:Int)<s[i].length by omega]
    refine ⟨_,k-1,rfl,by omega,i+1,?_,by omega,hl,hf⟩
    rw [zh (by omega) (by omega)]
    simp only [go_sem,reduceEqDiff,za,zb hv.pu,ze _ hv.pu]<;>rfl
  ·right
   simp only [go_sem,show ¬(i:Int)<s.length by omega]
   refine ⟨_,_,rfl,by simp,_,_,rfl,.inr ⟨rfl,?_⟩⟩
   rw [←hf,List.drop_eq_nil_of_le (by omega)]
   rfl
theorem s4 (h:Sq P L) {v:AV} {s:List (List Int)} (hv:IsS v s) (hl:s.length≤1000000) (hr:∀i (hi:i<s.length),s[i].length≤1000000):zn P L 4 [v] (zf (zf3 s)):=by
 have hc:=s32 h hv hl hr (m:=1000) (by decide) (by decide)
 have hf:∀a b c:Int,zn P L 33 [.vsl true 3 [.int .i64 a,.int .i64 b,.int .i64 c]] (zf (zG [a,b,c])):=fun a b c=>s33 h.h33 (zaY true [a,b,c]) (by simp)
 unfold zn at hc hf ⊢;rw [zc h.h4]
 simp only [go_sem,reduceEqDiff,reduceAdd,reduceLT,reduceLeDiff,Nat.mul_one,c4,hv.len,hv.frz,hc,s31 h.h31,hf]
 congr 2
 unfold zf3
 by_cases h1:s.length=0
 ·simp [h1,zG]
 ·by_cases h2:16<s.length
  ·simp [h1,h2,zG,show (16:Int)<s.length by omega]
  ·simp only [h1,h2,zG,show ¬(16:Int)<s.length by omega,show ¬(s.length:Int)=0 by omega,decide_false,Bool.false_eq_true,if_false,if_true]
   split<;>simp_all
end
end VE
end
section
namespace VE
open Go (IntKind)
section
variable {P:zP} {L:Lib}
theorem s3 (h:Has P L 3 c3) (h30:Has P L 30 c30) {v:AV} {s:List (List Int)} (hv:IsS v s):zn P L 3 [v] (zf (zf3 s)):=by
 have inner:∀{i:Nat} (hi:i<s.length),s[i].length=s.length→s.length≤16→∀k st,(∃j:Nat,zE [0,3,4] st=⟨[(0,v),(3,zf i),(4,zf j)],[],0,0⟩∧j+k=s.length∧zbe (-1000) 1000 (s[i].drop j)=zbe (-1000) 1000 s[i])→
   ∃ex st',D P L (.loop [0,3,4] zzh) st=some (ex,st')∧∃tm ct,st'=⟨tm,[],ct,0⟩∧((ex= .ret∧zd tm 2=zf 3∧zbe (-1000) 1000 s[i]=true)∨(ex= .exit 2∧zd tm 0=v∧zd tm 3=zf i∧zbe (-1000) 1000 s[i]=false)):=by
  intro i hi hr hl
  refine zM (I:=fun k st=>∃j:Nat,st=⟨[(0,v),(3,zf i),(4,zf j)],[],0,0⟩∧j+k=s.length∧zbe (-1000) 1000 (s[i].drop j)=zbe (-1000) 1000 s[i])
   (Q:=fun ex st=>∃tm ct,st=⟨tm,[],ct,0⟩∧((ex= .ret∧zd tm 2=zf 3∧zbe (-1000) 1000 s[i]=true)∨(ex= .exit 2∧zd tm 0=v∧zd tm 3=zf i∧zbe (-1000) 1000 s[i]=false))) ?_
  rintro k st ⟨j,rfl,hk,hf⟩
  simp only [go_sem,reduceEqDiff,zzh,hv.len]
  obtain ⟨r,rest,hr1,hr2⟩:=hv.ixa hi
  by_cases hj:j<s.length
  ·have hj':(j:Int)<s.length:=by omega
   have hjr:j<s[i].length:=by omega
   rw [zil hjr] at hf
   by_cases h1:s[i][j]< -1000∨1000<s[i][j]
   ·right
    rw [if_pos h1] at hf
    simp only [go_sem,reduceEqDiff,hj',hr2,hr1.ixa hjr,s30 h30,h1,if_true,Int.reduceEq]
    refine ⟨_,_,rfl,by simp,_,_,rfl,.inl ⟨rfl,?_,hf.symm⟩⟩
    simp only [go_sem]
   ·left
    rw [if_neg h1] at hf
    simp only [go_sem,reduceEqDiff,hj',hr2,hr1.ixa hjr,s30 h30,h1,if_false]
    refine ⟨_,k-1,rfl,by omega,j+1,?_,by omega,hf⟩
    rw [zh (by omega) (by omega)]
    simp only [go_sem,reduceEqDiff,za,zb hv.pu,ze _ hv.pu]<;>rfl
  ·right
   simp only [go_sem,show ¬(j:Int)<s.length by omega]
   refine ⟨_,_,rfl,by simp,_,_,rfl,.inr ⟨rfl,?_,?_,?_⟩⟩
   ·simp only [go_sem,reduceEqDiff]
   ·simp only [go_sem,reduceEqDiff]
   ·rw [←hf,List.drop_eq_nil_of_le (by omega)];rfl
 have key:=zM (P:=P) (L:=L) (live:=[0,3]) (a:=zAf)
  (I:=fun k st=>∃i:Nat,st=⟨[(0,v),(3,zf i)],[],0,0⟩∧i+k=s.length∧s.length≤16∧zcM s.length (-1000) 1000 (s.drop i)=zcM s.length (-1000) 1000 s)
  (Q:=fun ex st=>∃tm ct,st=⟨tm,[],ct,0⟩∧((ex= .ret∧zd tm 2=zf (zcM s.length (-1000) 1000 s))∨(ex= .exit 0∧zcM s.length (-1000) 1000 s=0))) ?_
 ·unfold zn;rw [zc h]
  unfold zf3
  by_cases h1:s.length=0
  ·simp only [go_sem,reduceEqDiff,c3,hv.len,show (s.length:Int)=0 by omega];rw [if_pos h1]
  ·rw [if_neg h1]
   by_cases h2:16<s.length
   ·simp only [go_sem,reduceEqDiff,c3,hv.len,show ¬(s.length:Int)=0 by omega,show (16:Int)<s.length by omega];rw [if_pos h2]
   ·simp only [go_sem,reduceEqDiff,c3,hv.len,show ¬(s.length:Int)=0 by omega,show ¬(16:Int)<s.length by omega]
    rw [if_neg h2]
    generalize hq:D P L (.loop [0,3] zAf) _=q
    obtain ⟨ex,st,rfl,tm,ct,rfl,h2⟩:=zW hq (key s.length) ⟨0,by simp only [go_sem,reduceEqDiff,za,zb hv.pu,ze _ hv.pu]<;>rfl,by omega,by omega,rfl⟩
    rcases h2 with ⟨rfl,h2⟩ | ⟨rfl,h2⟩
    ·simp only [go_sem,h2]
    ·rw [h2];simp only [go_sem]
 ·rintro k st ⟨i,rfl,hk,hl,hf⟩
  simp only [go_sem,reduceEqDiff,zAf,hv.len]
  by_cases hi:i<s.length
  ·have hi':(i:Int)<s.length:=by omega
   rw [zgV hi] at hf
   obtain ⟨r,rest,hr1,hr2⟩:=hv.ixa hi
   by_cases h1:s[i].length=s.length
   ·simp only [h1,ne_eq,not_true_eq_false,if_false] at hf
    simp only [go_sem,reduceEqDiff,hi',hr2,hr1.len,hv.len,show (s[i].length:Int)=s.length by omega]
    generalize hq:D P L (.loop [0,3,4] zzh) _=q
    obtain ⟨ex,st,rfl,tm,ct,rfl,h2⟩:=zW hq (inner hi h1 hl s.length) ⟨0,by simp only [go_sem,reduceEqDiff,za,zb hv.pu,ze _ hv.pu]<;>rfl,by omega,rfl⟩
    rcases h2 with ⟨rfl,h2,h3⟩ | ⟨rfl,h2,h3,h4⟩
    ·right
     rw [if_pos h3] at hf
     exact ⟨_,_,rfl,by simp,_,_,rfl,.inl ⟨rfl,by rw [h2,←hf]⟩⟩
    ·left
     rw [if_neg (by simp [h4])] at hf
     simp only [go_sem,reduceEqDiff,za,h2,h3,zb hv.pu,ze _ hv.pu]
     refine ⟨_,k-1,rfl,by omega,i+1,?_,by omega,hl,hf⟩
     rw [zh (by omega) (by omega)]
     simp only [go_sem,reduceEqDiff,za,zb hv.pu,ze _ hv.pu]<;>rfl
   ·right
    simp only [h1,ne_eq,not_false_eq_true,if_true] at hf
    simp only [go_sem,reduceEqDiff,hi',hr2,hr1.len,hv.len,show ¬(s[i].length:Int)=s.length by omega]
    refine ⟨_,_,rfl,by simp,_,_,rfl,.inl ⟨rfl,?_⟩⟩
    simp only [go_sem,←hf]
  ·right
   simp only [go_sem,show ¬(i:Int)<s.length by omega]
   refine ⟨_,_,rfl,by simp,_,_,rfl,.inr ⟨rfl,?_⟩⟩
   rw [←hf,List.drop_eq_nil_of_le (by omega)]
   rfl
theorem s10 (h:Has P L 10 c10) (h30:Has P L 30 c30) {v:AV} {s:List (List Int)} (hv:IsS v s):zn P L 10 [v] (zf (zmr s)):=by
 have inner:∀{i:Nat} (hi:i<s.length),s[i].length=s.length→s.length≤16→∀k st,(∃j:Nat,zE [0,3,4] st=⟨[(0,v),(3,zf i),(4,zf j)],[],0,0⟩∧j+k=s.length∧zbe (-100) 100 (s[i].drop j)=zbe (-100) 100 s[i])→
   ∃ex st',D P L (.loop [0,3,4] zrG) st=some (ex,st')∧∃tm ct,st'=⟨tm,[],ct,0⟩∧((ex= .ret∧zd tm 2=zf 3∧zbe (-100) 100 s[i]=true)∨(ex= .exit 2∧zd tm 0=v∧zd tm 3=zf i∧zbe (-100) 100 s[i]=false)):=by
  intro i hi hr hl
  refine zM (I:=fun k st=>∃j:Nat,st=⟨[(0,v),(3,zf i),(4,zf j)],[],0,0⟩∧j+k=s.length∧zbe (-100) 100 (s[i].drop j)=zbe (-100) 100 s[i])
   (Q:=fun ex st=>∃tm ct,st=⟨tm,[],ct,0⟩∧((ex= .ret∧zd tm 2=zf 3∧zbe (-100) 100 s[i]=true)∨(ex= .exit 2∧zd tm 0=v∧zd tm 3=zf i∧zbe (-100) 100 s[i]=false))) ?_
  rintro k st ⟨j,rfl,hk,hf⟩
  simp only [go_sem,reduceEqDiff,zrG,hv.len]
  obtain ⟨r,rest,hr1,hr2⟩:=hv.ixa hi
  by_cases hj:j<s.length
  ·have hj':(j:Int)<s.length:=by omega
   have hjr:j<s[i].length:=by omega
   rw [zil hjr] at hf
   by_cases h1:s[i][j]< -100∨100<s[i][j]
   ·right
    rw [if_pos h1] at hf
    simp only [go_sem,reduceEqDiff,hj',hr2,hr1.ixa hjr,s30 h30,h1,if_true,Int.reduceEq]
    refine ⟨_,_,rfl,by simp,_,_,rfl,.inl ⟨rfl,?_,hf.symm⟩⟩
    simp only [go_sem]
   ·left
    rw [if_neg h1] at hf
    simp only [go_sem,reduceEqDiff,hj',hr2,hr1.ixa hjr,s30 h30,h1,if_false]
    refine ⟨_,k-1,rfl,by omega,j+1,?_,by omega,hf⟩
    rw [zh (by omega) (by omega)]
    simp only [go_sem,reduceEqDiff,za,zb hv.pu,ze _ hv.pu]<;>rfl
  ·right
   simp only [go_sem,show ¬(j:Int)<s.length by omega]
   refine ⟨_,_,rfl,by simp,_,_,rfl,.inr ⟨rfl,?_,?_,?_⟩⟩
   ·simp only [go_sem,reduceEqDiff]
   ·simp only [go_sem,reduceEqDiff]
   ·rw [←hf,List.drop_eq_nil_of_le (by omega)];rfl
 have key:=zM (P:=P) (L:=L) (live:=[0,3]) (a:=zqO)
  (I:=fun k st=>∃i:Nat,st=⟨[(0,v),(3,zf i)],[],0,0⟩∧i+k=s.length∧s.length≤16∧zcM s.length (-100) 100 (s.drop i)=zcM s.length (-100) 100 s)
  (Q:=fun ex st=>∃tm ct,st=⟨tm,[],ct,0⟩∧((ex= .ret∧zd tm 2=zf (zcM s.length (-100) 100 s))∨(ex= .exit 0∧zcM s.length (-100) 100 s=0))) ?_
 ·unfold zn;rw [zc h]
  unfold zmr
  by_cases h1:s.length=0
  ·simp only [go_sem,reduceEqDiff,c10,hv.len,show (s.length:Int)=0 by omega];rw [if_pos h1]
  ·rw [if_neg h1]
   by_cases h2:5<s.length
   ·simp only [go_sem,reduceEqDiff,c10,hv.len,show ¬(s.length:Int)=0 by omega,show (5:Int)<s.length by omega];rw [if_pos h2]
   ·rw [if_neg h2]
    have hm:(s.length:Int).tmod 2=(s.length%2:Nat):=by rw [Int.tmod_eq_emod_of_nonneg (by omega)];rfl
    have hd:(2:Int)≠0:=by decide
    by_cases h3:s.length%2=0
    ·simp only [go_sem,reduceEqDiff,c10,hv.len,show ¬(s.length:Int)=0 by omega,show ¬(5:Int)<s.length by omega,zaC _ _ _ hd,hm,show ((s.length%2:Nat):Int)=0 by omega];rw [if_pos h3]
    ·simp only [go_sem,reduceEqDiff,c10,hv.len,show ¬(s.length:Int)=0 by omega,show ¬(5:Int)<s.length by omega,zaC _ _ _ hd,hm,show ¬((s.length%2:Nat):Int)=0 by omega]
     rw [if_neg h3]
     generalize hq:D P L (.loop [0,3] zqO) _=q
     obtain ⟨ex,st,rfl,tm,ct,rfl,h2⟩:=zW hq (key s.length) ⟨0,by simp only [go_sem,reduceEqDiff,za,zb hv.pu,ze _ hv.pu]<;>rfl,by omega,by omega,rfl⟩
     rcases h2 with ⟨rfl,h2⟩ | ⟨rfl,h2⟩
     ·simp only [go_sem,h2]
     ·rw [h2];simp only [go_sem]
 ·rintro k st ⟨i,rfl,hk,hl,hf⟩
  simp only [go_sem,reduceEqDiff,zqO,hv.len]
  by_cases hi:i<s.length
  ·have hi':(i:Int)<s.length:=by omega
   rw [zgV hi] at hf
   obtain ⟨r,rest,hr1,hr2⟩:=hv.ixa hi
   by_cases h1:s[i].length=s.length
   ·simp only [h1,ne_eq,not_true_eq_false,if_false] at hf
    simp only [go_sem,reduceEqDiff,hi',hr2,hr1.len,hv.len,show (s[i].length:Int)=s.length by omega]
    generalize hq:D P L (.loop [0,3,4] zrG) _=q
    obtain ⟨ex,st,rfl,tm,ct,rfl,h2⟩:=zW hq (inner hi h1 hl s.length) ⟨0,by simp only [go_sem,reduceEqDiff,za,zb hv.pu,ze _ hv.pu]<;>rfl,by omega,rfl⟩
    rcases h2 with ⟨rfl,h2,h3⟩ | ⟨rfl,h2,h3,h4⟩
    ·right
     rw [if_pos h3] at hf
     exact ⟨_,_,rfl,by simp,_,_,rfl,.inl ⟨rfl,by rw [h2,←hf]⟩⟩
    ·left
     rw [if_neg (by simp [h4])] at hf
     simp only [go_sem,reduceEqDiff,za,h2,h3,zb hv.pu,ze _ hv.pu]
     refine ⟨_,k-1,rfl,by omega,i+1,?_,by omega,hl,hf⟩
     rw [zh (by omega) (by omega)]
     simp only [go_sem,reduceEqDiff,za,zb hv.pu,ze _ hv.pu]<;>rfl
   ·right
    simp only [h1,ne_eq,not_false_eq_true,if_true] at hf
    simp only [go_sem,reduceEqDiff,hi',hr2,hr1.len,hv.len,show ¬(s[i].length:Int)=s.length by omega]
    refine ⟨_,_,rfl,by simp,_,_,rfl,.inl ⟨rfl,?_⟩⟩
    simp only [go_sem,←hf]
  ·right
   simp only [go_sem,show ¬(i:Int)<s.length by omega]
   refine ⟨_,_,rfl,by simp,_,_,rfl,.inr ⟨rfl,?_⟩⟩
   rw [←hf,List.drop_eq_nil_of_le (by omega)]
   rfl
end
end VE
end
section
namespace VE
open Go (IntKind)
section
variable {P:zP} {L:Lib}
theorem s6 (h:Has P L 6 c6) (h30:Has P L 30 c30) {v:AV} {l:List Int} (hv:IsI v l) (key' side:Int):zn P L 6 [zf key',zf side,v] (zf (znN key' side l)):=by
 have key:=zM (P:=P) (L:=L) (live:=[2,7,8]) (a:=zy2)
  (I:=fun k st=>∃i:Nat,st=⟨[(2,v),(7,zf (zix (l.take i))),(8,zf i)],[],0,0⟩∧i+k=l.length∧l.length≤33∧zbe 0 1000 (l.take i)=false∧zbe 0 1000 (l.drop i)=zbe 0 1000 l)
  (Q:=fun ex st=>∃tm ct,st=⟨tm,[],ct,0⟩∧((ex= .ret∧zd tm 6=zf 3∧zbe 0 1000 l=true)∨(ex= .exit 0∧zd tm 7=zf (zix l)∧zbe 0 1000 l=false))) ?_
 ·unfold zn;rw [zc h]
  unfold znN
  have hm:(l.length:Int).tmod 2=(l.length%2:Nat):=by rw [Int.tmod_eq_emod_of_nonneg (by omega)];rfl
  have hd:(2:Int)≠0:=by decide
  by_cases h1:key'<1∨2147483646<key'
  ·rw [if_pos h1]
   simp only [go_sem,reduceEqDiff,c6,s30 h30,h1,if_true,Int.reduceEq]
  ·rw [if_neg h1]
   by_cases h2:side<1∨16<side
   ·rw [if_pos h2]
    simp only [go_sem,reduceEqDiff,c6,s30 h30,h1,h2,if_true,if_false,Int.reduceEq]
   ·rw [if_neg h2]
    by_cases h3:l.length=0
    ·simp only [go_sem,reduceEqDiff,c6,hv.len,s30 h30,h1,h2,if_false,show (l.length:Int)=0 by omega];rw [if_pos h3]
    ·rw [if_neg h3]
     by_cases h4:33<l.length
     ·simp only [go_sem,reduceEqDiff,c6,hv.len,s30 h30,h1,h2,if_false,show ¬(l.length:Int)=0 by omega,show (33:Int)<l.length by omega];rw [if_pos h4]
     ·rw [if_neg h4]
      by_cases h5:l.length%2=0
      ·simp only [go_sem,reduceEqDiff,c6,hv.len,s30 h30,h1,h2,if_false,show ¬(l.length:Int)=0 by omega,show ¬(33:Int)<l.length by omega,zaC _ _ _ hd,hm,show ((l.length%2:Nat):Int)=0 by omega];rw [if_pos h5]
      ·simp only [go_sem,reduceEqDiff,c6,hv.len,s30 h30,h1,h2,if_false,show ¬(l.length:Int)=0 by omega,show ¬(33:Int)<l.length by omega,zaC _ _ _ hd,hm,show ¬((l.length%2:Nat):Int)=0 by omega]
       rw [if_neg h5]
       generalize hq:D P L (.loop [2,7,8] zy2) _=q
       obtain ⟨ex,st,rfl,tm,ct,rfl,h2⟩:=zW hq (key l.length) ⟨0,by simp only [go_sem,reduceEqDiff,za,zb hv.pu,ze _ hv.pu]<;>rfl,by omega,by omega,rfl,rfl⟩
       rcases h2 with ⟨rfl,h2,h3⟩ | ⟨rfl,h2,h3⟩
       ·simp only [go_sem,h2];rw [if_pos h3]
       ·rw [if_neg (by simp [h3])]
        by_cases h6:zix l=0
        ·simp only [go_sem,za,h2,h6,if_true]
        ·simp only [go_sem,za,h2,h6,if_false]
 ·rintro k st ⟨i,rfl,hk,hl,h1,hf⟩
  simp only [go_sem,reduceEqDiff,zy2,hv.len]
  by_cases hi:i<l.length
  ·have hi':(i:Int)<l.length:=by omega
   rw [zil hi] at hf
   by_cases h2:l[i]<0∨1000<l[i]
   ·right
    rw [if_pos h2] at hf
    simp only [go_sem,reduceEqDiff,hi',hv.ixa hi,s30 h30,h2,if_true,Int.reduceEq]
    refine ⟨_,_,rfl,by simp,_,_,rfl,.inl ⟨rfl,?_,hf.symm⟩⟩
    simp only [go_sem]
   ·left
    rw [if_neg h2] at hf
    simp only [go_sem,reduceEqDiff,hi',hv.ixa hi,s30 h30,h2,if_false]
    have hb:=zo7 h1
    have ht:(l.take i).length=i:=by rw [List.length_take];omega
    refine ⟨_,k-1,rfl,by omega,i+1,?_,by omega,hl,?_,hf⟩
    ·rw [zh (n:=(i:Int)+1) (by omega) (by omega),zh (by omega) (by omega),zsP hi]
     simp only [go_sem,reduceEqDiff,za,zb hv.pu,ze _ hv.pu]<;>rfl
    ·rw [List.take_succ_eq_append_getElem hi]
     clear ht hb hf hk
     generalize l.take i=m at h1
     induction m with
     | nil=>simp [zbe];omega
     | cons a r ih=>
      simp only [zbe] at h1
      split at h1
      ·cases h1
      ·rename_i hc
       simp only [List.cons_append,zbe,hc,if_false]
       exact ih h1
  ·right
   simp only [go_sem,show ¬(i:Int)<l.length by omega]
   refine ⟨_,_,rfl,by simp,_,_,rfl,.inr ⟨rfl,?_,?_⟩⟩
   ·simp only [go_sem,reduceEqDiff]
    rw [List.take_of_length_le (by omega)]
   ·rw [List.take_of_length_le (by omega)] at h1
    exact h1
end
end VE
end
section
namespace VE
open Go (IntKind)
section
variable {P:zP} {L:Lib}
theorem zj (k id o:Nat):znP k (.ptr id o)=some (.ptr id (o+k)):=rfl
theorem z7 {α:Type} (a:α) (l:List α):List.drop 1 (a::l)=l:=rfl
theorem zHs {α:Type} (a b:α) (l:List α):List.drop 2 (a::b::l)=l:=rfl
theorem zCh {α:Type} (a b c:α) (l:List α):List.drop 3 (a::b::c::l)=l:=rfl
end
end VE
end
section
namespace VE
open Go (IntKind)
section
variable {P:zP} {L:Lib}
abbrev Nm (n:Int):AV:= .agg [zf n,.nils]
theorem zbA (hp:Hp) (ct id:Nat) (a:Int) (x y:AV):stC hp ct id 0 2 [.int .i64 a,.nils] (some (.cells true true true 2 [x,y]))=some (.tup [],zac hp id (.cells true true true 2 [.int .i64 a,.nils]),ct):=rfl
theorem zhy (hp:Hp):zeo .sl .nils .nils=some true:=rfl
theorem zaf (b:Bool):zxn false (some b)=some (.bool b):=by cases b<;>rfl
theorem zph (f:Run) (tm:Env) (hp:Hp) (ct:Nat) (x y:X):z9 P L f tm hp ct (.mn [x,y])=rd hp ct (min2 (zy tm x) (zy tm y)):=by
 simp only [z9,rd,zH,zaI,zi1]
 cases min2 (zy tm x) (zy tm y)<;>rfl
theorem zib (f:Run) (tm:Env) (hp:Hp) (ct:Nat) (x y:X):z9 P L f tm hp ct (.mx [x,y])=rd hp ct (max2 (zy tm x) (zy tm y)):=by
 simp only [z9,rd,zH,zaI,zi1]
 cases max2 (zy tm x) (zy tm y)<;>rfl
theorem zkH (k k':IntKind) (x y:Int):min2 (.int k x) (.int k' y)=some (.int k (if y<x then y else x)):=rfl
theorem zeP (k k':IntKind) (x y:Int):max2 (.int k x) (.int k' y)=some (.int k (if y>x then y else x)):=rfl
def sgn (n:Int):Int:=if n<0 then -1 else if n=0 then 0 else 1
theorem zuH (n:Int):(if (if n<1 then n else 1)> -1 then (if n<1 then n else 1) else -1)=sgn n:=by
 unfold sgn
 by_cases h1:n<0
 ·rw [if_pos (show n<1 by omega),if_pos h1];split<;>omega
 ·by_cases h2:n=0
  ·subst h2;rfl
  ·rw [if_neg (show ¬n<1 by omega),if_neg h1,if_neg h2];rfl
theorem zKp (h:Has P L 117 zAK) (n:Int):zn P L 117 [zf n] (Nm n):=by
 unfold zn;rw [zc h]
 simp only [go_sem,reduceEqDiff,reduceAdd,reduceLeDiff,zAK,zg,Nat.zero_add,zbA]
 rfl
theorem zIK (h:Has P L 147 zlv) {n:Int} (hn: -9223372036854775808<n∧n<9223372036854775808):zn P L 147 [Nm n] (Nm (-n)):=by
 unfold zn;rw [zc h]
 simp only [go_sem,reduceEqDiff,reduceAdd,reduceLeDiff,zlv,zg,zbA,zhy,zaf,zj,Nat.zero_add,z7,show ¬n= -9223372036854775808 by omega,zh (n:=0-n) (by omega) (by omega)]
 simp only [Int.zero_sub]
 rfl
theorem zEN (h:Has P L 146 znf) (n:Int):zn P L 146 [Nm n] (zf (sgn n)):=by
 unfold zn;rw [zc h]
 simp only [go_sem,reduceEqDiff,reduceAdd,znf,zg,zj,Nat.zero_add,zph,zib,zkH,zeP,zuH]
theorem zfA (hp:Hp) (p q:Bool):zeo .b (.bool p) (.bool q)=some (p==q):=rfl
end
end VE
end
section
namespace VE
open Go (IntKind)
section
variable {P:zP} {L:Lib}
theorem zaJ {n:Nat} {sp:List AV→Option AV} (h:L.pure n=some sp) {f:Run} (vals:List AV):zx P L f n vals=sp vals:=by simp only [zx,h]
abbrev U64 (n:Int):AV:= .int .u64 n
theorem zHQ {n:Int} (h1:0≤n) (h2:n<18446744073709551616):IntKind.wrap .u64 n=n:=by
 simp only [IntKind.wrap,IntKind.signed,IntKind.bits]
 have:n%2^64=n:=Int.emod_eq_of_lt h1 (by omega)
 rw [show ((2:Int)^64)=18446744073709551616 from rfl] at this
 simpa using this
theorem zt5 (n:Int):zji (.toInt .u64) (zf n)=some (U64 (IntKind.wrap .u64 n)):=rfl
theorem zne (n:Int):zji (.toInt .i64) (U64 n)=some (zf (IntKind.wrap .i64 n)):=rfl
theorem zk6 (b:Bool):zxn true (some b)=some (.bool (!b)):=by cases b<;>rfl
theorem zEU (a b c d:AV):zck 0 [a,b] [c,d]=[a,b]:=rfl
theorem z8 (a b:AV) (r:List AV):ld1 2 true (a::b::r)=some (.agg [a,b]):=rfl
theorem zci (a b c d:AV) (r:List AV):ld1 4 true (a::b::c::d::r)=some (.agg [a,b,c,d]):=rfl
theorem zF5 (h:Has P L 163 zmK) (h147:Has P L 147 zlv) {n:Int} (hn: -9223372036854775808<n∧n<9223372036854775808):zn P L 163 [Nm n] (Nm n.natAbs):=by
 have e1:=zIK h147 hn
 unfold zn at e1 ⊢;rw [zc h]
 by_cases h0:n<0
 ·simp only [go_sem,reduceEqDiff,reduceAdd,zmK,zg,zbA,zj,Nat.zero_add,h0,z8,zi,e1]
  rw [show -n=(n.natAbs:Int) by omega]
  rfl
 ·simp only [go_sem,reduceEqDiff,reduceAdd,zmK,zg,zbA,zj,Nat.zero_add,h0,z8]
  rw [show ((n.natAbs:Nat):Int)=n by omega]
  rfl
theorem zlQ {a b:Int} (hb:0<b):(a.tmod b<0→a/b=a.tdiv b-1∧a%b=a.tmod b+b)∧(¬a.tmod b<0→a/b=a.tdiv b∧a%b=a.tmod b):=by
 have h1:=Int.mul_tdiv_add_tmod a b
 have h2:a.tmod b<b:=Int.tmod_lt_of_pos a hb
 have h3: -b<a.tmod b:=Int.lt_tmod_of_pos a hb
 refine ⟨fun h=>(Int.ediv_emod_unique hb).2 ⟨?_,?_,?_⟩,fun h=>(Int.ediv_emod_unique hb).2 ⟨?_,?_,?_⟩⟩
 ·rw [Int.mul_sub,Int.mul_one];omega
 ·omega
 ·omega
 ·omega
 ·omega
 ·omega
theorem zGl (h:Has P L 164 c164) {a b:Int} (ha: -4611686018427387904<a∧a<4611686018427387904) (hb:0<b∧b<4611686018427387904):zn P L 164 [Nm a,Nm b] (.tup [Nm (a/b),Nm (a%b)]):=by
 obtain ⟨f1,f2⟩:=zlQ (a:=a) hb.1
 have hq: -4611686018427387904<a.tdiv b∧a.tdiv b<4611686018427387904:=by
  have:=Int.natAbs_tdiv_le_natAbs a b
  omega
 have hr: -4611686018427387904<a.tmod b∧a.tmod b<4611686018427387904:=by
  have:=Int.tmod_lt_of_pos a hb.1
  have:=Int.lt_tmod_of_pos a hb.1
  omega
 unfold zn;rw [zc h]
 by_cases h0:a.tmod b<0
 ·obtain ⟨g1,g2⟩:=f1 h0
  rw [g1,g2]
  simp only [go_sem,reduceEqDiff,reduceAdd,reduceLeDiff,c164,zg,zbA,zhy,zaf,zj,Nat.zero_add,z7,show ¬a= -9223372036854775808 by omega,zaA _ _ _ (show b≠0 by omega),zaC _ _ _ (show b≠0 by omega),h0,zh (n:=a.tdiv b) (by omega) (by omega),zh (n:=a.tdiv b-1) (by omega) (by omega),zh (n:=a.tmod b+b) (by omega) (by omega)]
  rfl
 ·obtain ⟨g1,g2⟩:=f2 h0
  rw [g1,g2]
  simp only [go_sem,reduceEqDiff,reduceAdd,reduceLeDiff,c164,zg,zbA,zhy,zaf,zj,Nat.zero_add,z7,show ¬a= -9223372036854775808 by omega,zaA _ _ _ (show b≠0 by omega),zaC _ _ _ (show b≠0 by omega),h0,zh (n:=a.tdiv b) (by omega) (by omega)]
  rfl
theorem zGL (h:Has P L 148 zsd) (h146:Has P L 146 znf) (h164:Has P L 164 c164) {a b:Int} (ha: -4611686018427387904<a∧a<4611686018427387904) (hb:0<b∧b<4611686018427387904):zn P L 148 [Nm a,Nm b] (Nm (a/b)):=by
 have e1:=zEN h146 b
 have e2:=zGl h164 ha hb
 have e3:sgn b=1:=by unfold sgn;rw [if_neg (by omega),if_neg (by omega)]
 rw [e3] at e1
 unfold zn at e1 e2 ⊢;rw [zc h]
 simp only [go_sem,reduceEqDiff,reduceAdd,zsd,Int.reduceLT,decide_false,zg,zbA,Nat.zero_add,z8,zi,e1,e2,zbO]
 rfl
theorem znV (a b:Nat) (hb:b≠0):Nat.gcd b (a%b)=Nat.gcd a b:=by
 rw [Nat.gcd_comm b,←Nat.gcd_rec,Nat.gcd_comm]
theorem zCQ (h146:Has P L 146 znf) (h164:Has P L 164 c164) (G:Nat):
  ∀k s,(∃x y:Nat,zE [2,3,4] s=⟨[(2,.ptr 0 0),(3,.ptr 1 0),(4,.ptr 2 0)],[(2,.cells true true true 2 [zf 0,.nils]),(1,.cells true true true 2 [zf y,.nils]),(0,.cells true true true 2 [zf x,.nils])],3,0⟩∧x<4611686018427387904∧y<4611686018427387904∧Nat.gcd x y=G∧y=k)→
   ∃ex s',D P L (.loop [2,3,4] ze9) s=some (ex,s')∧∃tm,s'=⟨tm,[(2,.cells true true true 2 [zf 0,.nils]),(1,.cells true true true 2 [zf 0,.nils]),(0,.cells true true true 2 [zf G,.nils])],3,0⟩∧ex= .exit 0∧zd tm 2= .ptr 0 0∧zd tm 4= .ptr 2 0:=by
 refine zM (I:=fun k s=>∃x y:Nat,s=⟨[(2,.ptr 0 0),(3,.ptr 1 0),(4,.ptr 2 0)],[(2,.cells true true true 2 [zf 0,.nils]),(1,.cells true true true 2 [zf y,.nils]),(0,.cells true true true 2 [zf x,.nils])],3,0⟩∧x<4611686018427387904∧y<4611686018427387904∧Nat.gcd x y=G∧y=k)
  (Q:=fun ex s'=>∃tm,s'=⟨tm,[(2,.cells true true true 2 [zf 0,.nils]),(1,.cells true true true 2 [zf 0,.nils]),(0,.cells true true true 2 [zf G,.nils])],3,0⟩∧ex= .exit 0∧zd tm 2= .ptr 0 0∧zd tm 4= .ptr 2 0) ?_
 rintro k s ⟨x,y,rfl,hx,hy,hG,rfl⟩
 have e1:=zEN h146 (y:Int)
 by_cases hy0:y=0
 ·right
  subst hy0
  have e3:sgn ((0:Nat):Int)=0:=rfl
  rw [e3] at e1
  unfold zn at e1
  simp only [go_sem,reduceEqDiff,ze9,decide_true,Bool.not_true,z8,zi,e1]
  obtain rfl:x=G:=by rw [←hG,Nat.gcd_zero_right]
  exact ⟨_,_,rfl,by simp,_,rfl,rfl,by simp only [go_sem,reduceEqDiff],by simp only [go_sem,reduceEqDiff]⟩
 ·left
  have e3:sgn (y:Int)=1:=by unfold sgn;rw [if_neg (by omega),if_neg (by omega)]
  rw [e3] at e1
  have e2:=zGl h164 (a:=x) (b:=y) (by omega) (by omega)
  rw [show ((x:Int)%(y:Int))=((x%y:Nat):Int) from rfl] at e2
  unfold zn at e1 e2
  have hlt:=Nat.mod_lt x (show 0<y by omega)
  simp only [go_sem,reduceEqDiff,reduceAdd,ze9,Int.reduceEq,decide_false,Bool.not_false,zg,zbA,z8,zi,e1,e2,zbO]
  refine ⟨_,x%y,rfl,hlt,y,x%y,?_,hy,by omega,by rw [←hG];exact znV x y hy0,rfl⟩
  simp only [go_sem,reduceEqDiff,reduceAdd,za,zEU,Bool.true_and]
theorem zJL (h:Has P L 130 zsL) (h163:Has P L 163 zmK) (h147:Has P L 147 zlv) (h146:Has P L 146 znf) (h164:Has P L 164 c164) {a b:Int} (ha: -4611686018427387904<a∧a<4611686018427387904) (hb: -4611686018427387904<b∧b<4611686018427387904):zn P L 130 [Nm a,Nm b] (Nm (Int.gcd a b:Nat)):=by
 have e1:=zF5 h163 h147 (n:=a) (by omega)
 have e2:=zF5 h163 h147 (n:=b) (by omega)
 unfold zn at e1 e2 ⊢;rw [zc h]
 simp only [go_sem,reduceEqDiff,reduceAdd,zsL,zg,zbA,z8,zi,e1,e2,zk,Nat.zero_add]
 generalize hq:D P L (.loop [2,3,4] ze9) _=q
 obtain ⟨ex,s,rfl,tm,rfl,rfl,h2,h4⟩:=zW hq (zCQ (P:=P) (L:=L) h146 h164 (Int.gcd a b) b.natAbs) ⟨a.natAbs,b.natAbs,by simp only [go_sem,reduceEqDiff,reduceAdd,za],by omega,by omega,rfl,rfl⟩
 simp only [go_sem,reduceEqDiff,reduceAdd,za,h2,h4,zbA,z8]
 rfl
abbrev Fq (n d:Int):AV:= .agg [zf n,.nils,zf d,.nils]
theorem zwE (hp:Hp) (ct id:Nat) (a b:Int) (x y z w:AV):stC hp ct id 0 4 [.int .i64 a,.nils,.int .i64 b,.nils] (some (.cells true true true 4 [x,y,z,w]))=some (.tup [],zac hp id (.cells true true true 4 [.int .i64 a,.nils,.int .i64 b,.nils]),ct):=rfl
theorem zvk (tm:Env) (x y z w:AV) (a:Int) (r:List (Nat×Nat×X)):ze0 tm [x,y,z,w] 0 2 [.int .i64 a,.nils] r=fill tm [.int .i64 a,.nils,z,w] r:=rfl
theorem zur (tm:Env) (x y z w:AV) (a:Int) (r:List (Nat×Nat×X)):ze0 tm [x,y,z,w] 2 2 [.int .i64 a,.nils] r=fill tm [x,y,.int .i64 a,.nils] r:=rfl
theorem n101 (h:Has P L 101 c101) (h148:Has P L 148 zsd) (h130:Has P L 130 zsL) (h163:Has P L 163 zmK) (h147:Has P L 147 zlv) (h146:Has P L 146 znf) (h164:Has P L 164 c164) {a b:Int} (ha: -4611686018427387904<a∧a<4611686018427387904) (hb:0<b∧b<4611686018427387904):
  zn P L 101 [Nm a,Nm b] (Fq (a/(Int.gcd a b:Nat)) (b/(Int.gcd a b:Nat))):=by
 have e1:=zEN h146 b
 have e3:sgn b=1:=by unfold sgn;rw [if_neg (by omega),if_neg (by omega)]
 rw [e3] at e1
 have e2:=zJL h130 h163 h147 h146 h164 ha (b:=b) (by omega)
 have hg:(0:Int)<(Int.gcd a b:Nat):=by
  have:=Int.gcd_pos_of_ne_zero_right a (show b≠0 by omega)
  omega
 have hg2:((Int.gcd a b:Nat):Int)<4611686018427387904:=by
  have:=Int.gcd_le_natAbs_right a (show b≠0 by omega)
  omega
 have e4:=zGL h148 h146 h164 ha (b:=(Int.gcd a b:Nat)) ⟨hg,hg2⟩
 have e5:=zGL h148 h146 h164 (a:=b) (b:=(Int.gcd a b:Nat)) (by omega) ⟨hg,hg2⟩
 unfold zn at e1 e2 e4 e5 ⊢;rw [zc h]
 by_cases hb1:b=1
 ·subst hb1
  rw [Int.gcd_one]
  simp only [go_sem,reduceEqDiff,reduceAdd,c101,Int.reduceLT,decide_false,decide_true,zg,zwE,z8,zi,e1,zj,Nat.zero_add,z7,zhy,zaf,zvk,zur]
  rw [show a/((1:Nat):Int)=a from Int.ediv_one a]
  rfl
 ·simp only [go_sem,reduceEqDiff,reduceAdd,c101,Int.reduceLT,decide_false,zg,zbA,zwE,z8,zi,e1,zj,Nat.zero_add,z7,zhy,zaf,hb1,e2,e4,e5,zk,zvk,zur]
  rfl
end
end VE
end
section
namespace VE
def zbv (a b:Int):Int:=a/(Int.gcd a b:Nat)
def zbw (a b:Int):Int:=b/(Int.gcd a b:Nat)
theorem zhK {a b:Int} (hb:0<b):(0:Int)<(Int.gcd a b:Nat):=by
 have:=Int.gcd_pos_of_ne_zero_right a (show b≠0 by omega)
 omega
theorem zCO (a b:Int):a=(Int.gcd a b:Nat)*zbv a b:=(Int.mul_ediv_cancel' (Int.gcd_dvd_left a b)).symm
theorem zDK (a b:Int):b=(Int.gcd a b:Nat)*zbw a b:=(Int.mul_ediv_cancel' (Int.gcd_dvd_right a b)).symm
theorem zf2 {a b:Int} (hb:0<b):0<zbw a b:=by
 have h1:=zhK (a:=a) hb
 have h2:=zDK a b
 rcases Int.lt_trichotomy (zbw a b) 0 with h | h | h
 ·have:=Int.mul_neg_of_pos_of_neg h1 h;omega
 ·rw [h,Int.mul_zero] at h2;omega
 ·exact h
theorem znM (a b:Int):(zbv a b).natAbs≤a.natAbs:=by
 unfold zbv
 rw [Int.natAbs_ediv_of_dvd (Int.gcd_dvd_left a b)]
 exact Nat.div_le_self _ _
theorem zoV (a b:Int):(zbw a b).natAbs≤b.natAbs:=by
 unfold zbw
 rw [Int.natAbs_ediv_of_dvd (Int.gcd_dvd_right a b)]
 exact Nat.div_le_self _ _
def zjk (a b:Int):List Nat:=if zbw a b=1 then zV (zbv a b) else zV (zbv a b)++[47]++zV (zbw a b)
end VE
end
