import Derived.Test.YtdipnpnbdogioaaGreatDoorTba
import Derived.Test.YtdipnpnbdogioaaGreatDoorTay
import Derived.Test.YtdipnpnbdogioaaGreatDoorTao
set_option linter.all false
set_option maxRecDepth 100000
open Nat (reduceAdd reduceEqDiff reduceLT reduceLeDiff)
section
namespace VE
open Go (IntKind)
section
variable {P:zQ} {L:Lib}
theorem s2 (h:Has P L 2 c2) {v:AV} {s:List (List Int)} (hv:IsS v s) {n:Nat}:zx P L 2 [v,zh n] (.bool (zw8 n s)):=by
 have key:=zL (P:=P) (L:=L) (live:=[0,5]) (a:=zwr)
  (I:=fun k st=>∃i:Nat,st=⟨[(0,v),(5,zh i)],[],0,0⟩∧i+k=s.length∧s.length≤18∧zch (s.drop i)=zch s)
  (Q:=fun ex st=>∃tm ct,st=⟨tm,[],ct,0⟩∧((ex= .ret∧zc tm 4= .bool (zch s))∨(ex= .exit 0∧zch s=true))) ?_
 ·unfold zx;rw [zd h];unfold zw8;by_cases h1:n<s.length
  ·by_cases h2:s.length≤16
   ·simp only [go_sem,reduceEqDiff,c2,hv.len,show (n:Int)<s.length by omega,show (s.length:Int)≤16 by omega];rw [if_pos (by omega)]
   ·by_cases h3:18<s.length
    ·simp only [go_sem,reduceEqDiff,c2,hv.len,show (n:Int)<s.length by omega,show ¬(s.length:Int)≤16 by omega,show (18:Int)<s.length by omega];rw [if_pos (by omega)]
    ·simp only [go_sem,reduceEqDiff,c2,hv.len,show (n:Int)<s.length by omega,show ¬(s.length:Int)≤16 by omega,show ¬(18:Int)<s.length by omega];rw [if_neg (by omega)];generalize hq:D P L (.loop [0,5] zwr) _=q;obtain ⟨ex,st,rfl,tm,ct,rfl,h2⟩:=zY hq (key s.length) ⟨0,by simp only [go_sem,reduceEqDiff,za,zb hv.pu,ze _ hv.pu]<;>rfl,by omega,by omega,rfl⟩
     rcases h2 with ⟨rfl,h2⟩ | ⟨rfl,h2⟩
     ·simp only [go_sem,h2]
     ·rw [h2];simp only [go_sem]
  ·by_cases h3:18<s.length
   ·simp only [go_sem,reduceEqDiff,c2,hv.len,show ¬(n:Int)<s.length by omega,show (18:Int)<s.length by omega];rw [if_pos (by omega)]
   ·simp only [go_sem,reduceEqDiff,c2,hv.len,show ¬(n:Int)<s.length by omega,show ¬(18:Int)<s.length by omega];rw [if_neg (by omega)];generalize hq:D P L (.loop [0,5] zwr) _=q;obtain ⟨ex,st,rfl,tm,ct,rfl,h2⟩:=zY hq (key s.length) ⟨0,by simp only [go_sem,reduceEqDiff,za,zb hv.pu,ze _ hv.pu]<;>rfl,by omega,by omega,rfl⟩
    rcases h2 with ⟨rfl,h2⟩ | ⟨rfl,h2⟩
    ·simp only [go_sem,h2]
    ·rw [h2];simp only [go_sem]
 ·rintro k st ⟨i,rfl,hk,hl,hf⟩;simp only [go_sem,reduceEqDiff,zwr,hv.len];by_cases hi:i<s.length
  ·have hi':(i:Int)<s.length:=by omega
   rw [zlz hi] at hf;obtain ⟨r,rest,hr1,hr2⟩:=hv.ixa hi;by_cases h1:18<s[i].length
   ·right
    rw [if_pos h1] at hf;simp only [go_sem,reduceEqDiff,hi',hr2,hr1.len,show (18:Int)<s[i].length by omega];refine ⟨_,_,rfl,by simp,_,_,rfl,.inl ⟨rfl,?_⟩⟩;simp only [go_sem,←hf]
   ·left
    rw [if_neg h1] at hf;simp only [go_sem,reduceEqDiff,hi',hr2,hr1.len,show ¬(18:Int)<s[i].length by omega];refine ⟨_,k-1,rfl,by omega,i+1,?_,by omega,hl,hf⟩;rw [zf (by omega) (by omega)];simp only [go_sem,reduceEqDiff,za,zb hv.pu,ze _ hv.pu]<;>rfl
  ·right
   simp only [go_sem,show ¬(i:Int)<s.length by omega];refine ⟨_,_,rfl,by simp,_,_,rfl,.inr ⟨rfl,?_⟩⟩;rw [←hf,List.drop_eq_nil_of_le (by omega)];rfl
theorem s4 (h:Sq P L) {v:AV} {s:List (List Int)} (hv:IsS v s) (hl:s.length≤1000000) (hr:∀i (hi:i<s.length),s[i].length≤1000000):zx P L 4 [v] (zh (zgk s)):=by
 have hc:=s32 h hv hl hr (m:=1000) (by decide) (by decide);have hf:∀a b c:Int,zx P L 33 [.vsl true 3 [.int .i64 a,.int .i64 b,.int .i64 c]] (zh (zM [a,b,c])):=fun a b c=>s33 h.h33 (za8 true [a,b,c]) (by simp)
 unfold zx at hc hf ⊢;rw [zd h.h4];simp only [go_sem,reduceEqDiff,reduceAdd,reduceLT,reduceLeDiff,Nat.mul_one,c4,hv.len,hv.frz,hc,s31 h.h31,hf]
 congr 2
 unfold zgk;by_cases h1:s.length=0
 ·simp [h1,zM]
 ·by_cases h2:16<s.length
  ·simp [h1,h2,zM,show (16:Int)<s.length by omega]
  ·simp only [h1,h2,zM,show ¬(16:Int)<s.length by omega,show ¬(s.length:Int)=0 by omega,decide_false,Bool.false_eq_true,if_false,if_true]
   split<;>simp_all
end
end VE
end
section
namespace VE
open Go (IntKind)
section
variable {P:zQ} {L:Lib}
theorem s3 (h:Has P L 3 c3) (h30:Has P L 30 c30) {v:AV} {s:List (List Int)} (hv:IsS v s):zx P L 3 [v] (zh (zgk s)):=by
 have inner:∀{i:Nat} (hi:i<s.length),s[i].length=s.length→s.length≤16→∀k st,(∃j:Nat,zE [0,3,4] st=⟨[(0,v),(3,zh i),(4,zh j)],[],0,0⟩∧j+k=s.length∧zbf (-1000) 1000 (s[i].drop j)=zbf (-1000) 1000 s[i])→
   ∃ex st',D P L (.loop [0,3,4] zBe) st=some (ex,st')∧∃tm ct,st'=⟨tm,[],ct,0⟩∧((ex= .ret∧zc tm 2=zh 3∧zbf (-1000) 1000 s[i]=true)∨(ex= .exit 2∧zc tm 0=v∧zc tm 3=zh i∧zbf (-1000) 1000 s[i]=false)):=by
  intro i hi hr hl
  refine zL (I:=fun k st=>∃j:Nat,st=⟨[(0,v),(3,zh i),(4,zh j)],[],0,0⟩∧j+k=s.length∧zbf (-1000) 1000 (s[i].drop j)=zbf (-1000) 1000 s[i])
   (Q:=fun ex st=>∃tm ct,st=⟨tm,[],ct,0⟩∧((ex= .ret∧zc tm 2=zh 3∧zbf (-1000) 1000 s[i]=true)∨(ex= .exit 2∧zc tm 0=v∧zc tm 3=zh i∧zbf (-1000) 1000 s[i]=false))) ?_
  rintro k st ⟨j,rfl,hk,hf⟩;simp only [go_sem,reduceEqDiff,zBe,hv.len];obtain ⟨r,rest,hr1,hr2⟩:=hv.ixa hi;by_cases hj:j<s.length
  ·have hj':(j:Int)<s.length:=by omega
   have hjr:j<s[i].length:=by omega
   rw [zil hjr] at hf;by_cases h1:s[i][j]< -1000∨1000<s[i][j]
   ·right
    rw [if_pos h1] at hf;simp only [go_sem,reduceEqDiff,hj',hr2,hr1.ixa hjr,s30 h30,h1,if_true,Int.reduceEq];refine ⟨_,_,rfl,by simp,_,_,rfl,.inl ⟨rfl,?_,hf.symm⟩⟩;simp only [go_sem]
   ·left
    rw [if_neg h1] at hf;simp only [go_sem,reduceEqDiff,hj',hr2,hr1.ixa hjr,s30 h30,h1,if_false];refine ⟨_,k-1,rfl,by omega,j+1,?_,by omega,hf⟩;rw [zf (by omega) (by omega)];simp only [go_sem,reduceEqDiff,za,zb hv.pu,ze _ hv.pu]<;>rfl
  ·right
   simp only [go_sem,show ¬(j:Int)<s.length by omega];refine ⟨_,_,rfl,by simp,_,_,rfl,.inr ⟨rfl,?_,?_,?_⟩⟩
   ·simp only [go_sem,reduceEqDiff]
   ·simp only [go_sem,reduceEqDiff]
   ·rw [←hf,List.drop_eq_nil_of_le (by omega)];rfl
 have key:=zL (P:=P) (L:=L) (live:=[0,3]) (a:=zAu)
  (I:=fun k st=>∃i:Nat,st=⟨[(0,v),(3,zh i)],[],0,0⟩∧i+k=s.length∧s.length≤16∧zc9 s.length (-1000) 1000 (s.drop i)=zc9 s.length (-1000) 1000 s)
  (Q:=fun ex st=>∃tm ct,st=⟨tm,[],ct,0⟩∧((ex= .ret∧zc tm 2=zh (zc9 s.length (-1000) 1000 s))∨(ex= .exit 0∧zc9 s.length (-1000) 1000 s=0))) ?_
 ·unfold zx;rw [zd h];unfold zgk;by_cases h1:s.length=0
  ·simp only [go_sem,reduceEqDiff,c3,hv.len,show (s.length:Int)=0 by omega];rw [if_pos h1]
  ·rw [if_neg h1];by_cases h2:16<s.length
   ·simp only [go_sem,reduceEqDiff,c3,hv.len,show ¬(s.length:Int)=0 by omega,show (16:Int)<s.length by omega];rw [if_pos h2]
   ·simp only [go_sem,reduceEqDiff,c3,hv.len,show ¬(s.length:Int)=0 by omega,show ¬(16:Int)<s.length by omega];rw [if_neg h2];generalize hq:D P L (.loop [0,3] zAu) _=q;obtain ⟨ex,st,rfl,tm,ct,rfl,h2⟩:=zY hq (key s.length) ⟨0,by simp only [go_sem,reduceEqDiff,za,zb hv.pu,ze _ hv.pu]<;>rfl,by omega,by omega,rfl⟩
    rcases h2 with ⟨rfl,h2⟩ | ⟨rfl,h2⟩
    ·simp only [go_sem,h2]
    ·rw [h2];simp only [go_sem]
 ·rintro k st ⟨i,rfl,hk,hl,hf⟩;simp only [go_sem,reduceEqDiff,zAu,hv.len];by_cases hi:i<s.length
  ·have hi':(i:Int)<s.length:=by omega
   rw [zha hi] at hf;obtain ⟨r,rest,hr1,hr2⟩:=hv.ixa hi;by_cases h1:s[i].length=s.length
   ·simp only [h1,ne_eq,not_true_eq_false,if_false] at hf;simp only [go_sem,reduceEqDiff,hi',hr2,hr1.len,hv.len,show (s[i].length:Int)=s.length by omega];generalize hq:D P L (.loop [0,3,4] zBe) _=q;obtain ⟨ex,st,rfl,tm,ct,rfl,h2⟩:=zY hq (inner hi h1 hl s.length) ⟨0,by simp only [go_sem,reduceEqDiff,za,zb hv.pu,ze _ hv.pu]<;>rfl,by omega,rfl⟩
    rcases h2 with ⟨rfl,h2,h3⟩ | ⟨rfl,h2,h3,h4⟩
    ·right
     rw [if_pos h3] at hf;exact ⟨_,_,rfl,by simp,_,_,rfl,.inl ⟨rfl,by rw [h2,←hf]⟩⟩
    ·left
     rw [if_neg (by simp [h4])] at hf;simp only [go_sem,reduceEqDiff,za,h2,h3,zb hv.pu,ze _ hv.pu];refine ⟨_,k-1,rfl,by omega,i+1,?_,by omega,hl,hf⟩;rw [zf (by omega) (by omega)];simp only [go_sem,reduceEqDiff,za,zb hv.pu,ze _ hv.pu]<;>rfl
   ·right
    simp only [h1,ne_eq,not_false_eq_true,if_true] at hf;simp only [go_sem,reduceEqDiff,hi',hr2,hr1.len,hv.len,show ¬(s[i].length:Int)=s.length by omega];refine ⟨_,_,rfl,by simp,_,_,rfl,.inl ⟨rfl,?_⟩⟩;simp only [go_sem,←hf]
  ·right
   simp only [go_sem,show ¬(i:Int)<s.length by omega];refine ⟨_,_,rfl,by simp,_,_,rfl,.inr ⟨rfl,?_⟩⟩;rw [←hf,List.drop_eq_nil_of_le (by omega)];rfl
theorem s10 (h:Has P L 10 c10) (h30:Has P L 30 c30) {v:AV} {s:List (List Int)} (hv:IsS v s):zx P L 10 [v] (zh (zl3 s)):=by
 have inner:∀{i:Nat} (hi:i<s.length),s[i].length=s.length→s.length≤16→∀k st,(∃j:Nat,zE [0,3,4] st=⟨[(0,v),(3,zh i),(4,zh j)],[],0,0⟩∧j+k=s.length∧zbf (-100) 100 (s[i].drop j)=zbf (-100) 100 s[i])→
   ∃ex st',D P L (.loop [0,3,4] zq1) st=some (ex,st')∧∃tm ct,st'=⟨tm,[],ct,0⟩∧((ex= .ret∧zc tm 2=zh 3∧zbf (-100) 100 s[i]=true)∨(ex= .exit 2∧zc tm 0=v∧zc tm 3=zh i∧zbf (-100) 100 s[i]=false)):=by
  intro i hi hr hl
  refine zL (I:=fun k st=>∃j:Nat,st=⟨[(0,v),(3,zh i),(4,zh j)],[],0,0⟩∧j+k=s.length∧zbf (-100) 100 (s[i].drop j)=zbf (-100) 100 s[i])
   (Q:=fun ex st=>∃tm ct,st=⟨tm,[],ct,0⟩∧((ex= .ret∧zc tm 2=zh 3∧zbf (-100) 100 s[i]=true)∨(ex= .exit 2∧zc tm 0=v∧zc tm 3=zh i∧zbf (-100) 100 s[i]=false))) ?_
  rintro k st ⟨j,rfl,hk,hf⟩;simp only [go_sem,reduceEqDiff,zq1,hv.len];obtain ⟨r,rest,hr1,hr2⟩:=hv.ixa hi;by_cases hj:j<s.length
  ·have hj':(j:Int)<s.length:=by omega
   have hjr:j<s[i].length:=by omega
   rw [zil hjr] at hf;by_cases h1:s[i][j]< -100∨100<s[i][j]
   ·right
    rw [if_pos h1] at hf;simp only [go_sem,reduceEqDiff,hj',hr2,hr1.ixa hjr,s30 h30,h1,if_true,Int.reduceEq];refine ⟨_,_,rfl,by simp,_,_,rfl,.inl ⟨rfl,?_,hf.symm⟩⟩;simp only [go_sem]
   ·left
    rw [if_neg h1] at hf;simp only [go_sem,reduceEqDiff,hj',hr2,hr1.ixa hjr,s30 h30,h1,if_false];refine ⟨_,k-1,rfl,by omega,j+1,?_,by omega,hf⟩;rw [zf (by omega) (by omega)];simp only [go_sem,reduceEqDiff,za,zb hv.pu,ze _ hv.pu]<;>rfl
  ·right
   simp only [go_sem,show ¬(j:Int)<s.length by omega];refine ⟨_,_,rfl,by simp,_,_,rfl,.inr ⟨rfl,?_,?_,?_⟩⟩
   ·simp only [go_sem,reduceEqDiff]
   ·simp only [go_sem,reduceEqDiff]
   ·rw [←hf,List.drop_eq_nil_of_le (by omega)];rfl
 have key:=zL (P:=P) (L:=L) (live:=[0,3]) (a:=zr5)
  (I:=fun k st=>∃i:Nat,st=⟨[(0,v),(3,zh i)],[],0,0⟩∧i+k=s.length∧s.length≤16∧zc9 s.length (-100) 100 (s.drop i)=zc9 s.length (-100) 100 s)
  (Q:=fun ex st=>∃tm ct,st=⟨tm,[],ct,0⟩∧((ex= .ret∧zc tm 2=zh (zc9 s.length (-100) 100 s))∨(ex= .exit 0∧zc9 s.length (-100) 100 s=0))) ?_
 ·unfold zx;rw [zd h];unfold zl3;by_cases h1:s.length=0
  ·simp only [go_sem,reduceEqDiff,c10,hv.len,show (s.length:Int)=0 by omega];rw [if_pos h1]
  ·rw [if_neg h1];by_cases h2:5<s.length
   ·simp only [go_sem,reduceEqDiff,c10,hv.len,show ¬(s.length:Int)=0 by omega,show (5:Int)<s.length by omega];rw [if_pos h2]
   ·rw [if_neg h2];have hm:(s.length:Int).tmod 2=(s.length%2:Nat):=by rw [Int.tmod_eq_emod_of_nonneg (by omega)];rfl
    have hd:(2:Int)≠0:=by decide
    by_cases h3:s.length%2=0
    ·simp only [go_sem,reduceEqDiff,c10,hv.len,show ¬(s.length:Int)=0 by omega,show ¬(5:Int)<s.length by omega,zaw _ _ _ hd,hm,show ((s.length%2:Nat):Int)=0 by omega];rw [if_pos h3]
    ·simp only [go_sem,reduceEqDiff,c10,hv.len,show ¬(s.length:Int)=0 by omega,show ¬(5:Int)<s.length by omega,zaw _ _ _ hd,hm,show ¬((s.length%2:Nat):Int)=0 by omega];rw [if_neg h3];generalize hq:D P L (.loop [0,3] zr5) _=q;obtain ⟨ex,st,rfl,tm,ct,rfl,h2⟩:=zY hq (key s.length) ⟨0,by simp only [go_sem,reduceEqDiff,za,zb hv.pu,ze _ hv.pu]<;>rfl,by omega,by omega,rfl⟩
     rcases h2 with ⟨rfl,h2⟩ | ⟨rfl,h2⟩
     ·simp only [go_sem,h2]
     ·rw [h2];simp only [go_sem]
 ·rintro k st ⟨i,rfl,hk,hl,hf⟩;simp only [go_sem,reduceEqDiff,zr5,hv.len];by_cases hi:i<s.length
  ·have hi':(i:Int)<s.length:=by omega
   rw [zha hi] at hf;obtain ⟨r,rest,hr1,hr2⟩:=hv.ixa hi;by_cases h1:s[i].length=s.length
   ·simp only [h1,ne_eq,not_true_eq_false,if_false] at hf;simp only [go_sem,reduceEqDiff,hi',hr2,hr1.len,hv.len,show (s[i].length:Int)=s.length by omega];generalize hq:D P L (.loop [0,3,4] zq1) _=q;obtain ⟨ex,st,rfl,tm,ct,rfl,h2⟩:=zY hq (inner hi h1 hl s.length) ⟨0,by simp only [go_sem,reduceEqDiff,za,zb hv.pu,ze _ hv.pu]<;>rfl,by omega,rfl⟩
    rcases h2 with ⟨rfl,h2,h3⟩ | ⟨rfl,h2,h3,h4⟩
    ·right
     rw [if_pos h3] at hf;exact ⟨_,_,rfl,by simp,_,_,rfl,.inl ⟨rfl,by rw [h2,←hf]⟩⟩
    ·left
     rw [if_neg (by simp [h4])] at hf;simp only [go_sem,reduceEqDiff,za,h2,h3,zb hv.pu,ze _ hv.pu];refine ⟨_,k-1,rfl,by omega,i+1,?_,by omega,hl,hf⟩;rw [zf (by omega) (by omega)];simp only [go_sem,reduceEqDiff,za,zb hv.pu,ze _ hv.pu]<;>rfl
   ·right
    simp only [h1,ne_eq,not_false_eq_true,if_true] at hf;simp only [go_sem,reduceEqDiff,hi',hr2,hr1.len,hv.len,show ¬(s[i].length:Int)=s.length by omega];refine ⟨_,_,rfl,by simp,_,_,rfl,.inl ⟨rfl,?_⟩⟩;simp only [go_sem,←hf]
  ·right
   simp only [go_sem,show ¬(i:Int)<s.length by omega];refine ⟨_,_,rfl,by simp,_,_,rfl,.inr ⟨rfl,?_⟩⟩;rw [←hf,List.drop_eq_nil_of_le (by omega)];rfl
end
end VE
end
section
namespace VE
open Go (IntKind)
section
variable {P:zQ} {L:Lib}
theorem s6 (h:Has P L 6 c6) (h30:Has P L 30 c30) {v:AV} {l:List Int} (hv:IsI v l) (key' side:Int):zx P L 6 [zh key',zh side,v] (zh (zoR key' side l)):=by
 have key:=zL (P:=P) (L:=L) (live:=[2,7,8]) (a:=zAm)
  (I:=fun k st=>∃i:Nat,st=⟨[(2,v),(7,zh (ziR (l.take i))),(8,zh i)],[],0,0⟩∧i+k=l.length∧l.length≤33∧zbf 0 1000 (l.take i)=false∧zbf 0 1000 (l.drop i)=zbf 0 1000 l)
  (Q:=fun ex st=>∃tm ct,st=⟨tm,[],ct,0⟩∧((ex= .ret∧zc tm 6=zh 3∧zbf 0 1000 l=true)∨(ex= .exit 0∧zc tm 7=zh (ziR l)∧zbf 0 1000 l=false))) ?_
 ·unfold zx;rw [zd h];unfold zoR;have hm:(l.length:Int).tmod 2=(l.length%2:Nat):=by rw [Int.tmod_eq_emod_of_nonneg (by omega)];rfl
  have hd:(2:Int)≠0:=by decide
  by_cases h1:key'<1∨2147483646<key'
  ·rw [if_pos h1];simp only [go_sem,reduceEqDiff,c6,s30 h30,h1,if_true,Int.reduceEq]
  ·rw [if_neg h1];by_cases h2:side<1∨16<side
   ·rw [if_pos h2];simp only [go_sem,reduceEqDiff,c6,s30 h30,h1,h2,if_true,if_false,Int.reduceEq]
   ·rw [if_neg h2];by_cases h3:l.length=0
    ·simp only [go_sem,reduceEqDiff,c6,hv.len,s30 h30,h1,h2,if_false,show (l.length:Int)=0 by omega];rw [if_pos h3]
    ·rw [if_neg h3];by_cases h4:33<l.length
     ·simp only [go_sem,reduceEqDiff,c6,hv.len,s30 h30,h1,h2,if_false,show ¬(l.length:Int)=0 by omega,show (33:Int)<l.length by omega];rw [if_pos h4]
     ·rw [if_neg h4];by_cases h5:l.length%2=0
      ·simp only [go_sem,reduceEqDiff,c6,hv.len,s30 h30,h1,h2,if_false,show ¬(l.length:Int)=0 by omega,show ¬(33:Int)<l.length by omega,zaw _ _ _ hd,hm,show ((l.length%2:Nat):Int)=0 by omega];rw [if_pos h5]
      ·simp only [go_sem,reduceEqDiff,c6,hv.len,s30 h30,h1,h2,if_false,show ¬(l.length:Int)=0 by omega,show ¬(33:Int)<l.length by omega,zaw _ _ _ hd,hm,show ¬((l.length%2:Nat):Int)=0 by omega];rw [if_neg h5];generalize hq:D P L (.loop [2,7,8] zAm) _=q;obtain ⟨ex,st,rfl,tm,ct,rfl,h2⟩:=zY hq (key l.length) ⟨0,by simp only [go_sem,reduceEqDiff,za,zb hv.pu,ze _ hv.pu]<;>rfl,by omega,by omega,rfl,rfl⟩
       rcases h2 with ⟨rfl,h2,h3⟩ | ⟨rfl,h2,h3⟩
       ·simp only [go_sem,h2];rw [if_pos h3]
       ·rw [if_neg (by simp [h3])];by_cases h6:ziR l=0
        ·simp only [go_sem,za,h2,h6,if_true]
        ·simp only [go_sem,za,h2,h6,if_false]
 ·rintro k st ⟨i,rfl,hk,hl,h1,hf⟩;simp only [go_sem,reduceEqDiff,zAm,hv.len];by_cases hi:i<l.length
  ·have hi':(i:Int)<l.length:=by omega
   rw [zil hi] at hf;by_cases h2:l[i]<0∨1000<l[i]
   ·right
    rw [if_pos h2] at hf;simp only [go_sem,reduceEqDiff,hi',hv.ixa hi,s30 h30,h2,if_true,Int.reduceEq];refine ⟨_,_,rfl,by simp,_,_,rfl,.inl ⟨rfl,?_,hf.symm⟩⟩;simp only [go_sem]
   ·left
    rw [if_neg h2] at hf;simp only [go_sem,reduceEqDiff,hi',hv.ixa hi,s30 h30,h2,if_false];have hb:=zqw h1;have ht:(l.take i).length=i:=by rw [List.length_take];omega
    refine ⟨_,k-1,rfl,by omega,i+1,?_,by omega,hl,?_,hf⟩
    ·rw [zf (n:=(i:Int)+1) (by omega) (by omega),zf (by omega) (by omega),ztf hi];simp only [go_sem,reduceEqDiff,za,zb hv.pu,ze _ hv.pu]<;>rfl
    ·rw [List.take_succ_eq_append_getElem hi];clear ht hb hf hk;generalize l.take i=m at h1
     induction m with
     | nil=>simp [zbf];omega
     | cons a r ih=>
      simp only [zbf] at h1
      split at h1
      ·cases h1
      ·rename_i hc;simp only [List.cons_append,zbf,hc,if_false];exact ih h1
  ·right
   simp only [go_sem,show ¬(i:Int)<l.length by omega];refine ⟨_,_,rfl,by simp,_,_,rfl,.inr ⟨rfl,?_,?_⟩⟩
   ·simp only [go_sem,reduceEqDiff];rw [List.take_of_length_le (by omega)]
   ·rw [List.take_of_length_le (by omega)] at h1;exact h1
end
end VE
end
section
namespace VE
open Go (IntKind)
section
variable {P:zQ} {L:Lib}
theorem zk (k id o:Nat):znR k (.ptr id o)=some (.ptr id (o+k)):=rfl
theorem zag {α:Type} (a:α) (l:List α):List.drop 1 (a::l)=l:=rfl
theorem zGB {α:Type} (a b:α) (l:List α):List.drop 2 (a::b::l)=l:=rfl
theorem zBh {α:Type} (a b c:α) (l:List α):List.drop 3 (a::b::c::l)=l:=rfl
end
end VE
end
section
namespace VE
open Go (IntKind)
section
variable {P:zQ} {L:Lib}
abbrev Nm (n:Int):AV:= .agg [zh n,.nils]
theorem zbA (hp:Hp) (ct id:Nat) (a:Int) (x y:AV):stC hp ct id 0 2 [.int .i64 a,.nils] (some (.cells true true true 2 [x,y]))=some (.tup [],zac hp id (.cells true true true 2 [.int .i64 a,.nils]),ct):=rfl
theorem zhZ (hp:Hp):zex .sl .nils .nils=some true:=rfl
theorem zai (b:Bool):zvM false (some b)=some (.bool b):=by cases b<;>rfl
theorem zp0 (f:Run) (tm:Env) (hp:Hp) (ct:Nat) (x y:X):z9 P L f tm hp ct (.mn [x,y])=rd hp ct (min2 (zy tm x) (zy tm y)):=by
 simp only [z9,rd,zG,zaG,zjh];cases min2 (zy tm x) (zy tm y)<;>rfl
theorem zij (f:Run) (tm:Env) (hp:Hp) (ct:Nat) (x y:X):z9 P L f tm hp ct (.mx [x,y])=rd hp ct (max2 (zy tm x) (zy tm y)):=by
 simp only [z9,rd,zG,zaG,zjh];cases max2 (zy tm x) (zy tm y)<;>rfl
theorem zkS (k k':IntKind) (x y:Int):min2 (.int k x) (.int k' y)=some (.int k (if y<x then y else x)):=rfl
theorem ze3 (k k':IntKind) (x y:Int):max2 (.int k x) (.int k' y)=some (.int k (if y>x then y else x)):=rfl
def sgn (n:Int):Int:=if n<0 then -1 else if n=0 then 0 else 1
theorem zxE (n:Int):(if (if n<1 then n else 1)> -1 then (if n<1 then n else 1) else -1)=sgn n:=by
 unfold sgn;by_cases h1:n<0
 ·rw [if_pos (show n<1 by omega),if_pos h1];split<;>omega
 ·by_cases h2:n=0
  ·subst h2;rfl
  ·rw [if_neg (show ¬n<1 by omega),if_neg h1,if_neg h2];rfl
theorem zJV (h:Has P L 117 zzl) (n:Int):zx P L 117 [zh n] (Nm n):=by
 unfold zx;rw [zd h];simp only [go_sem,reduceEqDiff,reduceAdd,reduceLeDiff,zzl,zi,Nat.zero_add,zbA];rfl
theorem zJn (h:Has P L 147 zlL) {n:Int} (hn: -9223372036854775808<n∧n<9223372036854775808):zx P L 147 [Nm n] (Nm (-n)):=by
 unfold zx;rw [zd h]
 simp only [go_sem,reduceEqDiff,reduceAdd,reduceLeDiff,zlL,zi,zbA,zhZ,zai,zk,Nat.zero_add,zag,show ¬n= -9223372036854775808 by omega,zf (n:=0-n) (by omega) (by omega)];simp only [Int.zero_sub];rfl
theorem zDy (h:Has P L 146 zny) (n:Int):zx P L 146 [Nm n] (zh (sgn n)):=by
 unfold zx;rw [zd h];simp only [go_sem,reduceEqDiff,reduceAdd,zny,zi,zk,Nat.zero_add,zp0,zij,zkS,ze3,zxE]
theorem zfN (hp:Hp) (p q:Bool):zex .b (.bool p) (.bool q)=some (p==q):=rfl
end
end VE
end
section
namespace VE
open Go (IntKind)
section
variable {P:zQ} {L:Lib}
theorem zaK {n:Nat} {sp:List AV→Option AV} (h:L.pure n=some sp) {f:Run} (vals:List AV):zp P L f n vals=sp vals:=by simp only [zp,h]
abbrev U64 (n:Int):AV:= .int .u64 n
theorem zHn {n:Int} (h1:0≤n) (h2:n<18446744073709551616):IntKind.wrap .u64 n=n:=by
 simp only [IntKind.wrap,IntKind.signed,IntKind.bits]
 have:n%2^64=n:=Int.emod_eq_of_lt h1 (by omega)
 rw [show ((2:Int)^64)=18446744073709551616 from rfl] at this;simpa using this
theorem zwk (n:Int):zjx (.toInt .u64) (zh n)=some (U64 (IntKind.wrap .u64 n)):=rfl
theorem znx (n:Int):zjx (.toInt .i64) (U64 n)=some (zh (IntKind.wrap .i64 n)):=rfl
theorem zf7 (b:Bool):zvM true (some b)=some (.bool (!b)):=by cases b<;>rfl
theorem zFL (a b c d:AV):zcp 0 [a,b] [c,d]=[a,b]:=rfl
theorem z8 (a b:AV) (r:List AV):ld1 2 true (a::b::r)=some (.agg [a,b]):=rfl
theorem zco (a b c d:AV) (r:List AV):ld1 4 true (a::b::c::d::r)=some (.agg [a,b,c,d]):=rfl
theorem zIi (h:Has P L 163 zm7) (h147:Has P L 147 zlL) {n:Int} (hn: -9223372036854775808<n∧n<9223372036854775808):zx P L 163 [Nm n] (Nm n.natAbs):=by
 have e1:=zJn h147 hn;unfold zx at e1 ⊢;rw [zd h];by_cases h0:n<0
 ·simp only [go_sem,reduceEqDiff,reduceAdd,zm7,zi,zbA,zk,Nat.zero_add,h0,z8,zj,e1];rw [show -n=(n.natAbs:Int) by omega];rfl
 ·simp only [go_sem,reduceEqDiff,reduceAdd,zm7,zi,zbA,zk,Nat.zero_add,h0,z8];rw [show ((n.natAbs:Nat):Int)=n by omega];rfl
theorem zmw {a b:Int} (hb:0<b):(a.tmod b<0→a/b=a.tdiv b-1∧a%b=a.tmod b+b)∧(¬a.tmod b<0→a/b=a.tdiv b∧a%b=a.tmod b):=by
 have h1:=Int.mul_tdiv_add_tmod a b;have h2:a.tmod b<b:=Int.tmod_lt_of_pos a hb;have h3: -b<a.tmod b:=Int.lt_tmod_of_pos a hb;refine ⟨fun h=>(Int.ediv_emod_unique hb).2 ⟨?_,?_,?_⟩,fun h=>(Int.ediv_emod_unique hb).2 ⟨?_,?_,?_⟩⟩
 ·rw [Int.mul_sub,Int.mul_one];omega
 ·omega
 ·omega
 ·omega
 ·omega
 ·omega
theorem zGL (h:Has P L 164 c164) {a b:Int} (ha: -4611686018427387904<a∧a<4611686018427387904) (hb:0<b∧b<4611686018427387904):zx P L 164 [Nm a,Nm b] (.tup [Nm (a/b),Nm (a%b)]):=by
 obtain ⟨f1,f2⟩:=zmw (a:=a) hb.1;have hq: -4611686018427387904<a.tdiv b∧a.tdiv b<4611686018427387904:=by
  have:=Int.natAbs_tdiv_le_natAbs a b
  omega
 have hr: -4611686018427387904<a.tmod b∧a.tmod b<4611686018427387904:=by
  have:=Int.tmod_lt_of_pos a hb.1
  have:=Int.lt_tmod_of_pos a hb.1
  omega
 unfold zx;rw [zd h];by_cases h0:a.tmod b<0
 ·obtain ⟨g1,g2⟩:=f1 h0;rw [g1,g2]
  simp only [go_sem,reduceEqDiff,reduceAdd,reduceLeDiff,c164,zi,zbA,zhZ,zai,zk,Nat.zero_add,zag,show ¬a= -9223372036854775808 by omega,zaC _ _ _ (show b≠0 by omega),zaw _ _ _ (show b≠0 by omega),h0,zf (n:=a.tdiv b) (by omega) (by omega),zf (n:=a.tdiv b-1) (by omega) (by omega),zf (n:=a.tmod b+b) (by omega) (by omega)];rfl
 ·obtain ⟨g1,g2⟩:=f2 h0;rw [g1,g2]
  simp only [go_sem,reduceEqDiff,reduceAdd,reduceLeDiff,c164,zi,zbA,zhZ,zai,zk,Nat.zero_add,zag,show ¬a= -9223372036854775808 by omega,zaC _ _ _ (show b≠0 by omega),zaw _ _ _ (show b≠0 by omega),h0,zf (n:=a.tdiv b) (by omega) (by omega)];rfl
theorem zGK (h:Has P L 148 ztu) (h146:Has P L 146 zny) (h164:Has P L 164 c164) {a b:Int} (ha: -4611686018427387904<a∧a<4611686018427387904) (hb:0<b∧b<4611686018427387904):zx P L 148 [Nm a,Nm b] (Nm (a/b)):=by
 have e1:=zDy h146 b;have e2:=zGL h164 ha hb;have e3:sgn b=1:=by unfold sgn;rw [if_neg (by omega),if_neg (by omega)]
 rw [e3] at e1;unfold zx at e1 e2 ⊢;rw [zd h];simp only [go_sem,reduceEqDiff,reduceAdd,ztu,Int.reduceLT,decide_false,zi,zbA,Nat.zero_add,z8,zj,e1,e2,zcl];rfl
theorem zon (a b:Nat) (hb:b≠0):Nat.gcd b (a%b)=Nat.gcd a b:=by
 rw [Nat.gcd_comm b,←Nat.gcd_rec,Nat.gcd_comm]
theorem zEg (h146:Has P L 146 zny) (h164:Has P L 164 c164) (G:Nat):
  ∀k s,(∃x y:Nat,zE [2,3,4] s=⟨[(2,.ptr 0 0),(3,.ptr 1 0),(4,.ptr 2 0)],[(2,.cells true true true 2 [zh 0,.nils]),(1,.cells true true true 2 [zh y,.nils]),(0,.cells true true true 2 [zh x,.nils])],3,0⟩∧x<4611686018427387904∧y<4611686018427387904∧Nat.gcd x y=G∧y=k)→
   ∃ex s',D P L (.loop [2,3,4] zfl) s=some (ex,s')∧∃tm,s'=⟨tm,[(2,.cells true true true 2 [zh 0,.nils]),(1,.cells true true true 2 [zh 0,.nils]),(0,.cells true true true 2 [zh G,.nils])],3,0⟩∧ex= .exit 0∧zc tm 2= .ptr 0 0∧zc tm 4= .ptr 2 0:=by
 refine zL (I:=fun k s=>∃x y:Nat,s=⟨[(2,.ptr 0 0),(3,.ptr 1 0),(4,.ptr 2 0)],[(2,.cells true true true 2 [zh 0,.nils]),(1,.cells true true true 2 [zh y,.nils]),(0,.cells true true true 2 [zh x,.nils])],3,0⟩∧x<4611686018427387904∧y<4611686018427387904∧Nat.gcd x y=G∧y=k)
  (Q:=fun ex s'=>∃tm,s'=⟨tm,[(2,.cells true true true 2 [zh 0,.nils]),(1,.cells true true true 2 [zh 0,.nils]),(0,.cells true true true 2 [zh G,.nils])],3,0⟩∧ex= .exit 0∧zc tm 2= .ptr 0 0∧zc tm 4= .ptr 2 0) ?_
 rintro k s ⟨x,y,rfl,hx,hy,hG,rfl⟩;have e1:=zDy h146 (y:Int);by_cases hy0:y=0
 ·right
  subst hy0;have e3:sgn ((0:Nat):Int)=0:=rfl;rw [e3] at e1;unfold zx at e1;simp only [go_sem,reduceEqDiff,zfl,decide_true,Bool.not_true,z8,zj,e1];obtain rfl:x=G:=by rw [←hG,Nat.gcd_zero_right]
  exact ⟨_,_,rfl,by simp,_,rfl,rfl,by simp only [go_sem,reduceEqDiff],by simp only [go_sem,reduceEqDiff]⟩
 ·left
  have e3:sgn (y:Int)=1:=by unfold sgn;rw [if_neg (by omega),if_neg (by omega)]
  rw [e3] at e1;have e2:=zGL h164 (a:=x) (b:=y) (by omega) (by omega);rw [show ((x:Int)%(y:Int))=((x%y:Nat):Int) from rfl] at e2;unfold zx at e1 e2;have hlt:=Nat.mod_lt x (show 0<y by omega);simp only [go_sem,reduceEqDiff,reduceAdd,zfl,Int.reduceEq,decide_false,Bool.not_false,zi,zbA,z8,zj,e1,e2,zcl];refine ⟨_,x%y,rfl,hlt,y,x%y,?_,hy,by omega,by rw [←hG];exact zon x y hy0,rfl⟩
  simp only [go_sem,reduceEqDiff,reduceAdd,za,zFL,Bool.true_and]
theorem zJW (h:Has P L 130 ztq) (h163:Has P L 163 zm7) (h147:Has P L 147 zlL) (h146:Has P L 146 zny) (h164:Has P L 164 c164) {a b:Int} (ha: -4611686018427387904<a∧a<4611686018427387904) (hb: -4611686018427387904<b∧b<4611686018427387904):zx P L 130 [Nm a,Nm b] (Nm (Int.gcd a b:Nat)):=by
 have e1:=zIi h163 h147 (n:=a) (by omega);have e2:=zIi h163 h147 (n:=b) (by omega);unfold zx at e1 e2 ⊢;rw [zd h];simp only [go_sem,reduceEqDiff,reduceAdd,ztq,zi,zbA,z8,zj,e1,e2,zo,Nat.zero_add];generalize hq:D P L (.loop [2,3,4] zfl) _=q;obtain ⟨ex,s,rfl,tm,rfl,rfl,h2,h4⟩:=zY hq (zEg (P:=P) (L:=L) h146 h164 (Int.gcd a b) b.natAbs) ⟨a.natAbs,b.natAbs,by simp only [go_sem,reduceEqDiff,reduceAdd,za],by omega,by omega,rfl,rfl⟩;simp only [go_sem,reduceEqDiff,reduceAdd,za,h2,h4,zbA,z8];rfl
abbrev Fq (n d:Int):AV:= .agg [zh n,.nils,zh d,.nils]
theorem zuB (hp:Hp) (ct id:Nat) (a b:Int) (x y z w:AV):stC hp ct id 0 4 [.int .i64 a,.nils,.int .i64 b,.nils] (some (.cells true true true 4 [x,y,z,w]))=some (.tup [],zac hp id (.cells true true true 4 [.int .i64 a,.nils,.int .i64 b,.nils]),ct):=rfl
theorem zuh (tm:Env) (x y z w:AV) (a:Int) (r:List (Nat×Nat×X)):zfa tm [x,y,z,w] 0 2 [.int .i64 a,.nils] r=fill tm [.int .i64 a,.nils,z,w] r:=rfl
theorem zxs (tm:Env) (x y z w:AV) (a:Int) (r:List (Nat×Nat×X)):zfa tm [x,y,z,w] 2 2 [.int .i64 a,.nils] r=fill tm [x,y,.int .i64 a,.nils] r:=rfl
theorem n101 (h:Has P L 101 c101) (h148:Has P L 148 ztu) (h130:Has P L 130 ztq) (h163:Has P L 163 zm7) (h147:Has P L 147 zlL) (h146:Has P L 146 zny) (h164:Has P L 164 c164) {a b:Int} (ha: -4611686018427387904<a∧a<4611686018427387904) (hb:0<b∧b<4611686018427387904):
  zx P L 101 [Nm a,Nm b] (Fq (a/(Int.gcd a b:Nat)) (b/(Int.gcd a b:Nat))):=by
 have e1:=zDy h146 b;have e3:sgn b=1:=by unfold sgn;rw [if_neg (by omega),if_neg (by omega)]
 rw [e3] at e1;have e2:=zJW h130 h163 h147 h146 h164 ha (b:=b) (by omega);have hg:(0:Int)<(Int.gcd a b:Nat):=by
  have:=Int.gcd_pos_of_ne_zero_right a (show b≠0 by omega)
  omega
 have hg2:((Int.gcd a b:Nat):Int)<4611686018427387904:=by
  have:=Int.gcd_le_natAbs_right a (show b≠0 by omega)
  omega
 have e4:=zGK h148 h146 h164 ha (b:=(Int.gcd a b:Nat)) ⟨hg,hg2⟩;have e5:=zGK h148 h146 h164 (a:=b) (b:=(Int.gcd a b:Nat)) (by omega) ⟨hg,hg2⟩;unfold zx at e1 e2 e4 e5 ⊢;rw [zd h];by_cases hb1:b=1
 ·subst hb1;rw [Int.gcd_one];simp only [go_sem,reduceEqDiff,reduceAdd,c101,Int.reduceLT,decide_false,decide_true,zi,zuB,z8,zj,e1,zk,Nat.zero_add,zag,zhZ,zai,zuh,zxs];rw [show a/((1:Nat):Int)=a from Int.ediv_one a];rfl
 ·simp only [go_sem,reduceEqDiff,reduceAdd,c101,Int.reduceLT,decide_false,zi,zbA,zuB,z8,zj,e1,zk,Nat.zero_add,zag,zhZ,zai,hb1,e2,e4,e5,zo,zuh,zxs];rfl
end
end VE
end
section
namespace VE
def zbw (a b:Int):Int:=a/(Int.gcd a b:Nat)
def zby (a b:Int):Int:=b/(Int.gcd a b:Nat)
theorem zhR {a b:Int} (hb:0<b):(0:Int)<(Int.gcd a b:Nat):=by
 have:=Int.gcd_pos_of_ne_zero_right a (show b≠0 by omega)
 omega
theorem zE6 (a b:Int):a=(Int.gcd a b:Nat)*zbw a b:=(Int.mul_ediv_cancel' (Int.gcd_dvd_left a b)).symm
theorem zFT (a b:Int):b=(Int.gcd a b:Nat)*zby a b:=(Int.mul_ediv_cancel' (Int.gcd_dvd_right a b)).symm
theorem zfX {a b:Int} (hb:0<b):0<zby a b:=by
 have h1:=zhR (a:=a) hb;have h2:=zFT a b;rcases Int.lt_trichotomy (zby a b) 0 with h | h | h
 ·have:=Int.mul_neg_of_pos_of_neg h1 h;omega
 ·rw [h,Int.mul_zero] at h2;omega
 ·exact h
theorem zn5 (a b:Int):(zbw a b).natAbs≤a.natAbs:=by
 unfold zbw;rw [Int.natAbs_ediv_of_dvd (Int.gcd_dvd_left a b)];exact Nat.div_le_self _ _
theorem zoV (a b:Int):(zby a b).natAbs≤b.natAbs:=by
 unfold zby;rw [Int.natAbs_ediv_of_dvd (Int.gcd_dvd_right a b)];exact Nat.div_le_self _ _
def zjt (a b:Int):List Nat:=if zby a b=1 then zS (zbw a b) else zS (zbw a b)++[47]++zS (zby a b)
end VE
end
