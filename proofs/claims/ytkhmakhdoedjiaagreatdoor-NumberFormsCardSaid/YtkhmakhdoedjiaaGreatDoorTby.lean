import Derived.Test.YtkhmakhdoedjiaaGreatDoorTbx
import Derived.Test.YtkhmakhdoedjiaaGreatDoorTat
import Derived.Test.YtkhmakhdoedjiaaGreatDoorTbq
import Derived.Test.YtkhmakhdoedjiaaGreatDoorTbc
import Derived.Test.YtkhmakhdoedjiaaGreatDoorTbp
set_option linter.all false
set_option maxRecDepth 100000
open Nat (reduceAdd reduceEqDiff reduceLT reduceLeDiff)
section
namespace VE
open Go (IntKind)
section
variable {P:zN} {L:Lib}
theorem zQL (h:Has P L 470 zu9) {s:List Nat} (hs:s.length≤1000000):zK P L 470 [.str s] (.bool (ztc s)):=by
 have key:=zS (P:=P) (L:=L) (live:=[0,3]) (a:=zcf)
  (I:=fun k st=>∃i:Nat,st=⟨[(0,.str s),(3,zh i)],[],0,0⟩∧i+k=s.length∧zbN (decide (i=0)) (s.drop i)=zbN true s)
  (Q:=fun ex st=>∃tm ct,st=⟨tm,[],ct,0⟩∧((ex= .ret∧zc tm 2= .bool false∧zbN true s=false)∨(ex= .exit 0∧zbN true s=true))) ?_
 ·unfold zK ztc;rw [zf h]
  cases s with
  | nil=>
   simp only [go_sem,reduceEqDiff,reduceLeDiff,zu9,List.length_nil,show ((0:Nat):Int)<1 by decide,decide_true];rfl
  | cons b r=>
   rw [show decide (b::r≠[])=true by simp,Bool.true_and];by_cases hl:r.length+1≤24
   ·rw [show decide ((b::r).length≤24)=true from decide_eq_true hl,Bool.and_true];simp only [go_sem,reduceEqDiff,zu9,List.length_cons,show ¬((r.length+1:Nat):Int)<1 by omega,show ¬(24:Int)<((r.length+1:Nat):Int) by omega,decide_false];generalize hq:D P L (.loop [0,3] zcf) _=q;obtain ⟨ex,st,rfl,tm,ct,rfl,h2⟩:=z8 hq (key (b::r).length) ⟨0,by simp only [go_sem,reduceEqDiff,za]<;>rfl,by omega,by simp⟩
    rcases h2 with ⟨rfl,h2,h3⟩ | ⟨rfl,h3⟩
    ·simp only [go_sem,h2,h3]
    ·simp only [go_sem,za,h3]
   ·rw [show decide ((b::r).length≤24)=false from decide_eq_false hl,Bool.and_false];simp only [go_sem,reduceEqDiff,zu9,List.length_cons,show ¬((r.length+1:Nat):Int)<1 by omega,show (24:Int)<((r.length+1:Nat):Int) by omega,decide_false,decide_true]
 ·rintro k st ⟨i,rfl,hk,hn⟩;by_cases hi:i<s.length
  ·rw [zjO hi] at hn;by_cases g97:97≤s[i]
   ·skip
    by_cases g122:s[i]≤122
    ·skip
     left
     simp only [go_sem,reduceEqDiff,zcf,show (i:Int)<s.length by omega,zbb hi,decide_true,Bool.not_true,show (97:Int)≤((s[i]:Nat):Int) by omega,show ((s[i]:Nat):Int)≤122 by omega];refine ⟨_,k-1,rfl,by omega,i+1,?_,by omega,by rw [decide_eq_false (by omega),←hn];simp [zeo,zd6,show 97≤s[i] by omega,show s[i]≤122 by omega,show 65≤s[i] by omega,show ¬s[i]≤90 by omega]⟩;rw [ze (by omega) (by omega)];simp only [go_sem,reduceEqDiff,za]<;>rfl
    ·skip
     by_cases gi0:i=0
     ·skip
      right
      have hf:zbN true s=false:=by
       have hl:zeo s[i]=false:=by simp [zeo,show 97≤s[i] by omega,show ¬s[i]≤122 by omega,show 65≤s[i] by omega,show ¬s[i]≤90 by omega]
       rw [←hn,hl,decide_eq_true gi0];rfl
      simp only [go_sem,reduceEqDiff,zcf,show (i:Int)<s.length by omega,zbb hi,decide_true,decide_false,Bool.not_false,show (97:Int)≤((s[i]:Nat):Int) by omega,show ¬((s[i]:Nat):Int)≤122 by omega,show (65:Int)≤((s[i]:Nat):Int) by omega,show ¬((s[i]:Nat):Int)≤90 by omega,eq_true (show (i:Int)=0 by omega)];exact ⟨_,_,rfl,by simp,_,_,rfl,.inl ⟨rfl,by simp only [go_sem],hf⟩⟩
     ·skip
      right
      have hf:zbN true s=false:=by rw [←hn];simp [zeo,zd6,show 97≤s[i] by omega,show ¬s[i]≤122 by omega,show 65≤s[i] by omega,show ¬s[i]≤90 by omega,show ¬i=0 by omega,show 48≤s[i] by omega,show ¬s[i]≤57 by omega,show ¬s[i]=95 by omega]
      simp only [go_sem,reduceEqDiff,zcf,show (i:Int)<s.length by omega,zbb hi,decide_true,decide_false,Bool.not_false,show (97:Int)≤((s[i]:Nat):Int) by omega,show ¬((s[i]:Nat):Int)≤122 by omega,show (65:Int)≤((s[i]:Nat):Int) by omega,show ¬((s[i]:Nat):Int)≤90 by omega,show ¬(i:Int)=0 by omega,show (48:Int)≤((s[i]:Nat):Int) by omega,show ¬((s[i]:Nat):Int)≤57 by omega,show ¬((s[i]:Nat):Int)=95 by omega];exact ⟨_,_,rfl,by simp,_,_,rfl,.inl ⟨rfl,by simp only [go_sem],hf⟩⟩
   ·skip
    by_cases g65:65≤s[i]
    ·skip
     by_cases g90:s[i]≤90
     ·skip
      left
      simp only [go_sem,reduceEqDiff,zcf,show (i:Int)<s.length by omega,zbb hi,decide_true,decide_false,Bool.not_true,show ¬(97:Int)≤((s[i]:Nat):Int) by omega,show (65:Int)≤((s[i]:Nat):Int) by omega,show ((s[i]:Nat):Int)≤90 by omega];refine ⟨_,k-1,rfl,by omega,i+1,?_,by omega,by rw [decide_eq_false (by omega),←hn];simp [zeo,zd6,show ¬97≤s[i] by omega,show 65≤s[i] by omega,show s[i]≤90 by omega,show s[i]≤122 by omega]⟩;rw [ze (by omega) (by omega)];simp only [go_sem,reduceEqDiff,za]<;>rfl
     ·skip
      by_cases gi0:i=0
      ·skip
       right
       have hf:zbN true s=false:=by
        have hl:zeo s[i]=false:=by simp [zeo,show ¬97≤s[i] by omega,show 65≤s[i] by omega,show ¬s[i]≤90 by omega,show s[i]≤122 by omega]
        rw [←hn,hl,decide_eq_true gi0];rfl
       simp only [go_sem,reduceEqDiff,zcf,show (i:Int)<s.length by omega,zbb hi,decide_true,decide_false,Bool.not_false,show ¬(97:Int)≤((s[i]:Nat):Int) by omega,show (65:Int)≤((s[i]:Nat):Int) by omega,show ¬((s[i]:Nat):Int)≤90 by omega,eq_true (show (i:Int)=0 by omega)];exact ⟨_,_,rfl,by simp,_,_,rfl,.inl ⟨rfl,by simp only [go_sem],hf⟩⟩
      ·skip
       by_cases g95:s[i]=95
       ·skip
        left
        simp only [go_sem,reduceEqDiff,zcf,show (i:Int)<s.length by omega,zbb hi,decide_true,decide_false,Bool.not_true,Bool.not_false,show ¬(97:Int)≤((s[i]:Nat):Int) by omega,show (65:Int)≤((s[i]:Nat):Int) by omega,show ¬((s[i]:Nat):Int)≤90 by omega,show ¬(i:Int)=0 by omega,show (48:Int)≤((s[i]:Nat):Int) by omega,show ¬((s[i]:Nat):Int)≤57 by omega,eq_true (show ((s[i]:Nat):Int)=95 by omega)];refine ⟨_,k-1,rfl,by omega,i+1,?_,by omega,by rw [decide_eq_false (by omega),←hn];simp [zeo,zd6,show ¬i=0 by omega,show s[i]=95 by omega]⟩;rw [ze (by omega) (by omega)];simp only [go_sem,reduceEqDiff,za]<;>rfl
       ·skip
        right
        have hf:zbN true s=false:=by rw [←hn];simp [zeo,zd6,show ¬97≤s[i] by omega,show 65≤s[i] by omega,show ¬s[i]≤90 by omega,show s[i]≤122 by omega,show ¬i=0 by omega,show 48≤s[i] by omega,show ¬s[i]≤57 by omega,show ¬s[i]=95 by omega]
        simp only [go_sem,reduceEqDiff,zcf,show (i:Int)<s.length by omega,zbb hi,decide_true,decide_false,Bool.not_false,show ¬(97:Int)≤((s[i]:Nat):Int) by omega,show (65:Int)≤((s[i]:Nat):Int) by omega,show ¬((s[i]:Nat):Int)≤90 by omega,show ¬(i:Int)=0 by omega,show (48:Int)≤((s[i]:Nat):Int) by omega,show ¬((s[i]:Nat):Int)≤57 by omega,show ¬((s[i]:Nat):Int)=95 by omega];exact ⟨_,_,rfl,by simp,_,_,rfl,.inl ⟨rfl,by simp only [go_sem],hf⟩⟩
    ·skip
     by_cases gi0:i=0
     ·skip
      right
      have hf:zbN true s=false:=by
       have hl:zeo s[i]=false:=by simp [zeo,show ¬97≤s[i] by omega,show ¬65≤s[i] by omega,show s[i]≤122 by omega,show s[i]≤90 by omega]
       rw [←hn,hl,decide_eq_true gi0];rfl
      simp only [go_sem,reduceEqDiff,zcf,show (i:Int)<s.length by omega,zbb hi,decide_true,decide_false,Bool.not_false,show ¬(97:Int)≤((s[i]:Nat):Int) by omega,show ¬(65:Int)≤((s[i]:Nat):Int) by omega,eq_true (show (i:Int)=0 by omega)];exact ⟨_,_,rfl,by simp,_,_,rfl,.inl ⟨rfl,by simp only [go_sem],hf⟩⟩
     ·skip
      by_cases g48:48≤s[i]
      ·skip
       by_cases g57:s[i]≤57
       ·skip
        left
        simp only [go_sem,reduceEqDiff,zcf,show (i:Int)<s.length by omega,zbb hi,decide_true,decide_false,Bool.not_true,Bool.not_false,show ¬(97:Int)≤((s[i]:Nat):Int) by omega,show ¬(65:Int)≤((s[i]:Nat):Int) by omega,show ¬(i:Int)=0 by omega,show (48:Int)≤((s[i]:Nat):Int) by omega,show ((s[i]:Nat):Int)≤57 by omega];refine ⟨_,k-1,rfl,by omega,i+1,?_,by omega,by rw [decide_eq_false (by omega),←hn];simp [zeo,zd6,show ¬97≤s[i] by omega,show ¬65≤s[i] by omega,show s[i]≤122 by omega,show s[i]≤90 by omega,show ¬i=0 by omega,show 48≤s[i] by omega,show s[i]≤57 by omega,show ¬s[i]=95 by omega]⟩;rw [ze (by omega) (by omega)];simp only [go_sem,reduceEqDiff,za]<;>rfl
       ·skip
        right
        have hf:zbN true s=false:=by rw [←hn];simp [zeo,zd6,show ¬97≤s[i] by omega,show ¬65≤s[i] by omega,show s[i]≤122 by omega,show s[i]≤90 by omega,show ¬i=0 by omega,show 48≤s[i] by omega,show ¬s[i]≤57 by omega,show ¬s[i]=95 by omega]
        simp only [go_sem,reduceEqDiff,zcf,show (i:Int)<s.length by omega,zbb hi,decide_true,decide_false,Bool.not_false,show ¬(97:Int)≤((s[i]:Nat):Int) by omega,show ¬(65:Int)≤((s[i]:Nat):Int) by omega,show ¬(i:Int)=0 by omega,show (48:Int)≤((s[i]:Nat):Int) by omega,show ¬((s[i]:Nat):Int)≤57 by omega,show ¬((s[i]:Nat):Int)=95 by omega];exact ⟨_,_,rfl,by simp,_,_,rfl,.inl ⟨rfl,by simp only [go_sem],hf⟩⟩
      ·skip
       right
       have hf:zbN true s=false:=by rw [←hn];simp [zeo,zd6,show ¬97≤s[i] by omega,show ¬65≤s[i] by omega,show s[i]≤122 by omega,show s[i]≤90 by omega,show ¬i=0 by omega,show ¬48≤s[i] by omega,show s[i]≤57 by omega,show ¬s[i]=95 by omega]
       simp only [go_sem,reduceEqDiff,zcf,show (i:Int)<s.length by omega,zbb hi,decide_true,decide_false,Bool.not_false,show ¬(97:Int)≤((s[i]:Nat):Int) by omega,show ¬(65:Int)≤((s[i]:Nat):Int) by omega,show ¬(i:Int)=0 by omega,show ¬(48:Int)≤((s[i]:Nat):Int) by omega,show ¬((s[i]:Nat):Int)=95 by omega];exact ⟨_,_,rfl,by simp,_,_,rfl,.inl ⟨rfl,by simp only [go_sem],hf⟩⟩
  ·right
   simp only [go_sem,reduceEqDiff,zcf,show ¬(i:Int)<s.length by omega];refine ⟨_,_,rfl,by simp,_,_,rfl,.inr ⟨rfl,?_⟩⟩;rw [←hn,List.drop_eq_nil_of_le (by omega)];cases decide (i=0)<;>rfl
end
end VE
end
section
namespace VE
open Go (IntKind)
section
variable {P:zN} {L:Lib}
theorem zM5 (h:Has P L 277 zid) (h291:Has P L 291 zo8) (h292:Has P L 292 zkF) {a b:Int} (ha: -4000000000000000000≤a∧a≤4000000000000000000) (hb:0<b∧b≤4000000000000000000):
  zK P L 277 [zh (-a),zh (-b)] (.str (zoO a b)):=by
 have hn:=zn5 a b;have hd:=znd a b;have hp:=zfD (a:=a) hb.1;have e1:=zNT h291 (a:=a.natAbs) (b:=b.natAbs) (by omega) (by omega);have e2:=zyX h292 (n:=(za2 a b).natAbs) (by omega);have e3:=zyX h292 (n:=(zbl a b).natAbs) (by omega);have hg:=zgZ (a:=a) hb.1;rw [show ((b.natAbs:Nat):Int)=b by omega,show Nat.gcd a.natAbs b.natAbs=Int.gcd a b from rfl] at e1;rw [show (((zbl a b).natAbs:Nat):Int)=zbl a b by omega] at e3;have hl1:=znP (n:=za2 a b) (by omega);have hl2:=zc0 (n:=(za2 a b).natAbs) (by omega);have hl3:=zc0 (n:=(zbl a b).natAbs) (by omega);have hT:=zq7 (a:=a) hb.1;have hS:=za3 (za2 a b);unfold zK at e1 e2 e3 ⊢;rw [zf h];by_cases h0:za2 a b<0
 ·rw [if_pos h0] at hS;by_cases h1:1<zbl a b
  ·rw [if_pos h1] at hT
   simp only [go_sem,reduceEqDiff,zid,show ¬-a< -4000000000000000000 by omega,show ¬4000000000000000000< -a by omega,show ¬-b< -4000000000000000000 by omega,show ¬4000000000000000000< -b by omega,show -b<0 by omega,decide_true,show (0:Int) - -a=a by omega,show (0:Int) - -b=b by omega,ze (n:=a) (by omega) (by omega),ze (n:=b) (by omega) (by omega),ze (n:=0-a) (by omega) (by omega),zeq,zb9,zei,e1,zai _ _ _ (show ((Int.gcd a b:Nat):Int)≠0 by omega),zde,zdj,ze (n:=za2 a b) (by omega) (by omega),ze (n:=zbl a b) (by omega) (by omega),h0,ze (n:=0-za2 a b) (by omega) (by omega),e2,zap (a:=[45]) (b:=zo (za2 a b).natAbs) (by simp;omega),hS,h1,zap (a:=zW (za2 a b)) (b:=[47]) (by simp;omega),e3,zap (a:=zW (za2 a b)++[47]) (b:=zo (zbl a b).natAbs) (by simp;omega),hT]
  ·rw [if_neg h1] at hT
   simp only [go_sem,reduceEqDiff,zid,show ¬-a< -4000000000000000000 by omega,show ¬4000000000000000000< -a by omega,show ¬-b< -4000000000000000000 by omega,show ¬4000000000000000000< -b by omega,show -b<0 by omega,decide_true,show (0:Int) - -a=a by omega,show (0:Int) - -b=b by omega,ze (n:=a) (by omega) (by omega),ze (n:=b) (by omega) (by omega),ze (n:=0-a) (by omega) (by omega),zeq,zb9,zei,e1,zai _ _ _ (show ((Int.gcd a b:Nat):Int)≠0 by omega),zde,zdj,ze (n:=za2 a b) (by omega) (by omega),ze (n:=zbl a b) (by omega) (by omega),h0,ze (n:=0-za2 a b) (by omega) (by omega),e2,zap (a:=[45]) (b:=zo (za2 a b).natAbs) (by simp;omega),hS,h1,hT]
 ·rw [if_neg h0] at hS;by_cases h1:1<zbl a b
  ·rw [if_pos h1] at hT
   simp only [go_sem,reduceEqDiff,zid,show ¬-a< -4000000000000000000 by omega,show ¬4000000000000000000< -a by omega,show ¬-b< -4000000000000000000 by omega,show ¬4000000000000000000< -b by omega,show -b<0 by omega,decide_true,show (0:Int) - -a=a by omega,show (0:Int) - -b=b by omega,ze (n:=a) (by omega) (by omega),ze (n:=b) (by omega) (by omega),ze (n:=0-a) (by omega) (by omega),zeq,zb9,zei,e1,zai _ _ _ (show ((Int.gcd a b:Nat):Int)≠0 by omega),zde,zdj,ze (n:=za2 a b) (by omega) (by omega),ze (n:=zbl a b) (by omega) (by omega),h0,ze (n:=0-za2 a b) (by omega) (by omega),e2,zap (a:=[]) (b:=zo (za2 a b).natAbs) (by simp;omega),hS,h1,zap (a:=zW (za2 a b)) (b:=[47]) (by simp;omega),e3,zap (a:=zW (za2 a b)++[47]) (b:=zo (zbl a b).natAbs) (by simp;omega),hT]
  ·rw [if_neg h1] at hT
   simp only [go_sem,reduceEqDiff,zid,show ¬-a< -4000000000000000000 by omega,show ¬4000000000000000000< -a by omega,show ¬-b< -4000000000000000000 by omega,show ¬4000000000000000000< -b by omega,show -b<0 by omega,decide_true,show (0:Int) - -a=a by omega,show (0:Int) - -b=b by omega,ze (n:=a) (by omega) (by omega),ze (n:=b) (by omega) (by omega),ze (n:=0-a) (by omega) (by omega),zeq,zb9,zei,e1,zai _ _ _ (show ((Int.gcd a b:Nat):Int)≠0 by omega),zde,zdj,ze (n:=za2 a b) (by omega) (by omega),ze (n:=zbl a b) (by omega) (by omega),h0,ze (n:=0-za2 a b) (by omega) (by omega),e2,zap (a:=[]) (b:=zo (za2 a b).natAbs) (by simp;omega),hS,h1,hT]
end
end VE
end
section
namespace VE
open Go (IntKind)
theorem zuH {n:Int} {d:Nat} (hd:0<d):n/(d:Int)=if n<0∧0<n.natAbs%d then -((n.natAbs/d:Nat)+1:Int) else za5 (decide (n<0)) (n.natAbs/d):=by
 have hdm:=Nat.div_add_mod n.natAbs d;have hm:=Nat.mod_lt n.natAbs hd;generalize n.natAbs/d=q at*
 generalize hr:n.natAbs%d=r at*
 by_cases h0:n<0
 ·have hn:n= -((d*q+r:Nat):Int):=by omega
  by_cases h1:0<r
  ·rw [if_pos ⟨h0,h1⟩];rw [hn]
   refine (Int.ediv_emod_unique (a:= -((d*q+r:Nat):Int)) (b:=(d:Int)) (r:=(d:Int)-r) (q:= -((q:Int)+1)) (by omega)).2 ⟨?_,by omega,by omega⟩ |>.1;rw [Int.mul_neg,Int.mul_add,Int.mul_one,Int.natCast_add,Int.natCast_mul];omega
  ·have:r=0:=by omega
   subst this;rw [if_neg (by omega)];unfold za5;rw [if_pos (by simpa using h0),hn,Nat.add_zero,Int.natCast_mul,←Int.mul_neg,Int.mul_ediv_cancel_left _ (by omega)]
 ·rw [if_neg (by omega)];unfold za5;rw [if_neg (by simpa using h0)];have hn:n=((d*q+r:Nat):Int):=by omega
  rw [hn];rw [←Int.natCast_ediv,Nat.mul_add_div hd,Nat.div_eq_of_lt hm,Nat.add_zero]
section
variable {P:zN} {L:Lib}
theorem zQH (h:Rm P L) (h338:Has P L 338 zuo) {a:Rat} {K:Nat} (ka:Hq K a) (hK:K≤8000000000):zK P L 338 [.str (RT a)] (.bool (decide (a.den=1))):=by
 have hl:=zo4 ka;have e0:=ztp h.h272 (s:=RT a) (by omega);unfold zK at e0 ⊢;rw [zf h338];by_cases hd:a.den=1
 ·have hs:zL (RT a)=(RT a).length:=by
   unfold RT;rw [if_pos hd]
   have:=zcr a.num []
   rw [List.append_nil] at this ⊢;rw [this];simp [zL]
  rw [hs] at e0;simp only [go_sem,reduceEqDiff,zuo,e0,hd,decide_true]
 ·have hs:zL (RT a)<(RT a).length:=by
   unfold RT;rw [if_neg hd,zcr];simp [zL]
  rw [decide_eq_false hd];simp only [go_sem,reduceEqDiff,zuo,e0,show ¬((zL (RT a):Nat):Int)=((RT a).length:Int) by omega,decide_false]
theorem zQn (h:Rm P L) (h339:Has P L 339 zpB) {v w:AV} {n d:Int} {K:Nat} (hK:K≤7000000000) (hv:IsR v n) (hw:IsR w d) (kn:Bd K n) (kd:Bd K d) (hd:0<d):∃r,zK P L 339 [v,w] r∧IsR r (n/d):=by
 obtain ⟨x,a,rfl,hx,ha,na,va⟩:=hv;obtain ⟨y,b,rfl,hy,hb,nb,vb⟩:=hw;have la:=Nat.le_trans (zem ha na (by rw [va];exact kn.r)) hK
 have lb:=Nat.le_trans (zem hb nb (by rw [vb];exact kd.r)) hK
 obtain ⟨q,r,lq,lr,e1,hq,hr,dq,nq,dr,nr,vq,vr⟩:=zOJ h hx hy ha hb na nb (by omega) (by omega) (by omega);rw [va,vb] at vq vr;have hlq:lq.length≤7000000000:=Nat.le_trans (zem dq nq (by rw [vq];exact Nat.lt_of_le_of_lt (Nat.div_le_self _ _) kn.r)) hK
 have hfl:=zuH (n:=n) (d:=d.natAbs) (by omega);rw [show ((d.natAbs:Nat):Int)=d by omega] at hfl;have hr0:(0<n.natAbs%d.natAbs)↔0<lr.length:=by
  rw [←vr];constructor
  ·intro h1;rcases Nat.eq_zero_or_pos lr.length with h0 | h0
   ·rw [List.eq_nil_of_length_eq_zero h0] at h1;simp [dv] at h1
   ·exact h0
  ·intro h1;rcases Nat.eq_zero_or_pos (dv lr) with h0 | h0
   ·have:=zmH nr dr h0;subst this;simp at h1
   ·exact h0
 by_cases hc:n<0∧0<lr.length
 ·obtain ⟨c1,c2⟩:=hc;rw [if_pos ⟨c1,hr0.2 c2⟩] at hfl;have hone:IsI (.vsl true 1 [zh 1]) [(1:Int)]:=zcd true [(1:Int)];obtain ⟨z,out,e2,hz,hdo,hvo,hlo⟩:=zPC h.h295 h.h302 hq hone dq (dg_one.2 (by decide)) (by omega) (by simp);simp only [List.length_cons,List.length_nil] at hlo;obtain ⟨s,e3,hs⟩:=zA9 h.h294 h.h300 (decide (n<0)) hz hdo (by omega);have hval:za5 (decide (n<0)) (dv out)=n/d:=by
   rw [hvo,vq,hfl];unfold za5;rw [if_pos (by simpa using c1)];simp [dv]
  rw [hval] at hs;refine ⟨s,?_,hs⟩;obtain ⟨sw,sl,rfl,hsw,_,_,_⟩:=hs;unfold zK at e1 e2 e3 ⊢;rw [zf h339];simp only [c1,decide_true] at e3 ⊢;simp only [go_sem,reduceEqDiff,reduceAdd,reduceLT,reduceLeDiff,Nat.mul_one,zpB,zu,hx.pu,hx.frz,hx.one,hy.pu,hy.frz,hy.one,zI,Nat.zero_add,zak,e1,hq.frz,hq.shut1,hr.len,hr.shut1,show (0:Int)<(lr.length:Int) by omega,decide_true,e2,hz.frz,e3,hsw.pu,hsw.one,zO,zcS];rcases hsw with ⟨rfl,_⟩ | ⟨e,rfl⟩<;>rfl
 ·rw [if_neg (fun e=>hc ⟨e.1,hr0.1 e.2⟩)] at hfl;obtain ⟨s,e3,hs⟩:=zA9 h.h294 h.h300 (decide (n<0)) hq dq (by omega);rw [vq,←hfl] at hs;refine ⟨s,?_,hs⟩;obtain ⟨sw,sl,rfl,hsw,_,_,_⟩:=hs;unfold zK at e1 e3 ⊢;rw [zf h339];by_cases h0:n<0
  ·have hl0:lr.length=0:=by
    rcases Nat.eq_zero_or_pos lr.length with h1 | h1
    ·exact h1
    ·exact absurd ⟨h0,h1⟩ hc
   simp only [h0,decide_true] at e3 ⊢;simp only [go_sem,reduceEqDiff,reduceAdd,zpB,zu,hx.pu,hx.frz,hx.one,hy.pu,hy.frz,hy.one,zI,Nat.zero_add,zak,e1,hq.frz,hq.shut1,hr.len,hr.shut1,hl0,show ¬(0:Int)<((0:Nat):Int) by omega,e3,hsw.pu,hsw.one,zO,zcS];rcases hsw with ⟨rfl,_⟩ | ⟨e,rfl⟩<;>rfl
  ·simp only [h0,decide_false] at e3 ⊢;simp only [go_sem,reduceEqDiff,reduceAdd,zpB,zu,hx.pu,hx.frz,hx.one,hy.pu,hy.frz,hy.one,zI,Nat.zero_add,zak,e1,hq.frz,hq.shut1,hr.shut1,e3,hsw.pu,hsw.one,zO,zcS];rcases hsw with ⟨rfl,_⟩ | ⟨e,rfl⟩<;>rfl
theorem zQB (h:Rm P L) (h336:Has P L 336 zw2) (h338:Has P L 338 zuo) (h339:Has P L 339 zpB) {a:Rat} {K:Nat} (ka:Hq K a) (hK:K≤7000000000):zK P L 336 [.str (RT a)] (.str (RT (a.floor:Rat))):=by
 have e0:=zQH h h338 ka (by omega);unfold zK at e0 ⊢;rw [zf h336];by_cases hd:a.den=1
 ·rw [decide_eq_true hd] at e0;have hf:(a.floor:Rat)=a:=by
   rw [Rat.floor_def,hd];simp only [Int.natCast_one,Int.ediv_one];exact (zsg a hd).symm
  rw [hf];simp only [go_sem,reduceEqDiff,zw2,e0]
 ·rw [decide_eq_false hd] at e0;obtain ⟨x,y,e1,hx,hy⟩:=zOA h ka (by omega);obtain ⟨r,e2,hr⟩:=zQn h h339 (K:=K) hK hx hy ka.1 ka.2 (zhE a);rw [←Rat.floor_def] at hr;have kf:Bd K a.floor:=ka.1.le (by
   rw [Rat.floor_def]
   exact Int.natAbs_ediv_le_natAbs _ _)
  obtain ⟨e3,_⟩:=zQI (K:=K) h.h282 h.h292 (by omega) hr kf.r;rw [zIK];obtain ⟨xw,xl,rfl,hxw,_,_,_⟩:=hx;obtain ⟨yw,yl,rfl,hyw,_,_,_⟩:=hy;obtain ⟨rw',rl,rfl,hrw,_,_,_⟩:=hr;unfold zK at e1 e2 e3;simp only [go_sem,reduceEqDiff,reduceAdd,zw2,e0,zu,e1,hxw.pu,hxw.frz,hxw.one,hyw.pu,hyw.frz,hyw.one,hrw.frz,zG,zO,zcV,zcS,zHy,e2,e3]
end
end VE
end
section
namespace VE
open Go (IntKind)
section
variable {P:zN} {L:Lib}
theorem znC {a:Rat} {K:Nat} (h:Hq K a) (hK:1≤K):Hq K ((a.floor:Int):Rat):=by
 refine ⟨?_,?_⟩
 ·exact h.1.le (by
   rw [Rat.num_intCast,Rat.floor_def]
   exact Int.natAbs_ediv_le_natAbs _ _)
 ·rw [Rat.den_intCast];unfold Bd;exact Nat.one_lt_two_pow (by omega)
end
end VE
end
section
namespace VE
open Go (IntKind)
structure zeS (P:zN) (L:Lib):Prop where
 c:Ck P L
 r:Rl P L
 h101:Has P L 101 c101
 h117:Has P L 117 zxM
 h149:Has P L 149 zAM
 h111:Has P L 111 zBY
 h185:Has P L 185 zCm
 h186:Has P L 186 zBC
 h208:Has P L 208 zCh
 h277:Has P L 277 zid
 h291:Has P L 291 zo8
 h292:Has P L 292 zkF
 h336:Has P L 336 zw2
 h338:Has P L 338 zuo
 h339:Has P L 339 zpB
 h460:Has P L 460 zoY
 h468:Has P L 468 ziX
 h469:Has P L 469 zAc
 h470:Has P L 470 zu9
 h471:Has P L 471 zmL
 awake:zK P L 179 [] (.bool true)
section
variable {P:zN} {L:Lib}
theorem zoy {n d:Int} (hn:n.natAbs<2^40) (hd:d.natAbs<2^40) (h0:d≠0):Hq 80 (Rat.divInt n d):=by
 have k:∀z:Int,z.natAbs<2^40→Hq 40 (z:Rat):=fun z hz=>⟨by rw [Rat.num_intCast];exact hz,by rw [Rat.den_intCast];decide⟩
 rw [Rat.divInt_eq_div];exact (k n hn).div (k d hd)
theorem zQw (h:zeS P L) {n d:Int} (hn: -999999999≤n∧n≤999999999) (hd: -999999999≤d∧d≤999999999) (h0:d≠0):zk P L (D P L) 277 [zh n,zh d]=some (.str (RT (Rat.divInt n d))):=by
 by_cases hp:0<d
 ·exact zPa h.r.toRm (by omega) (by omega)
 ·have e:=zM5 h.h277 h.h291 h.h292 (a:= -n) (b:= -d) (by omega) (by omega);rw [Int.neg_neg,Int.neg_neg,←zst (by omega),Rat.neg_divInt_neg] at e;exact e
theorem zDE (h:zeS P L) {v:AV} {a:Rat} {K:Nat} (hv:IsQ v a) (ka:Hq K a) (hK:K≤4000000000):zK P L 208 [v] (zli a):=by
 have e1:=zP4 h.c.toTx hv ka hK;have e2:=m46 h.c.toTx hv ka hK;obtain ⟨s1,w1,s2,w2,rfl,h1,h2⟩:=hv;obtain ⟨l1,u1⟩:=h1.isU;obtain ⟨l2,u2⟩:=h2.isU;unfold zli;unfold zK at e1 e2 ⊢;rw [zf h.h208];cases hL:LG a<;>rw [hL] at e1
 ·simp only [go_sem,reduceEqDiff,reduceAdd,zCh,zu,zgl,zG,u1.pu,u1.frz,u1.one,u2.pu,u2.frz,u2.one,e1,e2,Bool.false_eq_true,if_false];rfl
 ·simp only [go_sem,reduceEqDiff,reduceAdd,zCh,zu,zgl,zG,u1.pu,u1.frz,u1.one,u2.pu,u2.frz,u2.one,e1,if_true];rfl
theorem zn8 (a:Rat):∃u e,zli a= .tup [.str u,zh e]:=by unfold zli;split<;>exact ⟨_,_,rfl⟩
theorem zPY (h:zeS P L) {n d:Int} (hn: -999999999≤n∧n≤999999999) (hd: -999999999≤d∧d≤999999999):zk P L (D P L) 185 [zh n,zh d]=some (if d=0 then .tup [.str [],zh 6] else zli (Rat.divInt n d)):=by
 rw [zf h.h185];by_cases h0:d=0
 ·rw [if_pos h0];subst h0;simp only [go_sem,reduceEqDiff,zCm,decide_true];rfl
 ·rw [if_neg h0];obtain ⟨e1,i1⟩:=zop h.c.toNu (z:=n) (by omega) (by omega);obtain ⟨e2,i2⟩:=zop h.c.toNu (z:=d) (by omega) (by omega);have kn:Bd 40 n:=by unfold Bd;omega
  have kd:Bd 40 d:=by unfold Bd;omega
  obtain ⟨r,e3,hr⟩:=zQ0 h.c.toFr' i1 i2 h0 kn kd (by decide);have e4:=zDE h hr (zoy (by omega) (by omega) h0) (by decide);obtain ⟨u,x,hu⟩:=zn8 (Rat.divInt n d);rw [hu] at e4 ⊢;obtain ⟨r1,r2,r3,r4,rfl,gr⟩:=hr.gen;unfold zK at e1 e2 e3 e4;simp only [go_sem,reduceEqDiff,zCm,h0,decide_false,e1,e2,e3,e4,gr.frz,zO,zG];rfl
theorem zPM (h:zeS P L) {a:List Nat} (ha:a.length≤1000000000):zk P L (D P L) 186 [.str a]=some (if chk a=0 then zli ((zey a).floor:Rat) else .tup [.str [],zh (chk a)]):=by
 have e1:=m86 h.c ha;unfold zK at e1;rw [zf h.h186];by_cases h0:chk a=0
 ·rw [if_pos h0];rw [h0] at e1;have ka:=zmw h0 (Nat.le_refl 2400);obtain ⟨v,e2,hv⟩:=zP0 h.c h0;obtain ⟨w,e3,hw⟩:=zQt h.c.toFr' hv ka (by decide);obtain ⟨r,e4,hr⟩:=zNN h.c.toFr' hw;have kf:=znC ka (by decide);have e5:=zDE h hr kf (by decide);obtain ⟨u,x,hu⟩:=zn8 ((zey a).floor:Rat);rw [hu] at e5 ⊢;obtain ⟨v1,v2,v3,v4,rfl,gv⟩:=hv.gen;obtain ⟨r1,r2,r3,r4,rfl,gr⟩:=hr.gen;obtain ⟨s1,w1,rfl,h1⟩:=hw;obtain ⟨l1,u1⟩:=h1.isU;unfold zK at e2 e3 e4 e5;simp only [go_sem,reduceEqDiff,zBC,e1,e2,e3,e4,e5,gv.frz,gr.frz,u1.frz,zO,zG];rfl
 ·rw [if_neg h0];simp only [go_sem,reduceEqDiff,zBC,e1,h0,decide_false];rfl
end
end VE
end
section
namespace VE
open Go (IntKind)
section
variable {P:zN} {L:Lib}
theorem zni (h460:Has P L 460 zoY) {bad:Int} (h0:bad≠0) (w:List Nat):zk P L (D P L) 460 [.str [],zh bad,zh bad,.str w]=some (.bool true):=by
 rw [zf h460];simp only [go_sem,reduceEqDiff,zoY,h0,decide_false,Bool.not_false,zbc,show eqL [] []=true from rfl,decide_true]
theorem zOv (hr:Rl P L) (h460:Has P L 460 zoY) {a:Rat} {K:Nat} (ka:Hq K a) (hK:K≤4000000000) {u:List Nat} {e:Int} (he:zli a= .tup [.str u,zh e]):zk P L (D P L) 460 [.str u,zh e,zh 0,.str (RT a)]=some (.bool true):=by
 have e1:=zO5 hr ka hK;unfold zli at he;unfold zK at e1;rw [zf h460];cases hL:LG a<;>rw [hL] at e1 he<;>simp only [Bool.false_eq_true,if_false,if_true] at e1 he<;>cases he
 ·simp only [go_sem,reduceEqDiff,zoY,e1,decide_true,Bool.not_true,zbc,zmc]
 ·simp only [go_sem,reduceEqDiff,zoY,e1,Int.reduceEq,decide_true,decide_false,Bool.not_false,zbc,zmc]
theorem zfx (id o:Nat):zlk 2 1 0 (.ptr id o)=some (.ptr id o):=rfl
theorem zh7 (id o:Nat):zlk 2 1 1 (.ptr id o)=some (.ptr id (o+1)):=rfl
theorem zgc (ct:Nat) (n d:Int):zoc ct 2 [zh n,zh d]=some (.ptr ct 0,.cells true true true 2 [zh n,zh d]):=zu rfl rfl
theorem zuG (h:zeS P L) {s t:List Nat} {n d:Int} (ls:s.length<9223372036854775808) (lt:t.length<9223372036854775808):zK P L 468 [.str s,.agg [zh n,zh d],.str t] (.bool true):=by
 have ea:=h.awake;unfold zK at ea;unfold zK;rw [zf h.h468];by_cases hs:s.length≤1300
 ·by_cases ht:t.length≤1300
  ·by_cases n1:n< -999999999
   ·simp only [go_sem,reduceEqDiff,ziX,zgc,zfx,Nat.zero_add,ea,Bool.not_true,show ¬(1300:Int)<(s.length:Int) by omega,show ¬(1300:Int)<(t.length:Int) by omega,n1,decide_true,decide_false]
   ·by_cases n2:999999999<n
    ·simp only [go_sem,reduceEqDiff,ziX,zgc,zfx,Nat.zero_add,ea,Bool.not_true,show ¬(1300:Int)<(s.length:Int) by omega,show ¬(1300:Int)<(t.length:Int) by omega,n1,n2,decide_true,decide_false]
    ·by_cases d1:d< -999999999
     ·simp only [go_sem,reduceEqDiff,ziX,zgc,zfx,zh7,Nat.zero_add,zak,ea,Bool.not_true,show ¬(1300:Int)<(s.length:Int) by omega,show ¬(1300:Int)<(t.length:Int) by omega,n1,n2,d1,decide_true,decide_false]
     ·by_cases d2:999999999<d
      ·simp only [go_sem,reduceEqDiff,ziX,zgc,zfx,zh7,Nat.zero_add,zak,ea,Bool.not_true,show ¬(1300:Int)<(s.length:Int) by omega,show ¬(1300:Int)<(t.length:Int) by omega,n1,n2,d1,d2,decide_true,decide_false]
      ·have n1': -999999999≤n∧n≤999999999:=by omega
       have d1': -999999999≤d∧d≤999999999:=by omega
       have e1:=zPY h n1' d1';have e2:=zPM h (a:=t) (by omega);have e3:=zQ5 h.h469 h.h471 (s:=s) (by omega);have e4:=zQL h.h470 (s:=s) (by omega);have e5:=zPH h.r.toRm (s:=t) (by omega);unfold zK at e3 e4 e5;have two:∀r:Rat,∃u e,zli r= .tup [.str u,zh e]:=fun r=>by unfold zli;split<;>exact ⟨_,_,rfl⟩
       have f:∃u e,zk P L (D P L) 186 [.str t]=some (.tup [.str u,zh e])∧(chk t≠0→zk P L (D P L) 460 [.str u,zh e,zh (chk t),.str []]=some (.bool true))∧(chk t=0→zk P L (D P L) 460 [.str u,zh e,zh 0,.str (RT ((zey t).floor:Rat))]=some (.bool true)∧zk P L (D P L) 336 [.str t]=some (.str (RT ((zey t).floor:Rat)))):=by
        by_cases h0:chk t=0
        ·rw [if_pos h0] at e2;obtain ⟨u,x,hu⟩:=two ((zey t).floor:Rat);have ka:=zmw h0 (Nat.le_refl 2400);have kf:=znC ka (by decide);have y:=zOv h.r h.h460 kf (by decide) hu;have z:=zQB h.r.toRm h.h336 h.h338 h.h339 ka (by decide);rw [←(zk1 h0).1] at z;rw [hu] at e2;exact ⟨u,x,e2,fun c=>absurd h0 c,fun _=>⟨y,z⟩⟩
        ·rw [if_neg h0] at e2;exact ⟨[],chk t,e2,fun _=>zni h.h460 h0 [],fun c=>absurd c h0⟩
       obtain ⟨u,x,f1,f2,f3⟩:=f;by_cases d0:d=0
       ·rw [if_pos d0] at e1;have y1:=zni h.h460 (bad:=6) (by decide) [];subst d0;by_cases h0:chk t=0
        ·obtain ⟨g1,g2⟩:=f3 h0;simp only [go_sem,reduceEqDiff,ziX,zgc,zfx,zh7,Nat.zero_add,zak,ea,Bool.not_true,show ¬(1300:Int)<(s.length:Int) by omega,show ¬(1300:Int)<(t.length:Int) by omega,n1,n2,d1,d2,decide_true,decide_false,e1,f1,zfj,zjh,beq_self_eq_true,Bool.not_true,e3,e4,e5,h0,y1,g1,g2]
        ·have g:=f2 h0;simp only [go_sem,reduceEqDiff,ziX,zgc,zfx,zh7,Nat.zero_add,zak,ea,Bool.not_true,show ¬(1300:Int)<(s.length:Int) by omega,show ¬(1300:Int)<(t.length:Int) by omega,n1,n2,d1,d2,decide_true,decide_false,e1,f1,zfj,zjh,beq_self_eq_true,Bool.not_true,e3,e4,e5,h0,y1,g]
       ·rw [if_neg d0] at e1;obtain ⟨v,y,hv⟩:=two (Rat.divInt n d);have e6:=zQw h n1' d1' d0;have y1:=zOv h.r h.h460 (zoy (n:=n) (d:=d) (by omega) (by omega) d0) (by decide) hv;rw [hv] at e1;by_cases h0:chk t=0
        ·obtain ⟨g1,g2⟩:=f3 h0;simp only [go_sem,reduceEqDiff,ziX,zgc,zfx,zh7,Nat.zero_add,zak,ea,Bool.not_true,show ¬(1300:Int)<(s.length:Int) by omega,show ¬(1300:Int)<(t.length:Int) by omega,n1,n2,d1,d2,decide_true,decide_false,e1,f1,zfj,zjh,beq_self_eq_true,Bool.not_true,e3,e4,e5,e6,h0,d0,y1,g1,g2]
        ·have g:=f2 h0;simp only [go_sem,reduceEqDiff,ziX,zgc,zfx,zh7,Nat.zero_add,zak,ea,Bool.not_true,show ¬(1300:Int)<(s.length:Int) by omega,show ¬(1300:Int)<(t.length:Int) by omega,n1,n2,d1,d2,decide_false,e1,f1,zfj,zjh,beq_self_eq_true,Bool.not_true,e3,e4,e5,e6,h0,d0,y1,g]
  ·simp only [go_sem,reduceEqDiff,ziX,zgc,Nat.zero_add,ea,Bool.not_true,show ¬(1300:Int)<(s.length:Int) by omega,show (1300:Int)<(t.length:Int) by omega,decide_true,decide_false]
 ·simp only [go_sem,reduceEqDiff,ziX,zgc,Nat.zero_add,ea,Bool.not_true,show (1300:Int)<(s.length:Int) by omega,decide_true]
end
end VE
end
section
namespace VE
open Go (IntKind)
abbrev formsT:List Ty:=[.str,.ar 2 (.int .i64),.str]
theorem zpt {P:zN} {L:Lib} (h:zeS P L) {ls:List (List AV)} (hs:All2 Shp formsT ls):zK P L 468 (zm7 formsT ls) (.bool true):=by
 obtain ⟨_,_,_,rfl,⟨s,rfl,ha,_⟩,⟨ps,hp,rfl,hq⟩,⟨t,rfl,hc,_⟩⟩:=zHD hs
 match ps,hp with
 | [p,q],_=>
  obtain ⟨n,rfl,_⟩:=hq _ (List.mem_cons_self);obtain ⟨d,rfl,_⟩:=hq _ (List.mem_cons_of_mem _ List.mem_cons_self);exact zuG h ha hc
end VE
end
section
namespace VE
namespace J2
open Go Go.Proofs
def T:List (Tr zE):=[.n 179 [.o 7 [] (.bool true)] .l .l]
def L0:VE.Lib:=zoW VE.lib 99 zi5
def L1:VE.Lib:=zA3 L0 T 1000
theorem nu:Nu VE.prog VE.lib:=by
 repeat' (first | rfl | constructor)
theorem lw:zeS VE.prog L1:=by
 repeat' (first | rfl | constructor)
section
variable {W:World} {m:Int} (hm:W.cell? ⟨1,0,none⟩=some (.int .i64 m)) (ht:Go.Lib.TabIs Tryz.prog W "internal/strconv.uint64pow10" .u64 Go.Lib.pow10Tab)
include hm ht
theorem zIz:zav ((J1.Λ W).withLib L1):=by
 have hΛ:=J1.link_ok hm ht;have hs:=ztC hΛ nu rfl rfl rfl ⟨rfl,rfl,rfl⟩ (fn:=Tryz.f139) (c:=zon) Tryz.func139 rfl rfl trivial zya;have hT:AllT (J1.Λ W) T:=AllT.cons (Tr.all_n (AllC.one (VK1.holds hΛ rfl rfl)) Tr.all_l Tr.all_l) AllT.nil;exact zqT (ztX hΛ hs) hT 1000
theorem law {ls:List (List AV)} (hs:All2 Shp formsT ls):PureC (J1.Λ W) 468 (zm7 formsT ls) (.bool true):=by
 obtain ⟨k,hk⟩:=zwA (zpt lw hs);exact zzh (zIz hm ht) hk
end
end J2
end VE
end
