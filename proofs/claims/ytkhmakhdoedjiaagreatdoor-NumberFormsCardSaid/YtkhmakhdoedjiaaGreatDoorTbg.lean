import Derived.Test.YtkhmakhdoedjiaaGreatDoorTbf
import Derived.Test.YtkhmakhdoedjiaaGreatDoorTat
import Derived.Test.YtkhmakhdoedjiaaGreatDoorTbd
set_option linter.all false
set_option maxRecDepth 100000
open Nat (reduceAdd reduceEqDiff)
section
namespace VE
theorem zDC {a b:Nat} (h:¬a<b):Nat.blt a b=false:=by
 cases hb:Nat.blt a b with
 | false=>rfl
 | true=>exact absurd (Nat.le_of_ble_eq_true hb) (by omega)
theorem zmP:∀(f n:Nat) (acc:List Nat),n<f→zbK f n acc=zbK f n []++acc
 | 0,_,_,h=>by omega
 | f+1,n,acc,h=>by
  simp only [zbK];by_cases h1:n<10
  ·rw [show Nat.blt n 10=true from Nat.ble_eq_true_of_le h1];rfl
  ·rw [show Nat.blt n 10=false from zDC (by omega)];simp only [cond_false];rw [zmP f (n/10) _ (by omega),zmP f (n/10) [48+n%10] (by omega)]
   simp
theorem zh3 {f n:Nat} (h:n<10):zbK (f+1) n []=[48+n]:=by
 simp only [zbK];rw [show Nat.blt n 10=true from Nat.ble_eq_true_of_le h];rfl
theorem zmq {f n:Nat} (h:¬n<10) (hf:n≤f):zbK (f+1) n []=zbK f (n/10) []++[48+n%10]:=by
 rw [←zmP f (n/10) _ (by omega)];simp only [zbK];rw [show Nat.blt n 10=false from zDC (by omega)];rfl
theorem zyb:∀(n f:Nat),n<f→zbK f n []=zo n:=by
 intro n
 induction n using Nat.strongRecOn with
 | _ n ih=>
  intro f hf;obtain ⟨g,rfl⟩:∃g,f=g+1:=⟨f-1,by omega⟩;by_cases h:n<10
  ·rw [zh3 h];unfold zo;rw [zh3 h]
  ·rw [zmq h (by omega),ih (n/10) (by omega) g (by omega)];unfold zo;rw [zmq h (Nat.le_refl n),ih (n/10) (by omega) n (by omega)];rfl
theorem za0 {n:Nat} (h:n<10):zo n=[48+n]:=zh3 h
theorem zbQ {n:Nat} (h:¬n<10):zo n=zo (n/10)++[48+n%10]:=by
 rw [show zo n=zbK (n+1) n [] from rfl,zmq h (Nat.le_refl n),zyb (n/10) n (by omega)]
theorem zb7:∀{k n:Nat},n<10^(k+1)→(zo n).length≤k+1
 | 0,n,h=>by rw [za0 (by simpa using h)];simp
 | k+1,n,h=>by
  by_cases h1:n<10
  ·rw [za0 h1];simp
  ·rw [zbQ h1,List.length_append]
   have:n/10<10^(k+1):=by
    rw [Nat.pow_succ] at h;omega
   have:=zb7 this
   simp only [List.length_cons,List.length_nil];omega
theorem zc0 {n:Nat} (h:n<18446744073709551616):(zo n).length≤20:=zb7 (k:=19) (by omega)
theorem za7 (n:Nat):zW (n:Int)=zo n:=rfl
theorem zby {n:Int} (h:n<0):zW n=45::zo n.natAbs:=by
 cases n with
 | ofNat n=>exact absurd h (by simp)
 | negSucc n=>rfl
def zL:List Nat→Nat
 | []=>0
 | b::r=>if b=47 then 0 else zL r+1
theorem zog {s:List Nat} {i:Nat} (h:i<s.length):zL (s.drop i)=if s[i]=47 then 0 else zL (s.drop (i+1))+1:=by
 rw [List.drop_eq_getElem_cons h];rfl
theorem zdK:∀s:List Nat,zL s≤s.length
 | []=>Nat.le_refl _
 | b::r=>by
  unfold zL
  have:=zdK r
  split<;>simp<;>omega
def zbg:List Nat→Bool
 | []=>true
 | b::r=>Nat.ble 48 b&&Nat.ble b 57&&zbg r
theorem zd9:∀(a b:List Nat),zbg (a++b)=(zbg a&&zbg b)
 | [],b=>by simp [zbg]
 | x::a,b=>by simp [zbg,zd9 a b,Bool.and_assoc]
theorem zfX (n:Nat):zbg (zo n)=true:=by
 induction n using Nat.strongRecOn with
 | _ n ih=>
  by_cases h:n<10
  ·rw [za0 h];simp [zbg];omega
  ·rw [zbQ h,zd9,ih (n/10) (by omega)];simp [zbg];omega
theorem zfI:∀{s:List Nat} (r:List Nat),zbg s=true→zL (s++r)=s.length+zL r
 | [],r,_=>by simp
 | b::s,r,h=>by
  simp only [zbg,Bool.and_eq_true] at h;have h1:=Nat.le_of_ble_eq_true h.1.1;simp only [List.cons_append,zL,List.length_cons];rw [if_neg (by omega),zfI r h.2];omega
theorem zeh:∀(l:List Nat) (a d:Nat),d<10→zaV (l++[48+d]) a=(zaV l a).map (fun v=>10*v+d)
 | [],a,d,h=>by
  simp only [List.nil_append,zaV];rw [show Nat.ble 48 (48+d)=true from Nat.ble_eq_true_of_le (by omega),show Nat.ble (48+d) 57=true from Nat.ble_eq_true_of_le (by omega)]
  simp
 | b::l,a,d,h=>by
  simp only [List.cons_append,zaV]
  cases (Nat.ble 48 b&&Nat.ble b 57) with
  | true=>exact zeh l _ d h
  | false=>rfl
theorem zf4 (n:Nat):zaV (zo n) 0=some n:=by
 induction n using Nat.strongRecOn with
 | _ n ih=>
  by_cases h:n<10
  ·rw [za0 h]
   have:=zeh [] 0 n h
   simpa [zaV] using this
  ·rw [zbQ h,zeh _ _ _ (by omega),ih (n/10) (by omega)]
   simp;omega
theorem zvq {s:List Nat} {i a v:Nat} (h:i<s.length) (hv:zaV (s.drop i) a=some v):48≤s[i]∧s[i]≤57∧zaV (s.drop (i+1)) (10*a+(s[i]-48))=some v:=by
 rw [List.drop_eq_getElem_cons h] at hv;simp only [zaV] at hv
 cases hb:(Nat.ble 48 s[i]&&Nat.ble s[i] 57) with
 | false=>rw [hb] at hv;cases hv
 | true=>
  rw [hb] at hv;simp only [Bool.and_eq_true] at hb;exact ⟨Nat.le_of_ble_eq_true hb.1,Nat.le_of_ble_eq_true hb.2,hv⟩
def zd7:Nat→Nat→List Nat
 | 0,_=>[]
 | k+1,n=>zd7 k (n/10)++[48+n%10]
theorem zjw:∀k n,(zd7 k n).length=k
 | 0,_=>rfl
 | k+1,n=>by simp [zd7,zjw k]
theorem zhu:∀(k m r:Nat),0<m→r<10^k→zo (m*10^k+r)=zo m++zd7 k r
 | 0,m,r,_,h=>by simp at h;subst h;simp [zd7]
 | k+1,m,r,hm,h=>by
  have h1:m*10^(k+1)+r=(m*10^k)*10+r:=by rw [Nat.pow_succ,Nat.mul_assoc]
  have hp:0<m*10^k:=Nat.mul_pos hm (Nat.pow_pos (by decide));have e1:(m*10^(k+1)+r)/10=m*10^k+r/10:=by omega
  have e2:(m*10^(k+1)+r)%10=r%10:=by omega
  rw [zbQ (by omega),e1,e2,zhu k m (r/10) hm (by rw [Nat.pow_succ] at h;omega)];simp [zd7]
theorem znU:∀(k r a:Nat),r<10^k→zaV (zd7 k r) a=some (a*10^k+r)
 | 0,r,a,h=>by simp at h;subst h;simp [zd7,zaV]
 | k+1,r,a,h=>by
  rw [Nat.pow_succ] at h;rw [zd7,zeh _ _ _ (Nat.mod_lt _ (by decide)),znU k (r/10) a (by omega)];simp only [Option.map_some,Option.some.injEq,Nat.pow_succ];rw [Nat.mul_add,←Nat.mul_assoc,Nat.mul_comm 10 a,Nat.mul_assoc,Nat.mul_comm 10 (10^k)];omega
theorem zzk {m:Nat} (h:1000000000≤m):zo m=zo (m/1000000000)++zd7 9 (m%1000000000):=by
 have:=zhu 9 (m/1000000000) (m%1000000000) (by omega) (by omega)
 rw [←this]
 congr 1
 omega
end VE
end
section
namespace VE
open Go (IntKind)
def zf8 (s:List Nat) (l h:Option Nat):Option AV:=
 match l,h with
 | some l,some h=>bif Nat.ble l h&&Nat.ble h s.length then some (.str ((s.take h).drop l)) else none
 | _,_=>none
theorem zau (hp:Hp) (s:List Nat) (tm:Env) (lo hi:Option X):zbe hp .str (.str s) tm lo hi=zf8 s (zao tm 0 lo) (zao tm s.length hi):=by
 unfold zf8;simp only [zbe];cases zao tm 0 lo<;>cases zao tm s.length hi<;>rfl
theorem zay (tm:Env) (d:Nat):zao tm d none=some d:=rfl
theorem zae (tm:Env) (d:Nat) (x:X):zao tm d (some x)=zaE (zp tm x):=rfl
theorem zc9 {s:List Nat} {l h:Nat} (h1:l≤h) (h2:h≤s.length):zf8 s (some l) (some h)=some (.str ((s.take h).drop l)):=by
 simp [zf8,Nat.ble_eq_true_of_le h1,Nat.ble_eq_true_of_le h2]
theorem zap {a b:List Nat} (h:a.length+b.length≤9223372036854775807):binOp .add (.str a) (.str b)=some (.str (a++b)):=by
 show zn2 .add a b=_
 simp only [zn2,Nat.ble_eq_true_of_le h,cond_true]
theorem zz6 (k:IntKind) (n:Int):ziV (.toInt .i64) (.int k n)=some (zh (IntKind.wrap .i64 n)):=rfl
theorem zbc (a b:List Nat):binOp .eql (.str a) (.str b)=some (.bool (eqL a b)):=rfl
theorem zbb {s:List Nat} {i:Nat} (h:i<s.length):zeb i (.str s)=some (.int .u8 (s[i]:Nat)):=by
 simp only [zeb,List.getElem?_eq_getElem h]
theorem zjm {r:Nat} (h:r<10):zf8 [48,49,50,51,52,53,54,55,56,57] (some r) (some (r+1))=some (.str [48+r]):=by
 rw [zc9 (by omega) (by simp;omega)]
 have:r=0∨r=1∨r=2∨r=3∨r=4∨r=5∨r=6∨r=7∨r=8∨r=9:=by omega
 rcases this with rfl | rfl | rfl | rfl | rfl | rfl | rfl | rfl | rfl | rfl<;>rfl
section
variable {P:zN} {L:Lib}
theorem zyX (h:Has P L 292 zkF) {n:Nat} (hn:n<9223372036854775808):zK P L 292 [zh n,zh 1] (.str (zo n)):=by
 have key:=zS (P:=P) (L:=L) (live:=[0,1,5]) (a:=zc3)
  (I:=fun k st=>∃(m:Nat) (s:List Nat),st=⟨[(0,zh m),(1,zh 1),(5,.str s)],[],0,0⟩∧m≤n∧m+(1-s.length)=k∧s.length≤20∧((s=[]∧m=n)∨(0<s.length∧(m=0→s=zo n)∧(0<m→zo n=zo m++s))))
  (Q:=fun ex st=>∃tm ct,st=⟨tm,[],ct,0⟩∧ex= .exit 0∧zc tm 5= .str (zo n)) ?_
 ·unfold zK;rw [zf h];simp only [go_sem,zkF];generalize hq:D P L (.loop [0,1,5] zc3) _=q;obtain ⟨ex,st,rfl,tm,ct,rfl,rfl,h2⟩:=z8 hq (key (n+1)) ⟨n,[],by simp only [go_sem,reduceEqDiff,za]<;>rfl,by omega,rfl,by simp,.inl ⟨rfl,rfl⟩⟩
  simp only [go_sem,za,h2]
 ·rintro k st ⟨m,s,rfl,hm,hk,hl,hs⟩;by_cases hgo:0<m∨s.length<1
  ·left
   have hc:((decide ((0:Int)<m))=true)∨((decide ((0:Int)<m))=false∧((s.length:Nat):Int)<1):=by
    by_cases h0:0<m
    ·exact .inl (decide_eq_true (by omega))
    ·exact .inr ⟨decide_eq_false (by omega),by omega⟩
   have hr:((m:Int)).tmod 10=((m%10:Nat):Int):=by rw [Int.tmod_eq_emod_of_nonneg (by omega)];rfl
   have hq:((m:Int)).tdiv 10=((m/10:Nat):Int):=by rw [Int.tdiv_eq_ediv_of_nonneg (by omega)];rfl
   have hd:=zjm (r:=m%10) (by omega);have fin:∃s' k',D P L zc3 ⟨[(0,zh m),(1,zh 1),(5,.str s)],[],0,0⟩=some (.normal,s')∧k'<k∧zA [0,1,5] s'=⟨[(0,zh (m/10:Nat)),(1,zh 1),(5,.str ([48+m%10]++s))],[],0,0⟩∧m/10+(1-([48+m%10]++s).length)=k':=by
    rcases hc with hc | ⟨hc,hc2⟩
    ·have hc:(0:Int)<m:=of_decide_eq_true hc
     simp only [go_sem,reduceEqDiff,reduceAdd,zc3,hc,zaK _ _ _ (show (10:Int)≠0 by decide),zai _ _ _ (show (10:Int)≠0 by decide),hr,hq,zy (n:=m%10+1) (by omega),ze (n:=((m/10:Nat):Int)) (by omega) (by omega),zau,zae,show ((m%10:Nat):Int)+1=((m%10+1:Nat):Int) from rfl,hd,zap (a:=[48+m%10]) (b:=s) (by simp;omega)];refine ⟨_,_,rfl,?_,by simp only [go_sem,reduceEqDiff,za],rfl⟩
     simp;omega
    ·have hc:¬(0:Int)<m:=of_decide_eq_false hc
     simp only [go_sem,reduceEqDiff,reduceAdd,zc3,hc,hc2,zaK _ _ _ (show (10:Int)≠0 by decide),zai _ _ _ (show (10:Int)≠0 by decide),hr,hq,zy (n:=m%10+1) (by omega),ze (n:=((m/10:Nat):Int)) (by omega) (by omega),zau,zae,show ((m%10:Nat):Int)+1=((m%10+1:Nat):Int) from rfl,hd,zap (a:=[48+m%10]) (b:=s) (by simp;omega)];refine ⟨_,_,rfl,?_,by simp only [go_sem,reduceEqDiff,za],rfl⟩
     simp;omega
   obtain ⟨s',k',f1,f2,f3,f4⟩:=fin;refine ⟨s',k',f1,f2,m/10,[48+m%10]++s,f3,by omega,f4,?_,.inr ⟨by simp,fun h0=>?_,fun h0=>?_⟩⟩
   ·have hn20:=zc0 (n:=n) (by omega);rcases hs with ⟨rfl,rfl⟩ | ⟨h1,h2,h3⟩
    ·simp
    ·by_cases h0:0<m
     ·have e:=congrArg List.length (h3 h0);have e2:0<(zo m).length:=by
       by_cases h9:m<10
       ·rw [za0 h9];simp
       ·rw [zbQ h9];simp
      simp only [List.length_append] at e
      simp;omega
     ·omega
   ·have h9:m<10:=by omega
    rcases hs with ⟨rfl,rfl⟩ | ⟨h1,h2,h3⟩
    ·rw [za0 h9,Nat.mod_eq_of_lt h9];rfl
    ·have:0<m:=by omega
     rw [h3 this,za0 h9,Nat.mod_eq_of_lt h9]
   ·have h9:¬m<10:=by omega
    rcases hs with ⟨rfl,rfl⟩ | ⟨h1,h2,h3⟩
    ·rw [zbQ h9];simp
    ·rw [h3 (by omega),zbQ h9];simp
  ·right
   simp only [go_sem,reduceEqDiff,zc3,show ¬(0:Int)<m by omega,show ¬((s.length:Nat):Int)<1 by omega];refine ⟨_,_,rfl,by simp,_,_,rfl,rfl,?_⟩;simp only [go_sem,reduceEqDiff];rcases hs with ⟨rfl,rfl⟩ | ⟨h1,h2,h3⟩
   ·simp at hgo
   ·rw [h2 (by omega)]
theorem zNT (h:Has P L 291 zo8) {a b:Nat} (ha:a<9223372036854775808) (hb:b<9223372036854775808):zK P L 291 [zh a,zh b] (zh (Nat.gcd a b)):=by
 have key:=zS (P:=P) (L:=L) (live:=[0,1]) (a:=zjN)
  (I:=fun k st=>∃x y:Nat,st=⟨[(0,zh x),(1,zh y)],[],0,0⟩∧y=k∧Nat.gcd x y=Nat.gcd a b)
  (Q:=fun ex st=>∃tm ct,st=⟨tm,[],ct,0⟩∧ex= .exit 0∧zc tm 0=zh (Nat.gcd a b)) ?_
 ·unfold zK;rw [zf h];simp only [go_sem,zo8];generalize hq:D P L (.loop [0,1] zjN) _=q;obtain ⟨ex,st,rfl,tm,ct,rfl,rfl,h2⟩:=z8 hq (key b) ⟨a,b,by simp only [go_sem,reduceEqDiff,za]<;>rfl,rfl,rfl⟩
  simp only [go_sem,za,h2]
 ·rintro k st ⟨x,y,rfl,rfl,hg⟩;by_cases hy:y=0
  ·right
   subst hy;simp only [go_sem,reduceEqDiff,zjN,show ¬(0:Int)<((0:Nat):Int) by omega];refine ⟨_,_,rfl,by simp,_,_,rfl,rfl,?_⟩;simp only [go_sem,reduceEqDiff];rw [←hg,Nat.gcd_zero_right]
  ·left
   have hr:((x:Int)).tmod y=((x%y:Nat):Int):=by rw [Int.tmod_eq_emod_of_nonneg (by omega)];rfl
   simp only [go_sem,reduceEqDiff,zjN,show (0:Int)<y by omega,zaK _ _ _ (show (y:Int)≠0 by omega),hr];refine ⟨_,x%y,rfl,Nat.mod_lt _ (by omega),y,x%y,by simp only [go_sem,reduceEqDiff,za],rfl,?_⟩;rw [←hg,Nat.gcd_comm y,←Nat.gcd_rec,Nat.gcd_comm]
end
end VE
end
section
namespace VE
open Go (IntKind)
section
variable {P:zN} {L:Lib}
theorem ztp (h:Has P L 272 zAQ) {s:List Nat} (hl:s.length≤1000000000000):zK P L 272 [.str s] (zh (zL s)):=by
 have key:=zS (P:=P) (L:=L) (live:=[0,3]) (a:=zhT)
  (I:=fun k st=>∃i:Nat,st=⟨[(0,.str s),(3,zh i)],[],0,0⟩∧i+k=s.length∧i+zL (s.drop i)=zL s)
  (Q:=fun ex st=>∃tm ct,st=⟨tm,[],ct,0⟩∧((ex= .ret∧zc tm 2=zh (zL s))∨(ex= .exit 0∧zc tm 0= .str s∧zL s=s.length))) ?_
 ·unfold zK;rw [zf h];simp only [go_sem,zAQ];generalize hq:D P L (.loop [0,3] zhT) _=q;obtain ⟨ex,st,rfl,tm,ct,rfl,h2⟩:=z8 hq (key s.length) ⟨0,by simp only [go_sem,reduceEqDiff,za]<;>rfl,by omega,by simp⟩
  rcases h2 with ⟨rfl,h2⟩ | ⟨rfl,h2,h3⟩
  ·simp only [go_sem,h2]
  ·simp only [go_sem,za,h2,h3]
 ·rintro k st ⟨i,rfl,hk,hs⟩;by_cases hi:i<s.length
  ·rw [zog hi] at hs;by_cases h7:s[i]=47
   ·right
    rw [if_pos h7] at hs;simp only [go_sem,reduceEqDiff,zhT,show (i:Int)<s.length by omega,zbb hi,show ((s[i]:Nat):Int)=47 by omega];refine ⟨_,_,rfl,by simp,_,_,rfl,.inl ⟨rfl,?_⟩⟩;simp only [go_sem];rw [←hs];rfl
   ·left
    rw [if_neg h7] at hs;simp only [go_sem,reduceEqDiff,zhT,show (i:Int)<s.length by omega,zbb hi,show ¬((s[i]:Nat):Int)=47 by omega];refine ⟨_,k-1,rfl,by omega,i+1,?_,by omega,by omega⟩;rw [ze (by omega) (by omega)];simp only [go_sem,reduceEqDiff,za]<;>rfl
  ·right
   simp only [go_sem,reduceEqDiff,zhT,show ¬(i:Int)<s.length by omega];refine ⟨_,_,rfl,by simp,_,_,rfl,.inr ⟨rfl,by simp only [go_sem,reduceEqDiff],?_⟩⟩;rw [List.drop_eq_nil_of_le (by omega)] at hs;simp only [zL] at hs;omega
theorem zG5 (h:Has P L 290 zxd) {s:List Nat} {v:Nat} (hl:s.length≤18) (hv:zaV s 0=some v):zK P L 290 [.str s] (zh v):=by
 have key:=zS (P:=P) (L:=L) (live:=[0,3,4]) (a:=zkb)
  (I:=fun k st=>∃i a:Nat,st=⟨[(0,.str s),(3,zh a),(4,zh i)],[],0,0⟩∧i+k=s.length∧a<10^i∧zaV (s.drop i) a=some v)
  (Q:=fun ex st=>∃tm ct,st=⟨tm,[],ct,0⟩∧ex= .exit 0∧zc tm 3=zh v) ?_
 ·unfold zK;rw [zf h];simp only [go_sem,zxd];generalize hq:D P L (.loop [0,3,4] zkb) _=q;obtain ⟨ex,st,rfl,tm,ct,rfl,rfl,h2⟩:=z8 hq (key s.length) ⟨0,0,by simp only [go_sem,reduceEqDiff,za]<;>rfl,by omega,by simp,hv⟩
  simp only [go_sem,za,h2]
 ·rintro k st ⟨i,a,rfl,hk,ha,hs⟩;by_cases hi:i<s.length
  ·left
   obtain ⟨h1,h2,h3⟩:=zvq hi hs;have hp:10^i≤10^17:=Nat.pow_le_pow_right (by decide) (by omega);have hp':(10:Nat)^17=100000000000000000:=by decide
   have hb:IntKind.wrap .i64 ((s[i]:Nat):Int)=((s[i]:Nat):Int):=ze (by omega) (by omega)
   simp only [go_sem,reduceEqDiff,zkb,show (i:Int)<s.length by omega,zbb hi,zz6,hb,ze (n:=10*(a:Int)) (by omega) (by omega),ze (n:=10*(a:Int)+(s[i]:Nat)) (by omega) (by omega),ze (n:=10*(a:Int)+(s[i]:Nat)-48) (by omega) (by omega)];refine ⟨_,k-1,rfl,by omega,i+1,10*a+(s[i]-48),?_,by omega,?_,h3⟩
   ·rw [ze (by omega) (by omega),show 10*(a:Int)+(s[i]:Nat)-48=((10*a+(s[i]-48):Nat):Int) by omega];simp only [go_sem,reduceEqDiff,za]<;>rfl
   ·rw [Nat.pow_succ];omega
  ·right
   simp only [go_sem,reduceEqDiff,zkb,show ¬(i:Int)<s.length by omega];refine ⟨_,_,rfl,by simp,_,_,rfl,rfl,?_⟩;rw [List.drop_eq_nil_of_le (by omega)] at hs;simp only [zaV,Option.some.injEq] at hs;subst hs;simp only [go_sem,reduceEqDiff]
theorem zei (a:Int):(if 0-a>a then 0-a else a)=(a.natAbs:Int):=by split<;>omega
theorem zde (a b:Int):a.tdiv (Int.gcd a b:Nat)=za2 a b:=Int.tdiv_eq_ediv_of_dvd (Int.gcd_dvd_left a b)
theorem zdj (a b:Int):b.tdiv (Int.gcd a b:Nat)=zbl a b:=Int.tdiv_eq_ediv_of_dvd (Int.gcd_dvd_right a b)
theorem za3 (n:Int):(if n<0 then [45] else [])++zo n.natAbs=zW n:=by
 split
 ·rename_i h;rw [zby h];rfl
 ·rename_i h;obtain ⟨m,rfl⟩:∃m:Nat,n=m:=⟨n.toNat,by omega⟩;rfl
theorem znP {n:Int} (h:n.natAbs<18446744073709551616):(zW n).length≤21:=by
 rw [←za3]
 have:=zc0 h
 split<;>simp<;>omega
theorem zq7 {a b:Int} (hb:0<b):zoO a b=(if 1<zbl a b then (zW (za2 a b)++[47])++zo (zbl a b).natAbs else zW (za2 a b)):=by
 have h:=zfD (a:=a) hb;unfold zoO;by_cases h1:zbl a b=1
 ·rw [if_pos h1,if_neg (by omega)]
 ·rw [if_neg h1,if_pos (by omega)];obtain ⟨m,hm⟩:∃m:Nat,zbl a b=m:=⟨(zbl a b).toNat,by omega⟩;rw [hm];rfl
theorem zQ3 (h:Has P L 277 zid) (h291:Has P L 291 zo8) (h292:Has P L 292 zkF) {a b:Int} (ha: -4000000000000000000≤a∧a≤4000000000000000000) (hb:0<b∧b≤4000000000000000000):
  zK P L 277 [zh a,zh b] (.str (zoO a b)):=by
 have hn:=zn5 a b;have hd:=znd a b;have hp:=zfD (a:=a) hb.1;have e1:=zNT h291 (a:=a.natAbs) (b:=b.natAbs) (by omega) (by omega);have e2:=zyX h292 (n:=(za2 a b).natAbs) (by omega);have e3:=zyX h292 (n:=(zbl a b).natAbs) (by omega);have hg:=zgZ (a:=a) hb.1;rw [show ((b.natAbs:Nat):Int)=b by omega,show Nat.gcd a.natAbs b.natAbs=Int.gcd a b from rfl] at e1;rw [show (((zbl a b).natAbs:Nat):Int)=zbl a b by omega] at e3;have hl1:=znP (n:=za2 a b) (by omega);have hl2:=zc0 (n:=(za2 a b).natAbs) (by omega);have hl3:=zc0 (n:=(zbl a b).natAbs) (by omega);have hT:=zq7 (a:=a) hb.1;have hS:=za3 (za2 a b);unfold zK at e1 e2 e3 ⊢;rw [zf h];by_cases h0:za2 a b<0
 ·rw [if_pos h0] at hS;by_cases h1:1<zbl a b
  ·rw [if_pos h1] at hT
   simp only [go_sem,reduceEqDiff,zid,show ¬a< -4000000000000000000 by omega,show ¬4000000000000000000<a by omega,show ¬b< -4000000000000000000 by omega,show ¬4000000000000000000<b by omega,show ¬b<0 by omega,ze (n:=0-a) (by omega) (by omega),zeq,zb9,zei,e1,zai _ _ _ (show ((Int.gcd a b:Nat):Int)≠0 by omega),zde,zdj,ze (n:=za2 a b) (by omega) (by omega),ze (n:=zbl a b) (by omega) (by omega),h0,ze (n:=0-za2 a b) (by omega) (by omega),e2,zap (a:=[45]) (b:=zo (za2 a b).natAbs) (by simp;omega),hS,h1,zap (a:=zW (za2 a b)) (b:=[47]) (by simp;omega),e3,zap (a:=zW (za2 a b)++[47]) (b:=zo (zbl a b).natAbs) (by simp;omega),hT]
  ·rw [if_neg h1] at hT
   simp only [go_sem,reduceEqDiff,zid,show ¬a< -4000000000000000000 by omega,show ¬4000000000000000000<a by omega,show ¬b< -4000000000000000000 by omega,show ¬4000000000000000000<b by omega,show ¬b<0 by omega,ze (n:=0-a) (by omega) (by omega),zeq,zb9,zei,e1,zai _ _ _ (show ((Int.gcd a b:Nat):Int)≠0 by omega),zde,zdj,ze (n:=za2 a b) (by omega) (by omega),ze (n:=zbl a b) (by omega) (by omega),h0,ze (n:=0-za2 a b) (by omega) (by omega),e2,zap (a:=[45]) (b:=zo (za2 a b).natAbs) (by simp;omega),hS,h1,hT]
 ·rw [if_neg h0] at hS;by_cases h1:1<zbl a b
  ·rw [if_pos h1] at hT
   simp only [go_sem,reduceEqDiff,zid,show ¬a< -4000000000000000000 by omega,show ¬4000000000000000000<a by omega,show ¬b< -4000000000000000000 by omega,show ¬4000000000000000000<b by omega,show ¬b<0 by omega,ze (n:=0-a) (by omega) (by omega),zeq,zb9,zei,e1,zai _ _ _ (show ((Int.gcd a b:Nat):Int)≠0 by omega),zde,zdj,ze (n:=za2 a b) (by omega) (by omega),ze (n:=zbl a b) (by omega) (by omega),h0,ze (n:=0-za2 a b) (by omega) (by omega),e2,zap (a:=[]) (b:=zo (za2 a b).natAbs) (by simp;omega),hS,h1,zap (a:=zW (za2 a b)) (b:=[47]) (by simp;omega),e3,zap (a:=zW (za2 a b)++[47]) (b:=zo (zbl a b).natAbs) (by simp;omega),hT]
  ·rw [if_neg h1] at hT
   simp only [go_sem,reduceEqDiff,zid,show ¬a< -4000000000000000000 by omega,show ¬4000000000000000000<a by omega,show ¬b< -4000000000000000000 by omega,show ¬4000000000000000000<b by omega,show ¬b<0 by omega,ze (n:=0-a) (by omega) (by omega),zeq,zb9,zei,e1,zai _ _ _ (show ((Int.gcd a b:Nat):Int)≠0 by omega),zde,zdj,ze (n:=za2 a b) (by omega) (by omega),ze (n:=zbl a b) (by omega) (by omega),h0,ze (n:=0-za2 a b) (by omega) (by omega),e2,zap (a:=[]) (b:=zo (za2 a b).natAbs) (by simp;omega),hS,h1,hT]
end
end VE
end
section
namespace VE
open Go (IntKind)
def TT (n:Int) (d:Nat):List Nat:=zW n++(if d=1 then [] else 47::zo d)
theorem zCz {a b:Int} (hb:0<b):zoO a b=TT (za2 a b) (zbl a b).toNat:=by
 have h:=zfD (a:=a) hb;unfold zoO TT;by_cases h1:zbl a b=1
 ·rw [if_pos h1,if_pos (by omega),List.append_nil]
 ·rw [if_neg h1,if_neg (by omega)];obtain ⟨m,hm⟩:∃m:Nat,zbl a b=m:=⟨(zbl a b).toNat,by omega⟩;rw [hm,List.append_assoc];rfl
theorem zdd (n:Nat):0<(zo n).length:=by
 by_cases h:n<10
 ·rw [za0 h];simp
 ·rw [zbQ h];simp
theorem zjk:∀(n:Nat),n<10^(zo n).length:=by
 intro n
 induction n using Nat.strongRecOn with
 | _ n ih=>
  by_cases h:n<10
  ·rw [za0 h];simpa using h
  ·have:=ih (n/10) (by omega)
   rw [zbQ h,List.length_append,List.length_singleton,Nat.pow_succ];omega
theorem zeG (n:Nat):∃b r,zo n=b::r∧48≤b∧b≤57:=by
 cases hq:zo n with
 | nil=>have:=zdd n;rw [hq] at this;simp at this
 | cons b r=>
  have:=zfX n
  rw [hq] at this;simp only [zbg,Bool.and_eq_true] at this;exact ⟨b,r,rfl,Nat.le_of_ble_eq_true this.1.1,Nat.le_of_ble_eq_true this.1.2⟩
section
variable {P:zN} {L:Lib}
theorem zE1 (s:List Nat):zeb 0 (.str (45::s))=some (.int .u8 45):=rfl
end
end VE
end
section
namespace VE
open Go (IntKind)
section
variable {P:zN} {L:Lib}
theorem zNl (h:Has P L 302 zpe) {v:AV} {l:List Int} (hv:IsI v l) (i:Nat):zK P L 302 [v,zh i] (zh (l.getD i 0)):=by
 unfold zK;rw [zf h];by_cases hi:i<l.length
 ·simp only [go_sem,reduceEqDiff,zpe,hv.len,show (i:Int)<l.length by omega,hv.ixa hi];simp [List.getD_eq_getElem?_getD,List.getElem?_eq_getElem hi]
 ·simp only [go_sem,reduceEqDiff,zpe,hv.len,show ¬(i:Int)<l.length by omega];simp [List.getD_eq_getElem?_getD,List.getElem?_eq_none (Nat.le_of_not_lt hi)]
theorem zsP {hp:Hp} {e:Bool} {n:Nat} {cs:List AV} {tm:Env} {h:Nat} {x:X} (hx:zao tm n (some x)=some h) (hh:h≤n):
  zbe hp (.sl 1) (.vsl e n cs) tm none (some x)=some (.vsl (e&&Nat.beq h n) h (cs.take h)):=by
 simp only [zbe,hx,zay];simp [Nat.ble_eq_true_of_le hh,slice];rw [show Nat.ble 0 h=true from Nat.ble_eq_true_of_le (Nat.zero_le _)];rfl
theorem zu6 (h:Has P L 300 ziW) {v:AV} {l:List Int} (hv:IsI v l) (hl:l.length≤20000000000):∃r,zK P L 300 [v] r∧IsI r (zaR l)∧shut r=r:=by
 rcases hv with ⟨rfl,h0⟩ | ⟨e,rfl⟩
 ·have:l=[]:=by simpa using h0
  subst this;refine ⟨.nils,?_,zeL,rfl⟩;unfold zK;rw [zf h];simp only [go_sem,reduceEqDiff,ziW,zmK,zgr,za,show ¬(0:Int)<0 by decide]
 ·have key:=zS (P:=P) (L:=L) (live:=[0]) (a:=zgr)
   (I:=fun k st=>∃(i:Nat) (e:Bool),st=⟨[(0,.vsl e i ((l.take i).map zh))],[],0,0⟩∧i≤l.length∧i=k∧zaR (l.take i)=zaR l)
   (Q:=fun ex st=>∃tm ct,st=⟨tm,[],ct,0⟩∧ex= .exit 0∧∃i e,zc tm 0= .vsl e i ((l.take i).map zh)∧i≤l.length∧l.take i=zaR l) ?_
  ·have hlen:(l.map zh).length=l.length:=by simp
   rw [hlen];have goal:∃i e',zK P L 300 [.vsl e l.length (l.map zh)] (.vsl e' i ((l.take i).map zh))∧i≤l.length∧l.take i=zaR l:=by
    unfold zK;rw [zf h];simp only [go_sem,ziW];generalize hq:D P L (.loop [0] zgr) _=q;obtain ⟨ex,st,rfl,tm,ct,rfl,rfl,i,e',h2,h3,h4⟩:=z8 hq (key l.length) ⟨l.length,e,by simp only [go_sem,reduceEqDiff,za,List.take_length],Nat.le_refl _,rfl,by rw [List.take_length]⟩;simp only [go_sem,za,h2];exact ⟨i,e',rfl,h3,h4⟩
   obtain ⟨i,e',g1,g2,g3⟩:=goal;refine ⟨_,g1,?_,rfl⟩;rw [←g3]
   have:=zcd e' (l.take i)
   rwa [List.length_take,Nat.min_eq_left g2] at this
  ·rintro k st ⟨i,e,rfl,hi,rfl,ht⟩
   cases i with
   | zero=>
    right
    simp only [go_sem,reduceEqDiff,zgr,show ¬(0:Int)<((0:Nat):Int) by omega];exact ⟨_,_,rfl,by simp,_,_,rfl,rfl,0,e,by simp only [go_sem,reduceEqDiff],Nat.zero_le _,by simpa [zaR] using ht⟩
   | succ i=>
    have hi1:i<l.length:=by omega
    have htk:l.take (i+1)=l.take i++[l[i]]:=List.take_succ_eq_append_getElem hi1;have hdr:List.drop i ((l.take (i+1)).map zh)=[AV.int .i64 l[i]]:=by
     rw [htk,List.map_append,List.drop_left' (by simp;omega)];rfl
    have hix:zdh 1 i (.vsl e (i+1) ((l.take (i+1)).map zh))=some (.vptr [AV.int .i64 l[i]]):=by
     rw [zrV e _ (by omega),Nat.mul_one,hdr]
    by_cases h0:l[i]=0
    ·left
     have hcut:∀tm x,zao tm (i+1) (some x)=some i→zbe [] (.sl 1) (.vsl e (i+1) ((l.take (i+1)).map zh)) tm none (some x)=some (.vsl (e&&Nat.beq i (i+1)) i ((l.take i).map zh)):=fun tm x hx=>by
      rw [zsP hx (by omega),←List.map_take,List.take_take,Nat.min_eq_left (by omega)]
     simp only [go_sem,reduceEqDiff,zgr,show (0:Int)<((i+1:Nat):Int) by omega,show ((i+1:Nat):Int)-1=(i:Int) by omega,zy (n:=i) (by omega),hix,h0,hcut,zae];refine ⟨_,i,rfl,by omega,i,_,by simp only [go_sem,za]<;>rfl,by omega,rfl,?_⟩
     rw [←ht,htk,h0,zdP]
    ·right
     simp only [go_sem,reduceEqDiff,zgr,show (0:Int)<((i+1:Nat):Int) by omega,show ((i+1:Nat):Int)-1=(i:Int) by omega,zy (n:=i) (by omega),hix,h0];refine ⟨_,_,rfl,by simp,_,_,rfl,rfl,i+1,e,by simp only [go_sem,reduceEqDiff],by omega,?_⟩;rw [←ht,htk,zeY h0]
end
end VE
end
section
namespace VE
open Go (IntKind)
abbrev uc (n:Nat):AV:= .int .u64 (n:Int)
def IsU (v:AV) (l:List Nat):Prop:=IsL v (l.map uc)
section
variable {v:AV} {l:List Nat}
theorem IsU.len (h:IsU v l) {hp:Hp}:zb8 hp 1 v=some (.int .i64 (l.length:Nat)):=by
 have:=IsL.len (hp:=hp) h
 rwa [List.length_map] at this
theorem IsU.pu (h:IsU v l):zx v=true:=IsL.pu h
theorem IsU.frz (h:IsU v l) (n:Nat) {hp:Hp}:zaf (n+1) hp v=some (v,hp):=IsL.frz h n
theorem IsU.shut (h:IsU v l):VE.shut v=v:=IsL.shut h
theorem IsU.shut1 (h:IsU v l):VE.shut1 v=v:=IsL.shut1 h
theorem IsU.res (h:IsU v l) {hp:Hp}:zaL hp v=some v:=IsL.res h
theorem IsU.one (h:IsU v l):z9 v=true:=IsL.one h
theorem IsU.cells (h:IsU v l):cellsOf v=[v]:=IsL.cells h
theorem IsU.ixa (h:IsU v l) {i:Nat} (hi:i<l.length):zdh 1 i v=some (.vptr (uc (l.getD i 0)::(l.map uc).drop (i+1))):=by
 have:=IsL.ixa h (i:=i) (by simpa using hi)
 rw [this];simp [List.getD_eq_getElem?_getD,List.getElem?_eq_getElem hi]
theorem zbL (e:Bool) (l:List Nat):IsU (.vsl e l.length (l.map uc)) l:=by
 have:=zsl e (l.map uc)
 rwa [List.length_map] at this
theorem zcz:IsU .nils []:=zeL
end
theorem stU {hp:Hp} {ct id o:Nat} {v:Nat} {ex:Bool} {l:List Nat} (h:o<l.length):stC hp ct id o 1 [.int .u64 (v:Int)] (some (.cells true true ex 1 (l.map uc)))=some (.tup [],z7 hp id (.cells true true ex 1 ((l.set o v).map uc)),ct):=by
 rw [zoo (by rfl) (by simp;omega) (by rfl)]
 have:zb6 o [uc v] (l.map uc)=(l.set o v).map uc:=by
  simp only [zb6,List.length_cons,List.length_nil,Nat.zero_add];rw [List.map_set,List.set_eq_take_append_cons_drop,if_pos (by simpa using h)]
  simp
 rw [this];rfl
theorem zhz {l:List Nat} {o:Nat} (h:o<l.length):List.drop o (l.map uc)=uc (l.getD o 0)::List.drop (o+1) (l.map uc):=by
 rw [List.drop_eq_getElem_cons (by simpa using h)];simp [List.getD_eq_getElem?_getD,List.getElem?_eq_getElem h]
theorem zCF (n:Nat):(List.replicate n [AV.int .u64 0]).flatten=(List.replicate n 0).map uc:=by
 induction n with
 | zero=>rfl
 | succ n ih=>simp only [List.replicate_succ,List.flatten_cons,ih,List.map_cons];rfl
theorem zpi (ct:Nat) {n:Nat} (h:n≤100000000000):znZ ct 1 8 [.int .u64 0] (some n) (some n)=some (.osl ct 0 n,.cells true true true 1 ((List.replicate n 0).map uc)):=by
 rw [zm0 (sz:=1) (by omega) (by omega) (by rfl) (by rfl),zCF];rfl
theorem znY (hp:Hp) {n:Nat} {l:List Nat} (h:l.length=n) (ex:Bool):zgw 0 n (some (ex,1,l.map uc,hp))=some (.vsl ex n (l.map uc),hp):=zdY ex (by simp [h]) (by decide)
theorem zDh {n:Nat} (h:n<18446744073709551616):IntKind.wrap .u64 (n:Int)=n:=zMQ (by omega) (by omega)
section
variable {P:zN} {L:Lib} {f:Run}
theorem zcP {a b:Nat} (h:a<b):Nat.blt a b=true:=Nat.ble_eq_true_of_le h
theorem zgE (h:L.pure 171=some zc5) {x y c:Nat} (hx:x<18446744073709551616) (hy:y<18446744073709551616) (hc:c≤1):
  zk P L f 171 [uc x,uc y,uc c]=some (.tup [uc ((x+y+c)%18446744073709551616),uc ((x+y+c)/18446744073709551616)]):=by
 rw [zaA h];show (bif Nat.ble c 1&&(Nat.blt x 18446744073709551616&&Nat.blt y 18446744073709551616) then _ else none)=_
 rw [Nat.ble_eq_true_of_le hc,zcP hx,zcP hy];rfl
theorem zpn (h:L.pure 173=some zfF) {x y c:Nat} (hx:x<18446744073709551616) (hy:y<18446744073709551616) (hc:c≤1):
  zk P L f 173 [uc x,uc y,uc c]=some (.tup [uc ((x+18446744073709551616*2-y-c)%18446744073709551616),uc (if y+c≤x then 0 else 1)]):=by
 rw [zaA h];show (bif Nat.ble c 1&&(Nat.blt x 18446744073709551616&&Nat.blt y 18446744073709551616) then _ else none)=_
 rw [Nat.ble_eq_true_of_le hc,zcP hx,zcP hy];simp only [Bool.and_self,cond_true,Option.some.injEq,AV.tup.injEq,List.cons.injEq,AV.int.injEq,true_and,and_true];by_cases hh:y+c≤x
 ·rw [Nat.ble_eq_true_of_le hh,if_pos hh];rfl
 ·have:Nat.ble (y+c) x=false:=by
   cases hq:Nat.ble (y+c) x with
   | false=>rfl
   | true=>exact absurd (Nat.le_of_ble_eq_true hq) hh
  rw [this,if_neg hh];rfl
theorem zmo (h:L.pure 143=some zer) {x y:Nat} (hx:x<18446744073709551616) (hy:y<18446744073709551616):
  zk P L f 143 [uc x,uc y]=some (.tup [uc (x*y/18446744073709551616),uc (x*y%18446744073709551616)]):=by
 rw [zaA h];show (bif Nat.blt x 18446744073709551616&&Nat.blt y 18446744073709551616 then _ else none)=_
 rw [zcP hx,zcP hy];rfl
theorem zvY {hp:Hp} {tm:Env} {x:X} (hx:zao tm 0 (some x)=some 0):zbe hp (.sl 1) .nils tm none (some x)=some .nils:=by
 simp only [zbe,hx,zay]
theorem znR (h:Has P L 166 zne) {v:AV} {l:List Nat} (hv:IsU v l) (hl:l.length≤100000000000):∃r,zK P L 166 [v] r∧IsU r (zaJ l):=by
 rcases hv with ⟨rfl,h0⟩ | ⟨e,rfl⟩
 ·have:l=[]:=by simpa using h0
  subst this;refine ⟨.nils,?_,zeL⟩;unfold zK;rw [zf h];simp only [go_sem,reduceEqDiff,zne,zmK,zgo,za,show ¬(0:Int)<0 by decide,zvY,zae]
 ·have key:=zS (P:=P) (L:=L) (live:=[0,3]) (a:=zgo)
   (I:=fun k st=>∃(i:Nat),st=⟨[(0,.vsl e l.length (l.map uc)),(3,zh i)],[],0,0⟩∧i≤l.length∧i=k∧zaJ (l.take i)=zaJ l)
   (Q:=fun ex st=>∃tm ct,st=⟨tm,[],ct,0⟩∧ex= .exit 0∧∃i:Nat,zc tm 0= .vsl e l.length (l.map uc)∧zc tm 3=zh i∧i≤l.length∧l.take i=zaJ l) ?_
  ·have hlen:(l.map uc).length=l.length:=by simp
   rw [hlen];have goal:∃i e',zK P L 166 [.vsl e l.length (l.map uc)] (.vsl e' i ((l.take i).map uc))∧i≤l.length∧l.take i=zaJ l:=by
    unfold zK;rw [zf h];simp only [go_sem,reduceEqDiff,zne];generalize hq:D P L (.loop [0,3] zgo) _=q;obtain ⟨ex,st,rfl,tm,ct,rfl,rfl,i,h2,h3,h4,h5⟩:=z8 hq (key l.length) ⟨l.length,by simp only [go_sem,reduceEqDiff,za],Nat.le_refl _,rfl,by rw [List.take_length]⟩;have hcut:∀tm x,zao tm l.length (some x)=some i→zbe [] (.sl 1) (.vsl e l.length (l.map uc)) tm none (some x)=some (.vsl (e&&Nat.beq i l.length) i ((l.map uc).take i)):=fun tm x hx=>zsP hx h4
    simp only [go_sem,reduceEqDiff,za,h2,h3,hcut,zae];exact ⟨i,_,by rw [List.map_take],h4,h5⟩
   obtain ⟨i,e',g1,g2,g3⟩:=goal;refine ⟨_,g1,?_⟩;rw [←g3]
   have:=zbL e' (l.take i)
   rwa [List.length_take,Nat.min_eq_left g2] at this
  ·rintro k st ⟨i,rfl,hi,rfl,ht⟩
   cases i with
   | zero=>
    right
    simp only [go_sem,reduceEqDiff,zgo,show ¬(0:Int)<((0:Nat):Int) by omega];exact ⟨_,_,rfl,by simp,_,_,rfl,rfl,0,by simp only [go_sem,reduceEqDiff],by simp only [go_sem,reduceEqDiff],Nat.zero_le _,by simpa [zaJ] using ht⟩
   | succ i=>
    have hi1:i<l.length:=by omega
    have htk:l.take (i+1)=l.take i++[l[i]]:=List.take_succ_eq_append_getElem hi1;have hix:=(zbL e l).ixa hi1;rw [←gd hi1] at hix;by_cases h0:l[i]=0
    ·left
     simp only [go_sem,reduceEqDiff,zgo,show (0:Int)<((i+1:Nat):Int) by omega,show ((i+1:Nat):Int)-1=(i:Int) by omega,zy (n:=i) (by omega),hix,show ((l[i]:Nat):Int)=0 by omega];refine ⟨_,i,rfl,by omega,i,by simp only [go_sem,reduceEqDiff,za],by omega,rfl,?_⟩;rw [←ht,htk,h0,ze3]
    ·right
     simp only [go_sem,reduceEqDiff,zgo,show (0:Int)<((i+1:Nat):Int) by omega,show ((i+1:Nat):Int)-1=(i:Int) by omega,zy (n:=i) (by omega),hix,show ¬((l[i]:Nat):Int)=0 by omega];refine ⟨_,_,rfl,by simp,_,_,rfl,rfl,i+1,by simp only [go_sem,reduceEqDiff],by simp only [go_sem,reduceEqDiff],by omega,?_⟩;rw [←ht,htk,zcZ h0]
end
end VE
end
