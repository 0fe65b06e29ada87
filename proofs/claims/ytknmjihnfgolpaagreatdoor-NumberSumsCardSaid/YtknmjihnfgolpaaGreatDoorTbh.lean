import Derived.Test.YtknmjihnfgolpaaGreatDoorTbg
import Derived.Test.YtknmjihnfgolpaaGreatDoorTau
import Derived.Test.YtknmjihnfgolpaaGreatDoorTbe
set_option linter.all false
set_option maxRecDepth 100000
open Nat (reduceAdd reduceEqDiff)
section
namespace VE
theorem zEe {a b:Nat} (h:¬a<b):Nat.blt a b=false:=by
 cases hb:Nat.blt a b with
 | false=>rfl
 | true=>exact absurd (Nat.le_of_ble_eq_true hb) (by omega)
theorem zmN:∀(f n:Nat) (acc:List Nat),n<f→zbW f n acc=zbW f n []++acc
 | 0,_,_,h=>by omega
 | f+1,n,acc,h=>by
  simp only [zbW];by_cases h1:n<10
  ·rw [show Nat.blt n 10=true from Nat.ble_eq_true_of_le h1];rfl
  ·rw [show Nat.blt n 10=false from zEe (by omega)];simp only [cond_false];rw [zmN f (n/10) _ (by omega),zmN f (n/10) [48+n%10] (by omega)]
   simp
theorem zh6 {f n:Nat} (h:n<10):zbW (f+1) n []=[48+n]:=by
 simp only [zbW];rw [show Nat.blt n 10=true from Nat.ble_eq_true_of_le h];rfl
theorem zmj {f n:Nat} (h:¬n<10) (hf:n≤f):zbW (f+1) n []=zbW f (n/10) []++[48+n%10]:=by
 rw [←zmN f (n/10) _ (by omega)];simp only [zbW];rw [show Nat.blt n 10=false from zEe (by omega)];rfl
theorem zwf:∀(n f:Nat),n<f→zbW f n []=zn n:=by
 intro n
 induction n using Nat.strongRecOn with
 | _ n ih=>
  intro f hf;obtain ⟨g,rfl⟩:∃g,f=g+1:=⟨f-1,by omega⟩;by_cases h:n<10
  ·rw [zh6 h];unfold zn;rw [zh6 h]
  ·rw [zmj h (by omega),ih (n/10) (by omega) g (by omega)];unfold zn;rw [zmj h (Nat.le_refl n),ih (n/10) (by omega) n (by omega)];rfl
theorem za8 {n:Nat} (h:n<10):zn n=[48+n]:=zh6 h
theorem zb4 {n:Nat} (h:¬n<10):zn n=zn (n/10)++[48+n%10]:=by
 rw [show zn n=zbW (n+1) n [] from rfl,zmj h (Nat.le_refl n),zwf (n/10) n (by omega)]
theorem zcm:∀{k n:Nat},n<10^(k+1)→(zn n).length≤k+1
 | 0,n,h=>by rw [za8 (by simpa using h)];simp
 | k+1,n,h=>by
  by_cases h1:n<10
  ·rw [za8 h1];simp
  ·rw [zb4 h1,List.length_append]
   have:n/10<10^(k+1):=by
    rw [Nat.pow_succ] at h;omega
   have:=zcm this
   simp only [List.length_cons,List.length_nil];omega
theorem ze5 {n:Nat} (h:n<18446744073709551616):(zn n).length≤20:=zcm (k:=19) (by omega)
theorem zbc (n:Nat):zW (n:Int)=zn n:=rfl
theorem zbo {n:Int} (h:n<0):zW n=45::zn n.natAbs:=by
 cases n with
 | ofNat n=>exact absurd h (by simp)
 | negSucc n=>rfl
def zO:List Nat→Nat
 | []=>0
 | b::r=>if b=47 then 0 else zO r+1
theorem znT {s:List Nat} {i:Nat} (h:i<s.length):zO (s.drop i)=if s[i]=47 then 0 else zO (s.drop (i+1))+1:=by
 rw [List.drop_eq_getElem_cons h];rfl
theorem zdU:∀s:List Nat,zO s≤s.length
 | []=>Nat.le_refl _
 | b::r=>by
  unfold zO
  have:=zdU r
  split<;>simp<;>omega
def zbm:List Nat→Bool
 | []=>true
 | b::r=>Nat.ble 48 b&&Nat.ble b 57&&zbm r
theorem zer:∀(a b:List Nat),zbm (a++b)=(zbm a&&zbm b)
 | [],b=>by simp [zbm]
 | x::a,b=>by simp [zbm,zer a b,Bool.and_assoc]
theorem zeK (n:Nat):zbm (zn n)=true:=by
 induction n using Nat.strongRecOn with
 | _ n ih=>
  by_cases h:n<10
  ·rw [za8 h];simp [zbm];omega
  ·rw [zb4 h,zer,ih (n/10) (by omega)];simp [zbm];omega
theorem zei:∀{s:List Nat} (r:List Nat),zbm s=true→zO (s++r)=s.length+zO r
 | [],r,_=>by simp
 | b::s,r,h=>by
  simp only [zbm,Bool.and_eq_true] at h;have h1:=Nat.le_of_ble_eq_true h.1.1;simp only [List.cons_append,zO,List.length_cons];rw [if_neg (by omega),zei r h.2];omega
theorem zet:∀(l:List Nat) (a d:Nat),d<10→za3 (l++[48+d]) a=(za3 l a).map (fun v=>10*v+d)
 | [],a,d,h=>by
  simp only [List.nil_append,za3];rw [show Nat.ble 48 (48+d)=true from Nat.ble_eq_true_of_le (by omega),show Nat.ble (48+d) 57=true from Nat.ble_eq_true_of_le (by omega)]
  simp
 | b::l,a,d,h=>by
  simp only [List.cons_append,za3]
  cases (Nat.ble 48 b&&Nat.ble b 57) with
  | true=>exact zet l _ d h
  | false=>rfl
theorem zdc (n:Nat):za3 (zn n) 0=some n:=by
 induction n using Nat.strongRecOn with
 | _ n ih=>
  by_cases h:n<10
  ·rw [za8 h]
   have:=zet [] 0 n h
   simpa [za3] using this
  ·rw [zb4 h,zet _ _ _ (by omega),ih (n/10) (by omega)]
   simp;omega
theorem zuZ {s:List Nat} {i a v:Nat} (h:i<s.length) (hv:za3 (s.drop i) a=some v):48≤s[i]∧s[i]≤57∧za3 (s.drop (i+1)) (10*a+(s[i]-48))=some v:=by
 rw [List.drop_eq_getElem_cons h] at hv;simp only [za3] at hv
 cases hb:(Nat.ble 48 s[i]&&Nat.ble s[i] 57) with
 | false=>rw [hb] at hv;cases hv
 | true=>
  rw [hb] at hv;simp only [Bool.and_eq_true] at hb;exact ⟨Nat.le_of_ble_eq_true hb.1,Nat.le_of_ble_eq_true hb.2,hv⟩
def zeg:Nat→Nat→List Nat
 | 0,_=>[]
 | k+1,n=>zeg k (n/10)++[48+n%10]
theorem zkN:∀k n,(zeg k n).length=k
 | 0,_=>rfl
 | k+1,n=>by simp [zeg,zkN k]
theorem zhH:∀(k m r:Nat),0<m→r<10^k→zn (m*10^k+r)=zn m++zeg k r
 | 0,m,r,_,h=>by simp at h;subst h;simp [zeg]
 | k+1,m,r,hm,h=>by
  have h1:m*10^(k+1)+r=(m*10^k)*10+r:=by rw [Nat.pow_succ,Nat.mul_assoc]
  have hp:0<m*10^k:=Nat.mul_pos hm (Nat.pow_pos (by decide));have e1:(m*10^(k+1)+r)/10=m*10^k+r/10:=by omega
  have e2:(m*10^(k+1)+r)%10=r%10:=by omega
  rw [zb4 (by omega),e1,e2,zhH k m (r/10) hm (by rw [Nat.pow_succ] at h;omega)];simp [zeg]
theorem zoI:∀(k r a:Nat),r<10^k→za3 (zeg k r) a=some (a*10^k+r)
 | 0,r,a,h=>by simp at h;subst h;simp [zeg,za3]
 | k+1,r,a,h=>by
  rw [Nat.pow_succ] at h;rw [zeg,zet _ _ _ (Nat.mod_lt _ (by decide)),zoI k (r/10) a (by omega)];simp only [Option.map_some,Option.some.injEq,Nat.pow_succ];rw [Nat.mul_add,←Nat.mul_assoc,Nat.mul_comm 10 a,Nat.mul_assoc,Nat.mul_comm 10 (10^k)];omega
theorem zv9 {m:Nat} (h:1000000000≤m):zn m=zn (m/1000000000)++zeg 9 (m%1000000000):=by
 have:=zhH 9 (m/1000000000) (m%1000000000) (by omega) (by omega)
 rw [←this]
 congr 1
 omega
end VE
end
section
namespace VE
open Go (IntKind)
def zeb (s:List Nat) (l h:Option Nat):Option AV:=
 match l,h with
 | some l,some h=>bif Nat.ble l h&&Nat.ble h s.length then some (.str ((s.take h).drop l)) else none
 | _,_=>none
theorem zah (hp:Hp) (s:List Nat) (tm:Env) (lo hi:Option X):zbn hp .str (.str s) tm lo hi=zeb s (zaw tm 0 lo) (zaw tm s.length hi):=by
 unfold zeb;simp only [zbn];cases zaw tm 0 lo<;>cases zaw tm s.length hi<;>rfl
theorem zap (tm:Env) (d:Nat):zaw tm d none=some d:=rfl
theorem zab (tm:Env) (d:Nat) (x:X):zaw tm d (some x)=zaN (zq tm x):=rfl
theorem zbl {s:List Nat} {l h:Nat} (h1:l≤h) (h2:h≤s.length):zeb s (some l) (some h)=some (.str ((s.take h).drop l)):=by
 simp [zeb,Nat.ble_eq_true_of_le h1,Nat.ble_eq_true_of_le h2]
theorem zaF {a b:List Nat} (h:a.length+b.length≤9223372036854775807):binOp .add (.str a) (.str b)=some (.str (a++b)):=by
 show znC .add a b=_
 simp only [znC,Nat.ble_eq_true_of_le h,cond_true]
theorem zBk (k:IntKind) (n:Int):zi3 (.toInt .i64) (.int k n)=some (zf (IntKind.wrap .i64 n)):=rfl
theorem za0 (a b:List Nat):binOp .eql (.str a) (.str b)=some (.bool (eqL a b)):=rfl
theorem zcU {s:List Nat} {i:Nat} (h:i<s.length):zem i (.str s)=some (.int .u8 (s[i]:Nat)):=by
 simp only [zem,List.getElem?_eq_getElem h]
theorem zkC {r:Nat} (h:r<10):zeb [48,49,50,51,52,53,54,55,56,57] (some r) (some (r+1))=some (.str [48+r]):=by
 rw [zbl (by omega) (by simp;omega)]
 have:r=0∨r=1∨r=2∨r=3∨r=4∨r=5∨r=6∨r=7∨r=8∨r=9:=by omega
 rcases this with rfl | rfl | rfl | rfl | rfl | rfl | rfl | rfl | rfl | rfl<;>rfl
section
variable {P:zU} {L:Lib}
theorem zEG (h:Has P L 292 zmm) {n:Nat} (hn:n<9223372036854775808):zF P L 292 [zf n,zf 1] (.str (zn n)):=by
 have key:=zT (P:=P) (L:=L) (live:=[0,1,5]) (a:=zdb)
  (I:=fun k st=>∃(m:Nat) (s:List Nat),st=⟨[(0,zf m),(1,zf 1),(5,.str s)],[],0,0⟩∧m≤n∧m+(1-s.length)=k∧s.length≤20∧((s=[]∧m=n)∨(0<s.length∧(m=0→s=zn n)∧(0<m→zn n=zn m++s))))
  (Q:=fun ex st=>∃tm ct,st=⟨tm,[],ct,0⟩∧ex= .exit 0∧zc tm 5= .str (zn n)) ?_
 ·unfold zF;rw [zd h];simp only [go_sem,zmm];generalize hq:D P L (.loop [0,1,5] zdb) _=q;obtain ⟨ex,st,rfl,tm,ct,rfl,rfl,h2⟩:=zae hq (key (n+1)) ⟨n,[],by simp only [go_sem,reduceEqDiff,za]<;>rfl,by omega,rfl,by simp,.inl ⟨rfl,rfl⟩⟩
  simp only [go_sem,za,h2]
 ·rintro k st ⟨m,s,rfl,hm,hk,hl,hs⟩;by_cases hgo:0<m∨s.length<1
  ·left
   have hc:((decide ((0:Int)<m))=true)∨((decide ((0:Int)<m))=false∧((s.length:Nat):Int)<1):=by
    by_cases h0:0<m
    ·exact .inl (decide_eq_true (by omega))
    ·exact .inr ⟨decide_eq_false (by omega),by omega⟩
   have hr:((m:Int)).tmod 10=((m%10:Nat):Int):=by rw [Int.tmod_eq_emod_of_nonneg (by omega)];rfl
   have hq:((m:Int)).tdiv 10=((m/10:Nat):Int):=by rw [Int.tdiv_eq_ediv_of_nonneg (by omega)];rfl
   have hd:=zkC (r:=m%10) (by omega);have fin:∃s' k',D P L zdb ⟨[(0,zf m),(1,zf 1),(5,.str s)],[],0,0⟩=some (.normal,s')∧k'<k∧zC [0,1,5] s'=⟨[(0,zf (m/10:Nat)),(1,zf 1),(5,.str ([48+m%10]++s))],[],0,0⟩∧m/10+(1-([48+m%10]++s).length)=k':=by
    rcases hc with hc | ⟨hc,hc2⟩
    ·have hc:(0:Int)<m:=of_decide_eq_true hc
     simp only [go_sem,reduceEqDiff,reduceAdd,zdb,hc,zaO _ _ _ (show (10:Int)≠0 by decide),zaC _ _ _ (show (10:Int)≠0 by decide),hr,hq,zB (n:=m%10+1) (by omega),zg (n:=((m/10:Nat):Int)) (by omega) (by omega),zah,zab,show ((m%10:Nat):Int)+1=((m%10+1:Nat):Int) from rfl,hd,zaF (a:=[48+m%10]) (b:=s) (by simp;omega)];refine ⟨_,_,rfl,?_,by simp only [go_sem,reduceEqDiff,za],rfl⟩
     simp;omega
    ·have hc:¬(0:Int)<m:=of_decide_eq_false hc
     simp only [go_sem,reduceEqDiff,reduceAdd,zdb,hc,hc2,zaO _ _ _ (show (10:Int)≠0 by decide),zaC _ _ _ (show (10:Int)≠0 by decide),hr,hq,zB (n:=m%10+1) (by omega),zg (n:=((m/10:Nat):Int)) (by omega) (by omega),zah,zab,show ((m%10:Nat):Int)+1=((m%10+1:Nat):Int) from rfl,hd,zaF (a:=[48+m%10]) (b:=s) (by simp;omega)];refine ⟨_,_,rfl,?_,by simp only [go_sem,reduceEqDiff,za],rfl⟩
     simp;omega
   obtain ⟨s',k',f1,f2,f3,f4⟩:=fin;refine ⟨s',k',f1,f2,m/10,[48+m%10]++s,f3,by omega,f4,?_,.inr ⟨by simp,fun h0=>?_,fun h0=>?_⟩⟩
   ·have hn20:=ze5 (n:=n) (by omega);rcases hs with ⟨rfl,rfl⟩ | ⟨h1,h2,h3⟩
    ·simp
    ·by_cases h0:0<m
     ·have e:=congrArg List.length (h3 h0);have e2:0<(zn m).length:=by
       by_cases h9:m<10
       ·rw [za8 h9];simp
       ·rw [zb4 h9];simp
      simp only [List.length_append] at e
      simp;omega
     ·omega
   ·have h9:m<10:=by omega
    rcases hs with ⟨rfl,rfl⟩ | ⟨h1,h2,h3⟩
    ·rw [za8 h9,Nat.mod_eq_of_lt h9];rfl
    ·have:0<m:=by omega
     rw [h3 this,za8 h9,Nat.mod_eq_of_lt h9]
   ·have h9:¬m<10:=by omega
    rcases hs with ⟨rfl,rfl⟩ | ⟨h1,h2,h3⟩
    ·rw [zb4 h9];simp
    ·rw [h3 (by omega),zb4 h9];simp
  ·right
   simp only [go_sem,reduceEqDiff,zdb,show ¬(0:Int)<m by omega,show ¬((s.length:Nat):Int)<1 by omega];refine ⟨_,_,rfl,by simp,_,_,rfl,rfl,?_⟩;simp only [go_sem,reduceEqDiff];rcases hs with ⟨rfl,rfl⟩ | ⟨h1,h2,h3⟩
   ·simp at hgo
   ·rw [h2 (by omega)]
theorem zQ3 (h:Has P L 291 zzH) {a b:Nat} (ha:a<9223372036854775808) (hb:b<9223372036854775808):zF P L 291 [zf a,zf b] (zf (Nat.gcd a b)):=by
 have key:=zT (P:=P) (L:=L) (live:=[0,1]) (a:=zj9)
  (I:=fun k st=>∃x y:Nat,st=⟨[(0,zf x),(1,zf y)],[],0,0⟩∧y=k∧Nat.gcd x y=Nat.gcd a b)
  (Q:=fun ex st=>∃tm ct,st=⟨tm,[],ct,0⟩∧ex= .exit 0∧zc tm 0=zf (Nat.gcd a b)) ?_
 ·unfold zF;rw [zd h];simp only [go_sem,zzH];generalize hq:D P L (.loop [0,1] zj9) _=q;obtain ⟨ex,st,rfl,tm,ct,rfl,rfl,h2⟩:=zae hq (key b) ⟨a,b,by simp only [go_sem,reduceEqDiff,za]<;>rfl,rfl,rfl⟩
  simp only [go_sem,za,h2]
 ·rintro k st ⟨x,y,rfl,rfl,hg⟩;by_cases hy:y=0
  ·right
   subst hy;simp only [go_sem,reduceEqDiff,zj9,show ¬(0:Int)<((0:Nat):Int) by omega];refine ⟨_,_,rfl,by simp,_,_,rfl,rfl,?_⟩;simp only [go_sem,reduceEqDiff];rw [←hg,Nat.gcd_zero_right]
  ·left
   have hr:((x:Int)).tmod y=((x%y:Nat):Int):=by rw [Int.tmod_eq_emod_of_nonneg (by omega)];rfl
   simp only [go_sem,reduceEqDiff,zj9,show (0:Int)<y by omega,zaO _ _ _ (show (y:Int)≠0 by omega),hr];refine ⟨_,x%y,rfl,Nat.mod_lt _ (by omega),y,x%y,by simp only [go_sem,reduceEqDiff,za],rfl,?_⟩;rw [←hg,Nat.gcd_comm y,←Nat.gcd_rec,Nat.gcd_comm]
end
end VE
end
section
namespace VE
open Go (IntKind)
section
variable {P:zU} {L:Lib}
theorem zuQ (h:Has P L 272 zx8) {s:List Nat} (hl:s.length≤1000000000000):zF P L 272 [.str s] (zf (zO s)):=by
 have key:=zT (P:=P) (L:=L) (live:=[0,3]) (a:=zii)
  (I:=fun k st=>∃i:Nat,st=⟨[(0,.str s),(3,zf i)],[],0,0⟩∧i+k=s.length∧i+zO (s.drop i)=zO s)
  (Q:=fun ex st=>∃tm ct,st=⟨tm,[],ct,0⟩∧((ex= .ret∧zc tm 2=zf (zO s))∨(ex= .exit 0∧zc tm 0= .str s∧zO s=s.length))) ?_
 ·unfold zF;rw [zd h];simp only [go_sem,zx8];generalize hq:D P L (.loop [0,3] zii) _=q;obtain ⟨ex,st,rfl,tm,ct,rfl,h2⟩:=zae hq (key s.length) ⟨0,by simp only [go_sem,reduceEqDiff,za]<;>rfl,by omega,by simp⟩
  rcases h2 with ⟨rfl,h2⟩ | ⟨rfl,h2,h3⟩
  ·simp only [go_sem,h2]
  ·simp only [go_sem,za,h2,h3]
 ·rintro k st ⟨i,rfl,hk,hs⟩;by_cases hi:i<s.length
  ·rw [znT hi] at hs;by_cases h7:s[i]=47
   ·right
    rw [if_pos h7] at hs;simp only [go_sem,reduceEqDiff,zii,show (i:Int)<s.length by omega,zcU hi,show ((s[i]:Nat):Int)=47 by omega];refine ⟨_,_,rfl,by simp,_,_,rfl,.inl ⟨rfl,?_⟩⟩;simp only [go_sem];rw [←hs];rfl
   ·left
    rw [if_neg h7] at hs;simp only [go_sem,reduceEqDiff,zii,show (i:Int)<s.length by omega,zcU hi,show ¬((s[i]:Nat):Int)=47 by omega];refine ⟨_,k-1,rfl,by omega,i+1,?_,by omega,by omega⟩;rw [zg (by omega) (by omega)];simp only [go_sem,reduceEqDiff,za]<;>rfl
  ·right
   simp only [go_sem,reduceEqDiff,zii,show ¬(i:Int)<s.length by omega];refine ⟨_,_,rfl,by simp,_,_,rfl,.inr ⟨rfl,by simp only [go_sem,reduceEqDiff],?_⟩⟩;rw [List.drop_eq_nil_of_le (by omega)] at hs;simp only [zO] at hs;omega
theorem zyy (h:Has P L 290 zvv) {s:List Nat} {v:Nat} (hl:s.length≤18) (hv:za3 s 0=some v):zF P L 290 [.str s] (zf v):=by
 have key:=zT (P:=P) (L:=L) (live:=[0,3,4]) (a:=zjC)
  (I:=fun k st=>∃i a:Nat,st=⟨[(0,.str s),(3,zf a),(4,zf i)],[],0,0⟩∧i+k=s.length∧a<10^i∧za3 (s.drop i) a=some v)
  (Q:=fun ex st=>∃tm ct,st=⟨tm,[],ct,0⟩∧ex= .exit 0∧zc tm 3=zf v) ?_
 ·unfold zF;rw [zd h];simp only [go_sem,zvv];generalize hq:D P L (.loop [0,3,4] zjC) _=q;obtain ⟨ex,st,rfl,tm,ct,rfl,rfl,h2⟩:=zae hq (key s.length) ⟨0,0,by simp only [go_sem,reduceEqDiff,za]<;>rfl,by omega,by simp,hv⟩
  simp only [go_sem,za,h2]
 ·rintro k st ⟨i,a,rfl,hk,ha,hs⟩;by_cases hi:i<s.length
  ·left
   obtain ⟨h1,h2,h3⟩:=zuZ hi hs;have hp:10^i≤10^17:=Nat.pow_le_pow_right (by decide) (by omega);have hp':(10:Nat)^17=100000000000000000:=by decide
   have hb:IntKind.wrap .i64 ((s[i]:Nat):Int)=((s[i]:Nat):Int):=zg (by omega) (by omega)
   simp only [go_sem,reduceEqDiff,zjC,show (i:Int)<s.length by omega,zcU hi,zBk,hb,zg (n:=10*(a:Int)) (by omega) (by omega),zg (n:=10*(a:Int)+(s[i]:Nat)) (by omega) (by omega),zg (n:=10*(a:Int)+(s[i]:Nat)-48) (by omega) (by omega)];refine ⟨_,k-1,rfl,by omega,i+1,10*a+(s[i]-48),?_,by omega,?_,h3⟩
   ·rw [zg (by omega) (by omega),show 10*(a:Int)+(s[i]:Nat)-48=((10*a+(s[i]-48):Nat):Int) by omega];simp only [go_sem,reduceEqDiff,za]<;>rfl
   ·rw [Nat.pow_succ];omega
  ·right
   simp only [go_sem,reduceEqDiff,zjC,show ¬(i:Int)<s.length by omega];refine ⟨_,_,rfl,by simp,_,_,rfl,rfl,?_⟩;rw [List.drop_eq_nil_of_le (by omega)] at hs;simp only [za3,Option.some.injEq] at hs;subst hs;simp only [go_sem,reduceEqDiff]
theorem zjq (a:Int):(if 0-a>a then 0-a else a)=(a.natAbs:Int):=by split<;>omega
theorem zhB (a b:Int):a.tdiv (Int.gcd a b:Nat)=zbr a b:=Int.tdiv_eq_ediv_of_dvd (Int.gcd_dvd_left a b)
theorem zho (a b:Int):b.tdiv (Int.gcd a b:Nat)=zbt a b:=Int.tdiv_eq_ediv_of_dvd (Int.gcd_dvd_right a b)
theorem za5 (n:Int):(if n<0 then [45] else [])++zn n.natAbs=zW n:=by
 split
 ·rename_i h;rw [zbo h];rfl
 ·rename_i h;obtain ⟨m,rfl⟩:∃m:Nat,n=m:=⟨n.toNat,by omega⟩;rfl
theorem zx6 {n:Int} (h:n.natAbs<18446744073709551616):(zW n).length≤21:=by
 rw [←za5]
 have:=ze5 h
 split<;>simp<;>omega
theorem zC9 {a b:Int} (hb:0<b):zi5 a b=(if 1<zbt a b then (zW (zbr a b)++[47])++zn (zbt a b).natAbs else zW (zbr a b)):=by
 have h:=zfB (a:=a) hb;unfold zi5;by_cases h1:zbt a b=1
 ·rw [if_pos h1,if_neg (by omega)]
 ·rw [if_neg h1,if_pos (by omega)];obtain ⟨m,hm⟩:∃m:Nat,zbt a b=m:=⟨(zbt a b).toNat,by omega⟩;rw [hm];rfl
theorem zQh (h:Has P L 277 zp6) (h291:Has P L 291 zzH) (h292:Has P L 292 zmm) {a b:Int} (ha: -4000000000000000000≤a∧a≤4000000000000000000) (hb:0<b∧b≤4000000000000000000):
  zF P L 277 [zf a,zf b] (.str (zi5 a b)):=by
 have hn:=zoQ a b;have hd:=zoe a b;have hp:=zfB (a:=a) hb.1;have e1:=zQ3 h291 (a:=a.natAbs) (b:=b.natAbs) (by omega) (by omega);have e2:=zEG h292 (n:=(zbr a b).natAbs) (by omega);have e3:=zEG h292 (n:=(zbt a b).natAbs) (by omega);have hg:=zhl (a:=a) hb.1;rw [show ((b.natAbs:Nat):Int)=b by omega,show Nat.gcd a.natAbs b.natAbs=Int.gcd a b from rfl] at e1;rw [show (((zbt a b).natAbs:Nat):Int)=zbt a b by omega] at e3;have hl1:=zx6 (n:=zbr a b) (by omega);have hl2:=ze5 (n:=(zbr a b).natAbs) (by omega);have hl3:=ze5 (n:=(zbt a b).natAbs) (by omega);have hT:=zC9 (a:=a) hb.1;have hS:=za5 (zbr a b);unfold zF at e1 e2 e3 ⊢;rw [zd h];by_cases h0:zbr a b<0
 ·rw [if_pos h0] at hS;by_cases h1:1<zbt a b
  ·rw [if_pos h1] at hT
   simp only [go_sem,reduceEqDiff,zp6,show ¬a< -4000000000000000000 by omega,show ¬4000000000000000000<a by omega,show ¬b< -4000000000000000000 by omega,show ¬4000000000000000000<b by omega,show ¬b<0 by omega,zg (n:=0-a) (by omega) (by omega),zib,zeE,zjq,e1,zaC _ _ _ (show ((Int.gcd a b:Nat):Int)≠0 by omega),zhB,zho,zg (n:=zbr a b) (by omega) (by omega),zg (n:=zbt a b) (by omega) (by omega),h0,zg (n:=0-zbr a b) (by omega) (by omega),e2,zaF (a:=[45]) (b:=zn (zbr a b).natAbs) (by simp;omega),hS,h1,zaF (a:=zW (zbr a b)) (b:=[47]) (by simp;omega),e3,zaF (a:=zW (zbr a b)++[47]) (b:=zn (zbt a b).natAbs) (by simp;omega),hT]
  ·rw [if_neg h1] at hT
   simp only [go_sem,reduceEqDiff,zp6,show ¬a< -4000000000000000000 by omega,show ¬4000000000000000000<a by omega,show ¬b< -4000000000000000000 by omega,show ¬4000000000000000000<b by omega,show ¬b<0 by omega,zg (n:=0-a) (by omega) (by omega),zib,zeE,zjq,e1,zaC _ _ _ (show ((Int.gcd a b:Nat):Int)≠0 by omega),zhB,zho,zg (n:=zbr a b) (by omega) (by omega),zg (n:=zbt a b) (by omega) (by omega),h0,zg (n:=0-zbr a b) (by omega) (by omega),e2,zaF (a:=[45]) (b:=zn (zbr a b).natAbs) (by simp;omega),hS,h1,hT]
 ·rw [if_neg h0] at hS;by_cases h1:1<zbt a b
  ·rw [if_pos h1] at hT
   simp only [go_sem,reduceEqDiff,zp6,show ¬a< -4000000000000000000 by omega,show ¬4000000000000000000<a by omega,show ¬b< -4000000000000000000 by omega,show ¬4000000000000000000<b by omega,show ¬b<0 by omega,zg (n:=0-a) (by omega) (by omega),zib,zeE,zjq,e1,zaC _ _ _ (show ((Int.gcd a b:Nat):Int)≠0 by omega),zhB,zho,zg (n:=zbr a b) (by omega) (by omega),zg (n:=zbt a b) (by omega) (by omega),h0,zg (n:=0-zbr a b) (by omega) (by omega),e2,zaF (a:=[]) (b:=zn (zbr a b).natAbs) (by simp;omega),hS,h1,zaF (a:=zW (zbr a b)) (b:=[47]) (by simp;omega),e3,zaF (a:=zW (zbr a b)++[47]) (b:=zn (zbt a b).natAbs) (by simp;omega),hT]
  ·rw [if_neg h1] at hT
   simp only [go_sem,reduceEqDiff,zp6,show ¬a< -4000000000000000000 by omega,show ¬4000000000000000000<a by omega,show ¬b< -4000000000000000000 by omega,show ¬4000000000000000000<b by omega,show ¬b<0 by omega,zg (n:=0-a) (by omega) (by omega),zib,zeE,zjq,e1,zaC _ _ _ (show ((Int.gcd a b:Nat):Int)≠0 by omega),zhB,zho,zg (n:=zbr a b) (by omega) (by omega),zg (n:=zbt a b) (by omega) (by omega),h0,zg (n:=0-zbr a b) (by omega) (by omega),e2,zaF (a:=[]) (b:=zn (zbr a b).natAbs) (by simp;omega),hS,h1,hT]
end
end VE
end
section
namespace VE
open Go (IntKind)
def TT (n:Int) (d:Nat):List Nat:=zW n++(if d=1 then [] else 47::zn d)
theorem zBG {a b:Int} (hb:0<b):zi5 a b=TT (zbr a b) (zbt a b).toNat:=by
 have h:=zfB (a:=a) hb;unfold zi5 TT;by_cases h1:zbt a b=1
 ·rw [if_pos h1,if_pos (by omega),List.append_nil]
 ·rw [if_neg h1,if_neg (by omega)];obtain ⟨m,hm⟩:∃m:Nat,zbt a b=m:=⟨(zbt a b).toNat,by omega⟩;rw [hm,List.append_assoc];rfl
theorem zbK (n:Nat):0<(zn n).length:=by
 by_cases h:n<10
 ·rw [za8 h];simp
 ·rw [zb4 h];simp
theorem zhi:∀(n:Nat),n<10^(zn n).length:=by
 intro n
 induction n using Nat.strongRecOn with
 | _ n ih=>
  by_cases h:n<10
  ·rw [za8 h];simpa using h
  ·have:=ih (n/10) (by omega)
   rw [zb4 h,List.length_append,List.length_singleton,Nat.pow_succ];omega
theorem zol {n:Nat} (h:(zn n).length≤9):n<1000000000:=
 Nat.lt_of_lt_of_le (zhi n) (by simpa using Nat.pow_le_pow_right (show 0<10 by decide) h)
theorem zdT (n:Nat):∃b r,zn n=b::r∧48≤b∧b≤57:=by
 cases hq:zn n with
 | nil=>have:=zbK n;rw [hq] at this;simp at this
 | cons b r=>
  have:=zeK n
  rw [hq] at this;simp only [zbm,Bool.and_eq_true] at this;exact ⟨b,r,rfl,Nat.le_of_ble_eq_true this.1.1,Nat.le_of_ble_eq_true this.1.2⟩
section
variable {P:zU} {L:Lib}
theorem zpL (s:List Nat):zem 0 (.str (45::s))=some (.int .u8 45):=rfl
def zpE (q:Bool) (n:Int) (d:Nat):AV:=if q=true then .tup [zf n,zf d,.bool true] else .tup [zf 0,zf 0,.bool false]
def zg5 (d:Nat):List Nat:=if d=1 then [] else 47::zn d
theorem zpv (d:Nat):zO (zg5 d)=0:=by unfold zg5;split<;>rfl
theorem zRm (h:Has P L 276 zi4) (h272:Has P L 272 zx8) (h290:Has P L 290 zvv) {n:Int} {d:Nat} (hl:(TT n d).length≤20000000000):
  ∃q:Bool,zF P L 276 [.str (TT n d)] (zpE q n d)∧(q=true→n.natAbs<1000000000∧d<1000000000):=by
 generalize hs:TT n d=s at hl;by_cases h20:20<s.length
 ·refine ⟨false,?_,fun h=>by cases h⟩;unfold zF;rw [zd h];simp only [go_sem,reduceEqDiff,zi4,show (20:Int)<s.length by omega];rfl
 ·have hu:∃u,u=zn n.natAbs++zg5 d:=⟨_,rfl⟩;obtain ⟨u,hu⟩:=hu;have hK:∃K,K=(zn n.natAbs).length:=⟨_,rfl⟩;obtain ⟨K,hK⟩:=hK;have hsl:zO u=K:=by rw [hu,zei _ (zeK _),zpv,hK];rfl
  have hlen:u.length=K+(zg5 d).length:=by rw [hu,hK,List.length_append]
  have hp:=zbK n.natAbs;obtain ⟨b,r,hb,hb1,hb2⟩:=zdT n.natAbs;have hsu:(n<0∧s=45::u)∨(¬n<0∧s=u):=by
   by_cases h0:n<0
   ·left;refine ⟨h0,?_⟩;rw [←hs,hu,TT,zbo h0];rfl
   ·right;refine ⟨h0,?_⟩;rw [←hs,hu,TT,←za5,if_neg h0];rfl
  have hul:u.length≤s.length:=by rcases hsu with ⟨_,e⟩ | ⟨_,e⟩<;>rw [e]<;>simp
  have hu0:0<u.length:=by omega
  have hu1:u[0]=b:=by
   have:u=b::(r++zg5 d):=by rw [hu,hb];rfl
   simp [this]
  have e1:=zuQ h272 (s:=u) (by omega);rw [hsl] at e1;have hc1:zeb u (some 0) (some K)=some (.str (zn n.natAbs)):=by
   rw [zbl (by omega) (by omega),List.drop_zero,hu,hK,List.take_left]
  unfold zF at e1;by_cases h9:9<K
  ·refine ⟨false,?_,fun h=>by cases h⟩;unfold zF;rw [zd h];rcases hsu with ⟨h0,e⟩ | ⟨h0,e⟩
   ·have h20:¬20<u.length+1:=by rw [e] at h20;exact h20
    have hc0:zeb (45::u) (some 1) (some (u.length+1))=some (.str u):=by rw [zbl (s:=45::u) (l:=1) (h:=u.length+1) (by omega) (by simp)];simp
    rw [e];simp only [go_sem,reduceEqDiff,zi4,show ¬(20:Int)<((u.length+1:Nat):Int) by omega,show (0:Int)<((u.length+1:Nat):Int) by omega,zpL,zah,zap,zab,hc0,e1,show (9:Int)<(K:Int) by omega];rfl
   ·rw [e];simp only [go_sem,reduceEqDiff,zi4,show ¬(20:Int)<(u.length:Nat) by omega,show (0:Int)<(u.length:Nat) by omega,zcU hu0,hu1,show ¬((b:Nat):Int)=45 by omega,e1,show (9:Int)<(K:Int) by omega];rfl
  ·by_cases h10:10<(zg5 d).length
   ·refine ⟨false,?_,fun h=>by cases h⟩;unfold zF;rw [zd h];rcases hsu with ⟨h0,e⟩ | ⟨h0,e⟩
    ·have h20:¬20<u.length+1:=by rw [e] at h20;exact h20
     have hc0:zeb (45::u) (some 1) (some (u.length+1))=some (.str u):=by rw [zbl (s:=45::u) (l:=1) (h:=u.length+1) (by omega) (by simp)];simp
     rw [e]
     simp only [go_sem,reduceEqDiff,zi4,show ¬(20:Int)<((u.length+1:Nat):Int) by omega,show (0:Int)<((u.length+1:Nat):Int) by omega,zpL,zah,zap,zab,hc0,e1,show ¬(9:Int)<(K:Int) by omega,zg (n:=(u.length:Int)-(K:Int)) (by omega) (by omega),show (10:Int)<(u.length:Int)-(K:Int) by omega];rfl
    ·rw [e]
     simp only [go_sem,reduceEqDiff,zi4,show ¬(20:Int)<(u.length:Nat) by omega,show (0:Int)<(u.length:Nat) by omega,zcU hu0,hu1,show ¬((b:Nat):Int)=45 by omega,e1,show ¬(9:Int)<(K:Int) by omega,zg (n:=(u.length:Int)-(K:Int)) (by omega) (by omega),show (10:Int)<(u.length:Int)-(K:Int) by omega];rfl
   ·have e2:=zyy h290 (s:=zn n.natAbs) (by omega) (zdc n.natAbs);unfold zF at e2;have hm:=zol (n:=n.natAbs) (by omega);by_cases hd:d=1
    ·subst hd;have hr0:zg5 1=[]:=rfl;refine ⟨true,?_,fun _=>⟨hm,by decide⟩⟩;rw [hr0] at hlen;simp only [List.length_nil,Nat.add_zero] at hlen;unfold zF;rw [zd h];rcases hsu with ⟨h0,e⟩ | ⟨h0,e⟩
     ·have h20:¬20<u.length+1:=by rw [e] at h20;exact h20
      have hc0:zeb (45::u) (some 1) (some (u.length+1))=some (.str u):=by rw [zbl (s:=45::u) (l:=1) (h:=u.length+1) (by omega) (by simp)];simp
      rw [e]
      simp only [go_sem,reduceEqDiff,zi4,show ¬(20:Int)<((u.length+1:Nat):Int) by omega,show (0:Int)<((u.length+1:Nat):Int) by omega,zpL,zah,zap,zab,hc0,e1,show ¬(9:Int)<(K:Int) by omega,zg (n:=(u.length:Int)-(K:Int)) (by omega) (by omega),show ¬(10:Int)<(u.length:Int)-(K:Int) by omega,hc1,e2,show ¬(K:Int)<(u.length:Int) by omega,zg (n:=0-(n.natAbs:Int)) (by omega) (by omega)];rw [show 0-(n.natAbs:Int)=n by omega];rfl
     ·rw [e]
      simp only [go_sem,reduceEqDiff,zi4,show ¬(20:Int)<(u.length:Nat) by omega,show (0:Int)<(u.length:Nat) by omega,zcU hu0,hu1,show ¬((b:Nat):Int)=45 by omega,zah,zap,zab,e1,show ¬(9:Int)<(K:Int) by omega,zg (n:=(u.length:Int)-(K:Int)) (by omega) (by omega),show ¬(10:Int)<(u.length:Int)-(K:Int) by omega,hc1,e2,show ¬(K:Int)<(u.length:Int) by omega];rw [show (n.natAbs:Int)=n by omega];rfl
    ·have hr0:zg5 d=47::zn d:=if_neg hd;have hlr:(zg5 d).length=(zn d).length+1:=by rw [hr0];rfl
     have hpd:=zbK d;have hd9:=zol (n:=d) (by omega);have e3:=zyy h290 (s:=zn d) (by omega) (zdc d);unfold zF at e3;have hc2:zeb u (some (K+1)) (some u.length)=some (.str (zn d)):=by
      rw [zbl (by omega) (Nat.le_refl _),List.take_length,hu,hr0,hK,show (zn n.natAbs).length+1=(zn n.natAbs++[47]).length by simp,show zn n.natAbs++47::zn d=(zn n.natAbs++[47])++zn d by simp,List.drop_left]
     refine ⟨true,?_,fun _=>⟨hm,hd9⟩⟩;unfold zF;rw [zd h];rcases hsu with ⟨h0,e⟩ | ⟨h0,e⟩
     ·have h20:¬20<u.length+1:=by rw [e] at h20;exact h20
      have hc0:zeb (45::u) (some 1) (some (u.length+1))=some (.str u):=by rw [zbl (s:=45::u) (l:=1) (h:=u.length+1) (by omega) (by simp)];simp
      rw [e]
      simp only [go_sem,reduceEqDiff,zi4,show ¬(20:Int)<((u.length+1:Nat):Int) by omega,show (0:Int)<((u.length+1:Nat):Int) by omega,zpL,zah,zap,zab,hc0,e1,show ¬(9:Int)<(K:Int) by omega,zg (n:=(u.length:Int)-(K:Int)) (by omega) (by omega),show ¬(10:Int)<(u.length:Int)-(K:Int) by omega,hc1,e2,show (K:Int)<(u.length:Int) by omega,zB (n:=K+1) (by omega),show (K:Int)+1=((K+1:Nat):Int) from rfl,hc2,e3,zg (n:=0-(n.natAbs:Int)) (by omega) (by omega)];rw [show 0-(n.natAbs:Int)=n by omega];rfl
     ·rw [e]
      simp only [go_sem,reduceEqDiff,zi4,show ¬(20:Int)<(u.length:Nat) by omega,show (0:Int)<(u.length:Nat) by omega,zcU hu0,hu1,show ¬((b:Nat):Int)=45 by omega,zah,zap,zab,e1,show ¬(9:Int)<(K:Int) by omega,zg (n:=(u.length:Int)-(K:Int)) (by omega) (by omega),show ¬(10:Int)<(u.length:Int)-(K:Int) by omega,hc1,e2,show (K:Int)<(u.length:Int) by omega,zB (n:=K+1) (by omega),show (K:Int)+1=((K+1:Nat):Int) from rfl,hc2,e3];rw [show (n.natAbs:Int)=n by omega];rfl
end
end VE
end
section
namespace VE
open Go (IntKind)
section
variable {P:zU} {L:Lib}
theorem zE4 (h:Has P L 302 zll) {v:AV} {l:List Int} (hv:IsI v l) (i:Nat):zF P L 302 [v,zf i] (zf (l.getD i 0)):=by
 unfold zF;rw [zd h];by_cases hi:i<l.length
 ·simp only [go_sem,reduceEqDiff,zll,hv.len,show (i:Int)<l.length by omega,hv.ixa hi];simp [List.getD_eq_getElem?_getD,List.getElem?_eq_getElem hi]
 ·simp only [go_sem,reduceEqDiff,zll,hv.len,show ¬(i:Int)<l.length by omega];simp [List.getD_eq_getElem?_getD,List.getElem?_eq_none (Nat.le_of_not_lt hi)]
theorem zrh {hp:Hp} {e:Bool} {n:Nat} {cs:List AV} {tm:Env} {h:Nat} {x:X} (hx:zaw tm n (some x)=some h) (hh:h≤n):
  zbn hp (.sl 1) (.vsl e n cs) tm none (some x)=some (.vsl (e&&Nat.beq h n) h (cs.take h)):=by
 simp only [zbn,hx,zap];simp [Nat.ble_eq_true_of_le hh,slice];rw [show Nat.ble 0 h=true from Nat.ble_eq_true_of_le (Nat.zero_le _)];rfl
theorem znI (h:Has P L 300 zgc) {v:AV} {l:List Int} (hv:IsI v l) (hl:l.length≤20000000000):∃r,zF P L 300 [v] r∧IsI r (zaT l)∧shut r=r:=by
 rcases hv with ⟨rfl,h0⟩ | ⟨e,rfl⟩
 ·have:l=[]:=by simpa using h0
  subst this;refine ⟨.nils,?_,zd7,rfl⟩;unfold zF;rw [zd h];simp only [go_sem,reduceEqDiff,zgc,zmP,zgC,za,show ¬(0:Int)<0 by decide]
 ·have key:=zT (P:=P) (L:=L) (live:=[0]) (a:=zgC)
   (I:=fun k st=>∃(i:Nat) (e:Bool),st=⟨[(0,.vsl e i ((l.take i).map zf))],[],0,0⟩∧i≤l.length∧i=k∧zaT (l.take i)=zaT l)
   (Q:=fun ex st=>∃tm ct,st=⟨tm,[],ct,0⟩∧ex= .exit 0∧∃i e,zc tm 0= .vsl e i ((l.take i).map zf)∧i≤l.length∧l.take i=zaT l) ?_
  ·have hlen:(l.map zf).length=l.length:=by simp
   rw [hlen];have goal:∃i e',zF P L 300 [.vsl e l.length (l.map zf)] (.vsl e' i ((l.take i).map zf))∧i≤l.length∧l.take i=zaT l:=by
    unfold zF;rw [zd h];simp only [go_sem,zgc];generalize hq:D P L (.loop [0] zgC) _=q;obtain ⟨ex,st,rfl,tm,ct,rfl,rfl,i,e',h2,h3,h4⟩:=zae hq (key l.length) ⟨l.length,e,by simp only [go_sem,reduceEqDiff,za,List.take_length],Nat.le_refl _,rfl,by rw [List.take_length]⟩;simp only [go_sem,za,h2];exact ⟨i,e',rfl,h3,h4⟩
   obtain ⟨i,e',g1,g2,g3⟩:=goal;refine ⟨_,g1,?_,rfl⟩;rw [←g3]
   have:=zbJ e' (l.take i)
   rwa [List.length_take,Nat.min_eq_left g2] at this
  ·rintro k st ⟨i,e,rfl,hi,rfl,ht⟩
   cases i with
   | zero=>
    right
    simp only [go_sem,reduceEqDiff,zgC,show ¬(0:Int)<((0:Nat):Int) by omega];exact ⟨_,_,rfl,by simp,_,_,rfl,rfl,0,e,by simp only [go_sem,reduceEqDiff],Nat.zero_le _,by simpa [zaT] using ht⟩
   | succ i=>
    have hi1:i<l.length:=by omega
    have htk:l.take (i+1)=l.take i++[l[i]]:=List.take_succ_eq_append_getElem hi1;have hdr:List.drop i ((l.take (i+1)).map zf)=[AV.int .i64 l[i]]:=by
     rw [htk,List.map_append,List.drop_left' (by simp;omega)];rfl
    have hix:zdl 1 i (.vsl e (i+1) ((l.take (i+1)).map zf))=some (.vptr [AV.int .i64 l[i]]):=by
     rw [zta e _ (by omega),Nat.mul_one,hdr]
    by_cases h0:l[i]=0
    ·left
     have hcut:∀tm x,zaw tm (i+1) (some x)=some i→zbn [] (.sl 1) (.vsl e (i+1) ((l.take (i+1)).map zf)) tm none (some x)=some (.vsl (e&&Nat.beq i (i+1)) i ((l.take i).map zf)):=fun tm x hx=>by
      rw [zrh hx (by omega),←List.map_take,List.take_take,Nat.min_eq_left (by omega)]
     simp only [go_sem,reduceEqDiff,zgC,show (0:Int)<((i+1:Nat):Int) by omega,show ((i+1:Nat):Int)-1=(i:Int) by omega,zB (n:=i) (by omega),hix,h0,hcut,zab];refine ⟨_,i,rfl,by omega,i,_,by simp only [go_sem,za]<;>rfl,by omega,rfl,?_⟩
     rw [←ht,htk,h0,zec]
    ·right
     simp only [go_sem,reduceEqDiff,zgC,show (0:Int)<((i+1:Nat):Int) by omega,show ((i+1:Nat):Int)-1=(i:Int) by omega,zB (n:=i) (by omega),hix,h0];refine ⟨_,_,rfl,by simp,_,_,rfl,rfl,i+1,e,by simp only [go_sem,reduceEqDiff],by omega,?_⟩;rw [←ht,htk,ze8 h0]
end
end VE
end
