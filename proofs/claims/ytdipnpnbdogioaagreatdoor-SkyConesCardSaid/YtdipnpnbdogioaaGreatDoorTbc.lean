import Derived.Test.YtdipnpnbdogioaaGreatDoorTbb
import Derived.Test.YtdipnpnbdogioaaGreatDoorTat
import Derived.Test.YtdipnpnbdogioaaGreatDoorTay
set_option linter.all false
set_option maxRecDepth 100000
open Nat (reduceAdd reduceEqDiff)
section
namespace VE
theorem zCm {a b:Nat} (h:¬a<b):Nat.blt a b=false:=by
 cases hb:Nat.blt a b with
 | false=>rfl
 | true=>exact absurd (Nat.le_of_ble_eq_true hb) (by omega)
theorem zm9:∀(f n:Nat) (acc:List Nat),n<f→zbZ f n acc=zbZ f n []++acc
 | 0,_,_,h=>by omega
 | f+1,n,acc,h=>by
  simp only [zbZ];by_cases h1:n<10
  ·rw [show Nat.blt n 10=true from Nat.ble_eq_true_of_le h1];rfl
  ·rw [show Nat.blt n 10=false from zCm (by omega)];simp only [cond_false];rw [zm9 f (n/10) _ (by omega),zm9 f (n/10) [48+n%10] (by omega)]
   simp
theorem ziK {f n:Nat} (h:n<10):zbZ (f+1) n []=[48+n]:=by
 simp only [zbZ];rw [show Nat.blt n 10=true from Nat.ble_eq_true_of_le h];rfl
theorem znh {f n:Nat} (h:¬n<10) (hf:n≤f):zbZ (f+1) n []=zbZ f (n/10) []++[48+n%10]:=by
 rw [←zm9 f (n/10) _ (by omega)];simp only [zbZ];rw [show Nat.blt n 10=false from zCm (by omega)];rfl
theorem zu4:∀(n f:Nat),n<f→zbZ f n []=zm n:=by
 intro n
 induction n using Nat.strongRecOn with
 | _ n ih=>
  intro f hf;obtain ⟨g,rfl⟩:∃g,f=g+1:=⟨f-1,by omega⟩;by_cases h:n<10
  ·rw [ziK h];unfold zm;rw [ziK h]
  ·rw [znh h (by omega),ih (n/10) (by omega) g (by omega)];unfold zm;rw [znh h (Nat.le_refl n),ih (n/10) (by omega) n (by omega)];rfl
theorem zaZ {n:Nat} (h:n<10):zm n=[48+n]:=ziK h
theorem zbQ {n:Nat} (h:¬n<10):zm n=zm (n/10)++[48+n%10]:=by
 rw [show zm n=zbZ (n+1) n [] from rfl,znh h (Nat.le_refl n),zu4 (n/10) n (by omega)]
theorem zct:∀{k n:Nat},n<10^(k+1)→(zm n).length≤k+1
 | 0,n,h=>by rw [zaZ (by simpa using h)];simp
 | k+1,n,h=>by
  by_cases h1:n<10
  ·rw [zaZ h1];simp
  ·rw [zbQ h1,List.length_append]
   have:n/10<10^(k+1):=by
    rw [Nat.pow_succ] at h;omega
   have:=zct this
   simp only [List.length_cons,List.length_nil];omega
theorem zfy {n:Nat} (h:n<18446744073709551616):(zm n).length≤20:=zct (k:=19) (by omega)
theorem za5 (n:Nat):zS (n:Int)=zm n:=rfl
theorem zaV {n:Int} (h:n<0):zS n=45::zm n.natAbs:=by
 cases n with
 | ofNat n=>exact absurd h (by simp)
 | negSucc n=>rfl
def zP:List Nat→Nat
 | []=>0
 | b::r=>if b=47 then 0 else zP r+1
theorem zo5 {s:List Nat} {i:Nat} (h:i<s.length):zP (s.drop i)=if s[i]=47 then 0 else zP (s.drop (i+1))+1:=by
 rw [List.drop_eq_getElem_cons h];rfl
theorem zea:∀s:List Nat,zP s≤s.length
 | []=>Nat.le_refl _
 | b::r=>by
  unfold zP
  have:=zea r
  split<;>simp<;>omega
def zbp:List Nat→Bool
 | []=>true
 | b::r=>Nat.ble 48 b&&Nat.ble b 57&&zbp r
theorem zeG:∀(a b:List Nat),zbp (a++b)=(zbp a&&zbp b)
 | [],b=>by simp [zbp]
 | x::a,b=>by simp [zbp,zeG a b,Bool.and_assoc]
theorem zci (n:Nat):zbp (zm n)=true:=by
 induction n using Nat.strongRecOn with
 | _ n ih=>
  by_cases h:n<10
  ·rw [zaZ h];simp [zbp];omega
  ·rw [zbQ h,zeG,ih (n/10) (by omega)];simp [zbp];omega
theorem zdL:∀{s:List Nat} (r:List Nat),zbp s=true→zP (s++r)=s.length+zP r
 | [],r,_=>by simp
 | b::s,r,h=>by
  simp only [zbp,Bool.and_eq_true] at h;have h1:=Nat.le_of_ble_eq_true h.1.1;simp only [List.cons_append,zP,List.length_cons];rw [if_neg (by omega),zdL r h.2];omega
theorem zeK:∀(l:List Nat) (a d:Nat),d<10→za7 (l++[48+d]) a=(za7 l a).map (fun v=>10*v+d)
 | [],a,d,h=>by
  simp only [List.nil_append,za7];rw [show Nat.ble 48 (48+d)=true from Nat.ble_eq_true_of_le (by omega),show Nat.ble (48+d) 57=true from Nat.ble_eq_true_of_le (by omega)]
  simp
 | b::l,a,d,h=>by
  simp only [List.cons_append,za7]
  cases (Nat.ble 48 b&&Nat.ble b 57) with
  | true=>exact zeK l _ d h
  | false=>rfl
theorem zbX (n:Nat):za7 (zm n) 0=some n:=by
 induction n using Nat.strongRecOn with
 | _ n ih=>
  by_cases h:n<10
  ·rw [zaZ h]
   have:=zeK [] 0 n h
   simpa [za7] using this
  ·rw [zbQ h,zeK _ _ _ (by omega),ih (n/10) (by omega)]
   simp;omega
theorem zsg {s:List Nat} {i a v:Nat} (h:i<s.length) (hv:za7 (s.drop i) a=some v):48≤s[i]∧s[i]≤57∧za7 (s.drop (i+1)) (10*a+(s[i]-48))=some v:=by
 rw [List.drop_eq_getElem_cons h] at hv;simp only [za7] at hv
 cases hb:(Nat.ble 48 s[i]&&Nat.ble s[i] 57) with
 | false=>rw [hb] at hv;cases hv
 | true=>
  rw [hb] at hv;simp only [Bool.and_eq_true] at hb;exact ⟨Nat.le_of_ble_eq_true hb.1,Nat.le_of_ble_eq_true hb.2,hv⟩
def zey:Nat→Nat→List Nat
 | 0,_=>[]
 | k+1,n=>zey k (n/10)++[48+n%10]
theorem zkH:∀k n,(zey k n).length=k
 | 0,_=>rfl
 | k+1,n=>by simp [zey,zkH k]
theorem zh3:∀(k m r:Nat),0<m→r<10^k→zm (m*10^k+r)=zm m++zey k r
 | 0,m,r,_,h=>by simp at h;subst h;simp [zey]
 | k+1,m,r,hm,h=>by
  have h1:m*10^(k+1)+r=(m*10^k)*10+r:=by rw [Nat.pow_succ,Nat.mul_assoc]
  have hp:0<m*10^k:=Nat.mul_pos hm (Nat.pow_pos (by decide));have e1:(m*10^(k+1)+r)/10=m*10^k+r/10:=by omega
  have e2:(m*10^(k+1)+r)%10=r%10:=by omega
  rw [zbQ (by omega),e1,e2,zh3 k m (r/10) hm (by rw [Nat.pow_succ] at h;omega)];simp [zey]
theorem zn2:∀(k r a:Nat),r<10^k→za7 (zey k r) a=some (a*10^k+r)
 | 0,r,a,h=>by simp at h;subst h;simp [zey,za7]
 | k+1,r,a,h=>by
  rw [Nat.pow_succ] at h;rw [zey,zeK _ _ _ (Nat.mod_lt _ (by decide)),zn2 k (r/10) a (by omega)];simp only [Option.map_some,Option.some.injEq,Nat.pow_succ];rw [Nat.mul_add,←Nat.mul_assoc,Nat.mul_comm 10 a,Nat.mul_assoc,Nat.mul_comm 10 (10^k)];omega
theorem zuT {m:Nat} (h:1000000000≤m):zm m=zm (m/1000000000)++zey 9 (m%1000000000):=by
 have:=zh3 9 (m/1000000000) (m%1000000000) (by omega) (by omega)
 rw [←this]
 congr 1
 omega
end VE
end
section
namespace VE
open Go (IntKind)
def zeu (s:List Nat) (l h:Option Nat):Option AV:=
 match l,h with
 | some l,some h=>bif Nat.ble l h&&Nat.ble h s.length then some (.str ((s.take h).drop l)) else none
 | _,_=>none
theorem zaj (hp:Hp) (s:List Nat) (tm:Env) (lo hi:Option X):zbt hp .str (.str s) tm lo hi=zeu s (zat tm 0 lo) (zat tm s.length hi):=by
 unfold zeu;simp only [zbt];cases zat tm 0 lo<;>cases zat tm s.length hi<;>rfl
theorem zaq (tm:Env) (d:Nat):zat tm d none=some d:=rfl
theorem zaa (tm:Env) (d:Nat) (x:X):zat tm d (some x)=zaL (zy tm x):=rfl
theorem zbs {s:List Nat} {l h:Nat} (h1:l≤h) (h2:h≤s.length):zeu s (some l) (some h)=some (.str ((s.take h).drop l)):=by
 simp [zeu,Nat.ble_eq_true_of_le h1,Nat.ble_eq_true_of_le h2]
theorem zaF {a b:List Nat} (h:a.length+b.length≤9223372036854775807):binOp .add (.str a) (.str b)=some (.str (a++b)):=by
 show zoA .add a b=_
 simp only [zoA,Nat.ble_eq_true_of_le h,cond_true]
theorem zq9 (k:IntKind) (n:Int):zjx (.toInt .i64) (.int k n)=some (zh (IntKind.wrap .i64 n)):=rfl
theorem zbq (a b:List Nat):binOp .eql (.str a) (.str b)=some (.bool (eqL a b)):=rfl
theorem zcW {s:List Nat} {i:Nat} (h:i<s.length):zeB i (.str s)=some (.int .u8 (s[i]:Nat)):=by
 simp only [zeB,List.getElem?_eq_getElem h]
theorem zkt {r:Nat} (h:r<10):zeu [48,49,50,51,52,53,54,55,56,57] (some r) (some (r+1))=some (.str [48+r]):=by
 rw [zbs (by omega) (by simp;omega)]
 have:r=0∨r=1∨r=2∨r=3∨r=4∨r=5∨r=6∨r=7∨r=8∨r=9:=by omega
 rcases this with rfl | rfl | rfl | rfl | rfl | rfl | rfl | rfl | rfl | rfl<;>rfl
section
variable {P:zQ} {L:Lib}
theorem zEO (h:Has P L 292 zmT) {n:Nat} (hn:n<9223372036854775808):zx P L 292 [zh n,zh 1] (.str (zm n)):=by
 have key:=zL (P:=P) (L:=L) (live:=[0,1,5]) (a:=zdj)
  (I:=fun k st=>∃(m:Nat) (s:List Nat),st=⟨[(0,zh m),(1,zh 1),(5,.str s)],[],0,0⟩∧m≤n∧m+(1-s.length)=k∧s.length≤20∧((s=[]∧m=n)∨(0<s.length∧(m=0→s=zm n)∧(0<m→zm n=zm m++s))))
  (Q:=fun ex st=>∃tm ct,st=⟨tm,[],ct,0⟩∧ex= .exit 0∧zc tm 5= .str (zm n)) ?_
 ·unfold zx;rw [zd h];simp only [go_sem,zmT];generalize hq:D P L (.loop [0,1,5] zdj) _=q;obtain ⟨ex,st,rfl,tm,ct,rfl,rfl,h2⟩:=zY hq (key (n+1)) ⟨n,[],by simp only [go_sem,reduceEqDiff,za]<;>rfl,by omega,rfl,by simp,.inl ⟨rfl,rfl⟩⟩
  simp only [go_sem,za,h2]
 ·rintro k st ⟨m,s,rfl,hm,hk,hl,hs⟩;by_cases hgo:0<m∨s.length<1
  ·left
   have hc:((decide ((0:Int)<m))=true)∨((decide ((0:Int)<m))=false∧((s.length:Nat):Int)<1):=by
    by_cases h0:0<m
    ·exact .inl (decide_eq_true (by omega))
    ·exact .inr ⟨decide_eq_false (by omega),by omega⟩
   have hr:((m:Int)).tmod 10=((m%10:Nat):Int):=by rw [Int.tmod_eq_emod_of_nonneg (by omega)];rfl
   have hq:((m:Int)).tdiv 10=((m/10:Nat):Int):=by rw [Int.tdiv_eq_ediv_of_nonneg (by omega)];rfl
   have hd:=zkt (r:=m%10) (by omega);have fin:∃s' k',D P L zdj ⟨[(0,zh m),(1,zh 1),(5,.str s)],[],0,0⟩=some (.normal,s')∧k'<k∧zE [0,1,5] s'=⟨[(0,zh (m/10:Nat)),(1,zh 1),(5,.str ([48+m%10]++s))],[],0,0⟩∧m/10+(1-([48+m%10]++s).length)=k':=by
    rcases hc with hc | ⟨hc,hc2⟩
    ·have hc:(0:Int)<m:=of_decide_eq_true hc
     simp only [go_sem,reduceEqDiff,reduceAdd,zdj,hc,zaw _ _ _ (show (10:Int)≠0 by decide),zaC _ _ _ (show (10:Int)≠0 by decide),hr,hq,zF (n:=m%10+1) (by omega),zf (n:=((m/10:Nat):Int)) (by omega) (by omega),zaj,zaa,show ((m%10:Nat):Int)+1=((m%10+1:Nat):Int) from rfl,hd,zaF (a:=[48+m%10]) (b:=s) (by simp;omega)];refine ⟨_,_,rfl,?_,by simp only [go_sem,reduceEqDiff,za],rfl⟩
     simp;omega
    ·have hc:¬(0:Int)<m:=of_decide_eq_false hc
     simp only [go_sem,reduceEqDiff,reduceAdd,zdj,hc,hc2,zaw _ _ _ (show (10:Int)≠0 by decide),zaC _ _ _ (show (10:Int)≠0 by decide),hr,hq,zF (n:=m%10+1) (by omega),zf (n:=((m/10:Nat):Int)) (by omega) (by omega),zaj,zaa,show ((m%10:Nat):Int)+1=((m%10+1:Nat):Int) from rfl,hd,zaF (a:=[48+m%10]) (b:=s) (by simp;omega)];refine ⟨_,_,rfl,?_,by simp only [go_sem,reduceEqDiff,za],rfl⟩
     simp;omega
   obtain ⟨s',k',f1,f2,f3,f4⟩:=fin;refine ⟨s',k',f1,f2,m/10,[48+m%10]++s,f3,by omega,f4,?_,.inr ⟨by simp,fun h0=>?_,fun h0=>?_⟩⟩
   ·have hn20:=zfy (n:=n) (by omega);rcases hs with ⟨rfl,rfl⟩ | ⟨h1,h2,h3⟩
    ·simp
    ·by_cases h0:0<m
     ·have e:=congrArg List.length (h3 h0);have e2:0<(zm m).length:=by
       by_cases h9:m<10
       ·rw [zaZ h9];simp
       ·rw [zbQ h9];simp
      simp only [List.length_append] at e
      simp;omega
     ·omega
   ·have h9:m<10:=by omega
    rcases hs with ⟨rfl,rfl⟩ | ⟨h1,h2,h3⟩
    ·rw [zaZ h9,Nat.mod_eq_of_lt h9];rfl
    ·have:0<m:=by omega
     rw [h3 this,zaZ h9,Nat.mod_eq_of_lt h9]
   ·have h9:¬m<10:=by omega
    rcases hs with ⟨rfl,rfl⟩ | ⟨h1,h2,h3⟩
    ·rw [zbQ h9];simp
    ·rw [h3 (by omega),zbQ h9];simp
  ·right
   simp only [go_sem,reduceEqDiff,zdj,show ¬(0:Int)<m by omega,show ¬((s.length:Nat):Int)<1 by omega];refine ⟨_,_,rfl,by simp,_,_,rfl,rfl,?_⟩;simp only [go_sem,reduceEqDiff];rcases hs with ⟨rfl,rfl⟩ | ⟨h1,h2,h3⟩
   ·simp at hgo
   ·rw [h2 (by omega)]
theorem zJr (h:Has P L 291 zxi) {a b:Nat} (ha:a<9223372036854775808) (hb:b<9223372036854775808):zx P L 291 [zh a,zh b] (zh (Nat.gcd a b)):=by
 have key:=zL (P:=P) (L:=L) (live:=[0,1]) (a:=zk0)
  (I:=fun k st=>∃x y:Nat,st=⟨[(0,zh x),(1,zh y)],[],0,0⟩∧y=k∧Nat.gcd x y=Nat.gcd a b)
  (Q:=fun ex st=>∃tm ct,st=⟨tm,[],ct,0⟩∧ex= .exit 0∧zc tm 0=zh (Nat.gcd a b)) ?_
 ·unfold zx;rw [zd h];simp only [go_sem,zxi];generalize hq:D P L (.loop [0,1] zk0) _=q;obtain ⟨ex,st,rfl,tm,ct,rfl,rfl,h2⟩:=zY hq (key b) ⟨a,b,by simp only [go_sem,reduceEqDiff,za]<;>rfl,rfl,rfl⟩
  simp only [go_sem,za,h2]
 ·rintro k st ⟨x,y,rfl,rfl,hg⟩;by_cases hy:y=0
  ·right
   subst hy;simp only [go_sem,reduceEqDiff,zk0,show ¬(0:Int)<((0:Nat):Int) by omega];refine ⟨_,_,rfl,by simp,_,_,rfl,rfl,?_⟩;simp only [go_sem,reduceEqDiff];rw [←hg,Nat.gcd_zero_right]
  ·left
   have hr:((x:Int)).tmod y=((x%y:Nat):Int):=by rw [Int.tmod_eq_emod_of_nonneg (by omega)];rfl
   simp only [go_sem,reduceEqDiff,zk0,show (0:Int)<y by omega,zaw _ _ _ (show (y:Int)≠0 by omega),hr];refine ⟨_,x%y,rfl,Nat.mod_lt _ (by omega),y,x%y,by simp only [go_sem,reduceEqDiff,za],rfl,?_⟩;rw [←hg,Nat.gcd_comm y,←Nat.gcd_rec,Nat.gcd_comm]
end
end VE
end
section
namespace VE
open Go (IntKind)
section
variable {P:zQ} {L:Lib}
theorem zsQ (h:Has P L 272 zu9) {s:List Nat} (hl:s.length≤1000000000000):zx P L 272 [.str s] (zh (zP s)):=by
 have key:=zL (P:=P) (L:=L) (live:=[0,3]) (a:=zix)
  (I:=fun k st=>∃i:Nat,st=⟨[(0,.str s),(3,zh i)],[],0,0⟩∧i+k=s.length∧i+zP (s.drop i)=zP s)
  (Q:=fun ex st=>∃tm ct,st=⟨tm,[],ct,0⟩∧((ex= .ret∧zc tm 2=zh (zP s))∨(ex= .exit 0∧zc tm 0= .str s∧zP s=s.length))) ?_
 ·unfold zx;rw [zd h];simp only [go_sem,zu9];generalize hq:D P L (.loop [0,3] zix) _=q;obtain ⟨ex,st,rfl,tm,ct,rfl,h2⟩:=zY hq (key s.length) ⟨0,by simp only [go_sem,reduceEqDiff,za]<;>rfl,by omega,by simp⟩
  rcases h2 with ⟨rfl,h2⟩ | ⟨rfl,h2,h3⟩
  ·simp only [go_sem,h2]
  ·simp only [go_sem,za,h2,h3]
 ·rintro k st ⟨i,rfl,hk,hs⟩;by_cases hi:i<s.length
  ·rw [zo5 hi] at hs;by_cases h7:s[i]=47
   ·right
    rw [if_pos h7] at hs;simp only [go_sem,reduceEqDiff,zix,show (i:Int)<s.length by omega,zcW hi,show ((s[i]:Nat):Int)=47 by omega];refine ⟨_,_,rfl,by simp,_,_,rfl,.inl ⟨rfl,?_⟩⟩;simp only [go_sem];rw [←hs];rfl
   ·left
    rw [if_neg h7] at hs;simp only [go_sem,reduceEqDiff,zix,show (i:Int)<s.length by omega,zcW hi,show ¬((s[i]:Nat):Int)=47 by omega];refine ⟨_,k-1,rfl,by omega,i+1,?_,by omega,by omega⟩;rw [zf (by omega) (by omega)];simp only [go_sem,reduceEqDiff,za]<;>rfl
  ·right
   simp only [go_sem,reduceEqDiff,zix,show ¬(i:Int)<s.length by omega];refine ⟨_,_,rfl,by simp,_,_,rfl,.inr ⟨rfl,by simp only [go_sem,reduceEqDiff],?_⟩⟩;rw [List.drop_eq_nil_of_le (by omega)] at hs;simp only [zP] at hs;omega
theorem zt9 (h:Has P L 290 zsP) {s:List Nat} {v:Nat} (hl:s.length≤18) (hv:za7 s 0=some v):zx P L 290 [.str s] (zh v):=by
 have key:=zL (P:=P) (L:=L) (live:=[0,3,4]) (a:=zkA)
  (I:=fun k st=>∃i a:Nat,st=⟨[(0,.str s),(3,zh a),(4,zh i)],[],0,0⟩∧i+k=s.length∧a<10^i∧za7 (s.drop i) a=some v)
  (Q:=fun ex st=>∃tm ct,st=⟨tm,[],ct,0⟩∧ex= .exit 0∧zc tm 3=zh v) ?_
 ·unfold zx;rw [zd h];simp only [go_sem,zsP];generalize hq:D P L (.loop [0,3,4] zkA) _=q;obtain ⟨ex,st,rfl,tm,ct,rfl,rfl,h2⟩:=zY hq (key s.length) ⟨0,0,by simp only [go_sem,reduceEqDiff,za]<;>rfl,by omega,by simp,hv⟩
  simp only [go_sem,za,h2]
 ·rintro k st ⟨i,a,rfl,hk,ha,hs⟩;by_cases hi:i<s.length
  ·left
   obtain ⟨h1,h2,h3⟩:=zsg hi hs;have hp:10^i≤10^17:=Nat.pow_le_pow_right (by decide) (by omega);have hp':(10:Nat)^17=100000000000000000:=by decide
   have hb:IntKind.wrap .i64 ((s[i]:Nat):Int)=((s[i]:Nat):Int):=zf (by omega) (by omega)
   simp only [go_sem,reduceEqDiff,zkA,show (i:Int)<s.length by omega,zcW hi,zq9,hb,zf (n:=10*(a:Int)) (by omega) (by omega),zf (n:=10*(a:Int)+(s[i]:Nat)) (by omega) (by omega),zf (n:=10*(a:Int)+(s[i]:Nat)-48) (by omega) (by omega)];refine ⟨_,k-1,rfl,by omega,i+1,10*a+(s[i]-48),?_,by omega,?_,h3⟩
   ·rw [zf (by omega) (by omega),show 10*(a:Int)+(s[i]:Nat)-48=((10*a+(s[i]-48):Nat):Int) by omega];simp only [go_sem,reduceEqDiff,za]<;>rfl
   ·rw [Nat.pow_succ];omega
  ·right
   simp only [go_sem,reduceEqDiff,zkA,show ¬(i:Int)<s.length by omega];refine ⟨_,_,rfl,by simp,_,_,rfl,rfl,?_⟩;rw [List.drop_eq_nil_of_le (by omega)] at hs;simp only [za7,Option.some.injEq] at hs;subst hs;simp only [go_sem,reduceEqDiff]
theorem zjW (a:Int):(if 0-a>a then 0-a else a)=(a.natAbs:Int):=by split<;>omega
theorem zho (a b:Int):a.tdiv (Int.gcd a b:Nat)=zbw a b:=Int.tdiv_eq_ediv_of_dvd (Int.gcd_dvd_left a b)
theorem zhq (a b:Int):b.tdiv (Int.gcd a b:Nat)=zby a b:=Int.tdiv_eq_ediv_of_dvd (Int.gcd_dvd_right a b)
theorem za9 (n:Int):(if n<0 then [45] else [])++zm n.natAbs=zS n:=by
 split
 ·rename_i h;rw [zaV h];rfl
 ·rename_i h;obtain ⟨m,rfl⟩:∃m:Nat,n=m:=⟨n.toNat,by omega⟩;rfl
theorem zwH {n:Int} (h:n.natAbs<18446744073709551616):(zS n).length≤21:=by
 rw [←za9]
 have:=zfy h
 split<;>simp<;>omega
theorem zAi {a b:Int} (hb:0<b):zjt a b=(if 1<zby a b then (zS (zbw a b)++[47])++zm (zby a b).natAbs else zS (zbw a b)):=by
 have h:=zfX (a:=a) hb;unfold zjt;by_cases h1:zby a b=1
 ·rw [if_pos h1,if_neg (by omega)]
 ·rw [if_neg h1,if_pos (by omega)];obtain ⟨m,hm⟩:∃m:Nat,zby a b=m:=⟨(zby a b).toNat,by omega⟩;rw [hm];rfl
theorem zJF (h:Has P L 277 zoB) (h291:Has P L 291 zxi) (h292:Has P L 292 zmT) {a b:Int} (ha: -4000000000000000000≤a∧a≤4000000000000000000) (hb:0<b∧b≤4000000000000000000):
  zx P L 277 [zh a,zh b] (.str (zjt a b)):=by
 have hn:=zn5 a b;have hd:=zoV a b;have hp:=zfX (a:=a) hb.1;have e1:=zJr h291 (a:=a.natAbs) (b:=b.natAbs) (by omega) (by omega);have e2:=zEO h292 (n:=(zbw a b).natAbs) (by omega);have e3:=zEO h292 (n:=(zby a b).natAbs) (by omega);have hg:=zhR (a:=a) hb.1;rw [show ((b.natAbs:Nat):Int)=b by omega,show Nat.gcd a.natAbs b.natAbs=Int.gcd a b from rfl] at e1;rw [show (((zby a b).natAbs:Nat):Int)=zby a b by omega] at e3;have hl1:=zwH (n:=zbw a b) (by omega);have hl2:=zfy (n:=(zbw a b).natAbs) (by omega);have hl3:=zfy (n:=(zby a b).natAbs) (by omega);have hT:=zAi (a:=a) hb.1;have hS:=za9 (zbw a b);unfold zx at e1 e2 e3 ⊢;rw [zd h];by_cases h0:zbw a b<0
 ·rw [if_pos h0] at hS;by_cases h1:1<zby a b
  ·rw [if_pos h1] at hT
   simp only [go_sem,reduceEqDiff,zoB,show ¬a< -4000000000000000000 by omega,show ¬4000000000000000000<a by omega,show ¬b< -4000000000000000000 by omega,show ¬4000000000000000000<b by omega,show ¬b<0 by omega,zf (n:=0-a) (by omega) (by omega),zij,ze3,zjW,e1,zaC _ _ _ (show ((Int.gcd a b:Nat):Int)≠0 by omega),zho,zhq,zf (n:=zbw a b) (by omega) (by omega),zf (n:=zby a b) (by omega) (by omega),h0,zf (n:=0-zbw a b) (by omega) (by omega),e2,zaF (a:=[45]) (b:=zm (zbw a b).natAbs) (by simp;omega),hS,h1,zaF (a:=zS (zbw a b)) (b:=[47]) (by simp;omega),e3,zaF (a:=zS (zbw a b)++[47]) (b:=zm (zby a b).natAbs) (by simp;omega),hT]
  ·rw [if_neg h1] at hT
   simp only [go_sem,reduceEqDiff,zoB,show ¬a< -4000000000000000000 by omega,show ¬4000000000000000000<a by omega,show ¬b< -4000000000000000000 by omega,show ¬4000000000000000000<b by omega,show ¬b<0 by omega,zf (n:=0-a) (by omega) (by omega),zij,ze3,zjW,e1,zaC _ _ _ (show ((Int.gcd a b:Nat):Int)≠0 by omega),zho,zhq,zf (n:=zbw a b) (by omega) (by omega),zf (n:=zby a b) (by omega) (by omega),h0,zf (n:=0-zbw a b) (by omega) (by omega),e2,zaF (a:=[45]) (b:=zm (zbw a b).natAbs) (by simp;omega),hS,h1,hT]
 ·rw [if_neg h0] at hS;by_cases h1:1<zby a b
  ·rw [if_pos h1] at hT
   simp only [go_sem,reduceEqDiff,zoB,show ¬a< -4000000000000000000 by omega,show ¬4000000000000000000<a by omega,show ¬b< -4000000000000000000 by omega,show ¬4000000000000000000<b by omega,show ¬b<0 by omega,zf (n:=0-a) (by omega) (by omega),zij,ze3,zjW,e1,zaC _ _ _ (show ((Int.gcd a b:Nat):Int)≠0 by omega),zho,zhq,zf (n:=zbw a b) (by omega) (by omega),zf (n:=zby a b) (by omega) (by omega),h0,zf (n:=0-zbw a b) (by omega) (by omega),e2,zaF (a:=[]) (b:=zm (zbw a b).natAbs) (by simp;omega),hS,h1,zaF (a:=zS (zbw a b)) (b:=[47]) (by simp;omega),e3,zaF (a:=zS (zbw a b)++[47]) (b:=zm (zby a b).natAbs) (by simp;omega),hT]
  ·rw [if_neg h1] at hT
   simp only [go_sem,reduceEqDiff,zoB,show ¬a< -4000000000000000000 by omega,show ¬4000000000000000000<a by omega,show ¬b< -4000000000000000000 by omega,show ¬4000000000000000000<b by omega,show ¬b<0 by omega,zf (n:=0-a) (by omega) (by omega),zij,ze3,zjW,e1,zaC _ _ _ (show ((Int.gcd a b:Nat):Int)≠0 by omega),zho,zhq,zf (n:=zbw a b) (by omega) (by omega),zf (n:=zby a b) (by omega) (by omega),h0,zf (n:=0-zbw a b) (by omega) (by omega),e2,zaF (a:=[]) (b:=zm (zbw a b).natAbs) (by simp;omega),hS,h1,hT]
end
end VE
end
section
namespace VE
open Go (IntKind)
def TT (n:Int) (d:Nat):List Nat:=zS n++(if d=1 then [] else 47::zm d)
theorem zzz {a b:Int} (hb:0<b):zjt a b=TT (zbw a b) (zby a b).toNat:=by
 have h:=zfX (a:=a) hb;unfold zjt TT;by_cases h1:zby a b=1
 ·rw [if_pos h1,if_pos (by omega),List.append_nil]
 ·rw [if_neg h1,if_neg (by omega)];obtain ⟨m,hm⟩:∃m:Nat,zby a b=m:=⟨(zby a b).toNat,by omega⟩;rw [hm,List.append_assoc];rfl
theorem zbr (n:Nat):0<(zm n).length:=by
 by_cases h:n<10
 ·rw [zaZ h];simp
 ·rw [zbQ h];simp
theorem zhF:∀(n:Nat),n<10^(zm n).length:=by
 intro n
 induction n using Nat.strongRecOn with
 | _ n ih=>
  by_cases h:n<10
  ·rw [zaZ h];simpa using h
  ·have:=ih (n/10) (by omega)
   rw [zbQ h,List.length_append,List.length_singleton,Nat.pow_succ];omega
theorem zph {n:Nat} (h:(zm n).length≤9):n<1000000000:=
 Nat.lt_of_lt_of_le (zhF n) (by simpa using Nat.pow_le_pow_right (show 0<10 by decide) h)
theorem zee (n:Nat):∃b r,zm n=b::r∧48≤b∧b≤57:=by
 cases hq:zm n with
 | nil=>have:=zbr n;rw [hq] at this;simp at this
 | cons b r=>
  have:=zci n
  rw [hq] at this;simp only [zbp,Bool.and_eq_true] at this;exact ⟨b,r,rfl,Nat.le_of_ble_eq_true this.1.1,Nat.le_of_ble_eq_true this.1.2⟩
section
variable {P:zQ} {L:Lib}
theorem zpF (s:List Nat):zeB 0 (.str (45::s))=some (.int .u8 45):=rfl
def zpV (q:Bool) (n:Int) (d:Nat):AV:=if q=true then .tup [zh n,zh d,.bool true] else .tup [zh 0,zh 0,.bool false]
def zcv (d:Nat):List Nat:=if d=1 then [] else 47::zm d
theorem zg7 (d:Nat):zP (zcv d)=0:=by unfold zcv;split<;>rfl
theorem zI8 (h:Has P L 276 zjr) (h272:Has P L 272 zu9) (h290:Has P L 290 zsP) {n:Int} {d:Nat} (hl:(TT n d).length≤20000000000):
  ∃q:Bool,zx P L 276 [.str (TT n d)] (zpV q n d)∧(q=true→n.natAbs<1000000000∧d<1000000000):=by
 generalize hs:TT n d=s at hl;by_cases h20:20<s.length
 ·refine ⟨false,?_,fun h=>by cases h⟩;unfold zx;rw [zd h];simp only [go_sem,reduceEqDiff,zjr,show (20:Int)<s.length by omega];rfl
 ·have hu:∃u,u=zm n.natAbs++zcv d:=⟨_,rfl⟩;obtain ⟨u,hu⟩:=hu;have hK:∃K,K=(zm n.natAbs).length:=⟨_,rfl⟩;obtain ⟨K,hK⟩:=hK;have hsl:zP u=K:=by rw [hu,zdL _ (zci _),zg7,hK];rfl
  have hlen:u.length=K+(zcv d).length:=by rw [hu,hK,List.length_append]
  have hp:=zbr n.natAbs;obtain ⟨b,r,hb,hb1,hb2⟩:=zee n.natAbs;have hsu:(n<0∧s=45::u)∨(¬n<0∧s=u):=by
   by_cases h0:n<0
   ·left;refine ⟨h0,?_⟩;rw [←hs,hu,TT,zaV h0];rfl
   ·right;refine ⟨h0,?_⟩;rw [←hs,hu,TT,←za9,if_neg h0];rfl
  have hul:u.length≤s.length:=by rcases hsu with ⟨_,e⟩ | ⟨_,e⟩<;>rw [e]<;>simp
  have hu0:0<u.length:=by omega
  have hu1:u[0]=b:=by
   have:u=b::(r++zcv d):=by rw [hu,hb];rfl
   simp [this]
  have e1:=zsQ h272 (s:=u) (by omega);rw [hsl] at e1;have hc1:zeu u (some 0) (some K)=some (.str (zm n.natAbs)):=by
   rw [zbs (by omega) (by omega),List.drop_zero,hu,hK,List.take_left]
  unfold zx at e1;by_cases h9:9<K
  ·refine ⟨false,?_,fun h=>by cases h⟩;unfold zx;rw [zd h];rcases hsu with ⟨h0,e⟩ | ⟨h0,e⟩
   ·have h20:¬20<u.length+1:=by rw [e] at h20;exact h20
    have hc0:zeu (45::u) (some 1) (some (u.length+1))=some (.str u):=by rw [zbs (s:=45::u) (l:=1) (h:=u.length+1) (by omega) (by simp)];simp
    rw [e];simp only [go_sem,reduceEqDiff,zjr,show ¬(20:Int)<((u.length+1:Nat):Int) by omega,show (0:Int)<((u.length+1:Nat):Int) by omega,zpF,zaj,zaq,zaa,hc0,e1,show (9:Int)<(K:Int) by omega];rfl
   ·rw [e];simp only [go_sem,reduceEqDiff,zjr,show ¬(20:Int)<(u.length:Nat) by omega,show (0:Int)<(u.length:Nat) by omega,zcW hu0,hu1,show ¬((b:Nat):Int)=45 by omega,e1,show (9:Int)<(K:Int) by omega];rfl
  ·by_cases h10:10<(zcv d).length
   ·refine ⟨false,?_,fun h=>by cases h⟩;unfold zx;rw [zd h];rcases hsu with ⟨h0,e⟩ | ⟨h0,e⟩
    ·have h20:¬20<u.length+1:=by rw [e] at h20;exact h20
     have hc0:zeu (45::u) (some 1) (some (u.length+1))=some (.str u):=by rw [zbs (s:=45::u) (l:=1) (h:=u.length+1) (by omega) (by simp)];simp
     rw [e]
     simp only [go_sem,reduceEqDiff,zjr,show ¬(20:Int)<((u.length+1:Nat):Int) by omega,show (0:Int)<((u.length+1:Nat):Int) by omega,zpF,zaj,zaq,zaa,hc0,e1,show ¬(9:Int)<(K:Int) by omega,zf (n:=(u.length:Int)-(K:Int)) (by omega) (by omega),show (10:Int)<(u.length:Int)-(K:Int) by omega];rfl
    ·rw [e]
     simp only [go_sem,reduceEqDiff,zjr,show ¬(20:Int)<(u.length:Nat) by omega,show (0:Int)<(u.length:Nat) by omega,zcW hu0,hu1,show ¬((b:Nat):Int)=45 by omega,e1,show ¬(9:Int)<(K:Int) by omega,zf (n:=(u.length:Int)-(K:Int)) (by omega) (by omega),show (10:Int)<(u.length:Int)-(K:Int) by omega];rfl
   ·have e2:=zt9 h290 (s:=zm n.natAbs) (by omega) (zbX n.natAbs);unfold zx at e2;have hm:=zph (n:=n.natAbs) (by omega);by_cases hd:d=1
    ·subst hd;have hr0:zcv 1=[]:=rfl;refine ⟨true,?_,fun _=>⟨hm,by decide⟩⟩;rw [hr0] at hlen;simp only [List.length_nil,Nat.add_zero] at hlen;unfold zx;rw [zd h];rcases hsu with ⟨h0,e⟩ | ⟨h0,e⟩
     ·have h20:¬20<u.length+1:=by rw [e] at h20;exact h20
      have hc0:zeu (45::u) (some 1) (some (u.length+1))=some (.str u):=by rw [zbs (s:=45::u) (l:=1) (h:=u.length+1) (by omega) (by simp)];simp
      rw [e]
      simp only [go_sem,reduceEqDiff,zjr,show ¬(20:Int)<((u.length+1:Nat):Int) by omega,show (0:Int)<((u.length+1:Nat):Int) by omega,zpF,zaj,zaq,zaa,hc0,e1,show ¬(9:Int)<(K:Int) by omega,zf (n:=(u.length:Int)-(K:Int)) (by omega) (by omega),show ¬(10:Int)<(u.length:Int)-(K:Int) by omega,hc1,e2,show ¬(K:Int)<(u.length:Int) by omega,zf (n:=0-(n.natAbs:Int)) (by omega) (by omega)];rw [show 0-(n.natAbs:Int)=n by omega];rfl
     ·rw [e]
      simp only [go_sem,reduceEqDiff,zjr,show ¬(20:Int)<(u.length:Nat) by omega,show (0:Int)<(u.length:Nat) by omega,zcW hu0,hu1,show ¬((b:Nat):Int)=45 by omega,zaj,zaq,zaa,e1,show ¬(9:Int)<(K:Int) by omega,zf (n:=(u.length:Int)-(K:Int)) (by omega) (by omega),show ¬(10:Int)<(u.length:Int)-(K:Int) by omega,hc1,e2,show ¬(K:Int)<(u.length:Int) by omega];rw [show (n.natAbs:Int)=n by omega];rfl
    ·have hr0:zcv d=47::zm d:=if_neg hd;have hlr:(zcv d).length=(zm d).length+1:=by rw [hr0];rfl
     have hpd:=zbr d;have hd9:=zph (n:=d) (by omega);have e3:=zt9 h290 (s:=zm d) (by omega) (zbX d);unfold zx at e3;have hc2:zeu u (some (K+1)) (some u.length)=some (.str (zm d)):=by
      rw [zbs (by omega) (Nat.le_refl _),List.take_length,hu,hr0,hK,show (zm n.natAbs).length+1=(zm n.natAbs++[47]).length by simp,show zm n.natAbs++47::zm d=(zm n.natAbs++[47])++zm d by simp,List.drop_left]
     refine ⟨true,?_,fun _=>⟨hm,hd9⟩⟩;unfold zx;rw [zd h];rcases hsu with ⟨h0,e⟩ | ⟨h0,e⟩
     ·have h20:¬20<u.length+1:=by rw [e] at h20;exact h20
      have hc0:zeu (45::u) (some 1) (some (u.length+1))=some (.str u):=by rw [zbs (s:=45::u) (l:=1) (h:=u.length+1) (by omega) (by simp)];simp
      rw [e]
      simp only [go_sem,reduceEqDiff,zjr,show ¬(20:Int)<((u.length+1:Nat):Int) by omega,show (0:Int)<((u.length+1:Nat):Int) by omega,zpF,zaj,zaq,zaa,hc0,e1,show ¬(9:Int)<(K:Int) by omega,zf (n:=(u.length:Int)-(K:Int)) (by omega) (by omega),show ¬(10:Int)<(u.length:Int)-(K:Int) by omega,hc1,e2,show (K:Int)<(u.length:Int) by omega,zF (n:=K+1) (by omega),show (K:Int)+1=((K+1:Nat):Int) from rfl,hc2,e3,zf (n:=0-(n.natAbs:Int)) (by omega) (by omega)];rw [show 0-(n.natAbs:Int)=n by omega];rfl
     ·rw [e]
      simp only [go_sem,reduceEqDiff,zjr,show ¬(20:Int)<(u.length:Nat) by omega,show (0:Int)<(u.length:Nat) by omega,zcW hu0,hu1,show ¬((b:Nat):Int)=45 by omega,zaj,zaq,zaa,e1,show ¬(9:Int)<(K:Int) by omega,zf (n:=(u.length:Int)-(K:Int)) (by omega) (by omega),show ¬(10:Int)<(u.length:Int)-(K:Int) by omega,hc1,e2,show (K:Int)<(u.length:Int) by omega,zF (n:=K+1) (by omega),show (K:Int)+1=((K+1:Nat):Int) from rfl,hc2,e3];rw [show (n.natAbs:Int)=n by omega];rfl
end
end VE
end
section
namespace VE
open Go (IntKind)
section
variable {P:zQ} {L:Lib}
theorem zCQ (h:Has P L 302 zlF) {v:AV} {l:List Int} (hv:IsI v l) (i:Nat):zx P L 302 [v,zh i] (zh (l.getD i 0)):=by
 unfold zx;rw [zd h];by_cases hi:i<l.length
 ·simp only [go_sem,reduceEqDiff,zlF,hv.len,show (i:Int)<l.length by omega,hv.ixa hi];simp [List.getD_eq_getElem?_getD,List.getElem?_eq_getElem hi]
 ·simp only [go_sem,reduceEqDiff,zlF,hv.len,show ¬(i:Int)<l.length by omega];simp [List.getD_eq_getElem?_getD,List.getElem?_eq_none (Nat.le_of_not_lt hi)]
theorem zq8 {hp:Hp} {e:Bool} {n:Nat} {cs:List AV} {tm:Env} {h:Nat} {x:X} (hx:zat tm n (some x)=some h) (hh:h≤n):
  zbt hp (.sl 1) (.vsl e n cs) tm none (some x)=some (.vsl (e&&Nat.beq h n) h (cs.take h)):=by
 simp only [zbt,hx,zaq];simp [Nat.ble_eq_true_of_le hh,slice];rw [show Nat.ble 0 h=true from Nat.ble_eq_true_of_le (Nat.zero_le _)];rfl
theorem zob (h:Has P L 300 zgv) {v:AV} {l:List Int} (hv:IsI v l) (hl:l.length≤20000000000):∃r,zx P L 300 [v] r∧IsI r (zaQ l)∧shut r=r:=by
 rcases hv with ⟨rfl,h0⟩ | ⟨e,rfl⟩
 ·have:l=[]:=by simpa using h0
  subst this;refine ⟨.nils,?_,zen,rfl⟩;unfold zx;rw [zd h];simp only [go_sem,reduceEqDiff,zgv,zna,zhe,za,show ¬(0:Int)<0 by decide]
 ·have key:=zL (P:=P) (L:=L) (live:=[0]) (a:=zhe)
   (I:=fun k st=>∃(i:Nat) (e:Bool),st=⟨[(0,.vsl e i ((l.take i).map zh))],[],0,0⟩∧i≤l.length∧i=k∧zaQ (l.take i)=zaQ l)
   (Q:=fun ex st=>∃tm ct,st=⟨tm,[],ct,0⟩∧ex= .exit 0∧∃i e,zc tm 0= .vsl e i ((l.take i).map zh)∧i≤l.length∧l.take i=zaQ l) ?_
  ·have hlen:(l.map zh).length=l.length:=by simp
   rw [hlen];have goal:∃i e',zx P L 300 [.vsl e l.length (l.map zh)] (.vsl e' i ((l.take i).map zh))∧i≤l.length∧l.take i=zaQ l:=by
    unfold zx;rw [zd h];simp only [go_sem,zgv];generalize hq:D P L (.loop [0] zhe) _=q;obtain ⟨ex,st,rfl,tm,ct,rfl,rfl,i,e',h2,h3,h4⟩:=zY hq (key l.length) ⟨l.length,e,by simp only [go_sem,reduceEqDiff,za,List.take_length],Nat.le_refl _,rfl,by rw [List.take_length]⟩;simp only [go_sem,za,h2];exact ⟨i,e',rfl,h3,h4⟩
   obtain ⟨i,e',g1,g2,g3⟩:=goal;refine ⟨_,g1,?_,rfl⟩;rw [←g3]
   have:=za8 e' (l.take i)
   rwa [List.length_take,Nat.min_eq_left g2] at this
  ·rintro k st ⟨i,e,rfl,hi,rfl,ht⟩
   cases i with
   | zero=>
    right
    simp only [go_sem,reduceEqDiff,zhe,show ¬(0:Int)<((0:Nat):Int) by omega];exact ⟨_,_,rfl,by simp,_,_,rfl,rfl,0,e,by simp only [go_sem,reduceEqDiff],Nat.zero_le _,by simpa [zaQ] using ht⟩
   | succ i=>
    have hi1:i<l.length:=by omega
    have htk:l.take (i+1)=l.take i++[l[i]]:=List.take_succ_eq_append_getElem hi1;have hdr:List.drop i ((l.take (i+1)).map zh)=[AV.int .i64 l[i]]:=by
     rw [htk,List.map_append,List.drop_left' (by simp;omega)];rfl
    have hix:zdG 1 i (.vsl e (i+1) ((l.take (i+1)).map zh))=some (.vptr [AV.int .i64 l[i]]):=by
     rw [zrT e _ (by omega),Nat.mul_one,hdr]
    by_cases h0:l[i]=0
    ·left
     have hcut:∀tm x,zat tm (i+1) (some x)=some i→zbt [] (.sl 1) (.vsl e (i+1) ((l.take (i+1)).map zh)) tm none (some x)=some (.vsl (e&&Nat.beq i (i+1)) i ((l.take i).map zh)):=fun tm x hx=>by
      rw [zq8 hx (by omega),←List.map_take,List.take_take,Nat.min_eq_left (by omega)]
     simp only [go_sem,reduceEqDiff,zhe,show (0:Int)<((i+1:Nat):Int) by omega,show ((i+1:Nat):Int)-1=(i:Int) by omega,zF (n:=i) (by omega),hix,h0,hcut,zaa];refine ⟨_,i,rfl,by omega,i,_,by simp only [go_sem,za]<;>rfl,by omega,rfl,?_⟩
     rw [←ht,htk,h0,zes]
    ·right
     simp only [go_sem,reduceEqDiff,zhe,show (0:Int)<((i+1:Nat):Int) by omega,show ((i+1:Nat):Int)-1=(i:Int) by omega,zF (n:=i) (by omega),hix,h0];refine ⟨_,_,rfl,by simp,_,_,rfl,rfl,i+1,e,by simp only [go_sem,reduceEqDiff],by omega,?_⟩;rw [←ht,htk,zfB h0]
end
end VE
end
