import Derived.Test.YtahpdocnbjccfaaGreatDoorTbb
import Derived.Test.YtahpdocnbjccfaaGreatDoorTat
import Derived.Test.YtahpdocnbjccfaaGreatDoorTay
set_option linter.all false
set_option maxRecDepth 100000
open Nat (reduceAdd reduceEqDiff)
section
namespace VE
theorem zCd {a b:Nat} (h:¬a<b):Nat.blt a b=false:=by
 cases hb:Nat.blt a b with
 | false=>rfl
 | true=>exact absurd (Nat.le_of_ble_eq_true hb) (by omega)
theorem znm:∀(f n:Nat) (acc:List Nat),n<f→zbX f n acc=zbX f n []++acc
 | 0,_,_,h=>by omega
 | f+1,n,acc,h=>by
  simp only [zbX]
  by_cases h1:n<10
  ·rw [show Nat.blt n 10=true from Nat.ble_eq_true_of_le h1];rfl
  ·rw [show Nat.blt n 10=false from zCd (by omega)]
   simp only [cond_false]
   rw [znm f (n/10) _ (by omega),znm f (n/10) [48+n%10] (by omega)]
   simp
theorem ziq {f n:Nat} (h:n<10):zbX (f+1) n []=[48+n]:=by
 simp only [zbX]
 rw [show Nat.blt n 10=true from Nat.ble_eq_true_of_le h];rfl
theorem zmW {f n:Nat} (h:¬n<10) (hf:n≤f):zbX (f+1) n []=zbX f (n/10) []++[48+n%10]:=by
 rw [←znm f (n/10) _ (by omega)]
 simp only [zbX]
 rw [show Nat.blt n 10=false from zCd (by omega)]
 rfl
theorem zuR:∀(n f:Nat),n<f→zbX f n []=zq n:=by
 intro n
 induction n using Nat.strongRecOn with
 | _ n ih=>
  intro f hf
  obtain ⟨g,rfl⟩:∃g,f=g+1:=⟨f-1,by omega⟩
  by_cases h:n<10
  ·rw [ziq h];unfold zq;rw [ziq h]
  ·rw [zmW h (by omega),ih (n/10) (by omega) g (by omega)]
   unfold zq
   rw [zmW h (Nat.le_refl n),ih (n/10) (by omega) n (by omega)]
   rfl
theorem zbc {n:Nat} (h:n<10):zq n=[48+n]:=ziq h
theorem zb6 {n:Nat} (h:¬n<10):zq n=zq (n/10)++[48+n%10]:=by
 rw [show zq n=zbX (n+1) n [] from rfl,zmW h (Nat.le_refl n),zuR (n/10) n (by omega)]
theorem zco:∀{k n:Nat},n<10^(k+1)→(zq n).length≤k+1
 | 0,n,h=>by rw [zbc (by simpa using h)];simp
 | k+1,n,h=>by
  by_cases h1:n<10
  ·rw [zbc h1];simp
  ·rw [zb6 h1,List.length_append]
   have:n/10<10^(k+1):=by
    rw [Nat.pow_succ] at h
    omega
   have:=zco this
   simp only [List.length_cons,List.length_nil]
   omega
theorem zfi {n:Nat} (h:n<18446744073709551616):(zq n).length≤20:=zco (k:=19) (by omega)
theorem zbg (n:Nat):zV (n:Int)=zq n:=rfl
theorem zbr {n:Int} (h:n<0):zV n=45::zq n.natAbs:=by
 cases n with
 | ofNat n=>exact absurd h (by simp)
 | negSucc n=>rfl
def zO:List Nat→Nat
 | []=>0
 | b::r=>if b=47 then 0 else zO r+1
theorem zn0 {s:List Nat} {i:Nat} (h:i<s.length):zO (s.drop i)=if s[i]=47 then 0 else zO (s.drop (i+1))+1:=by
 rw [List.drop_eq_getElem_cons h];rfl
theorem zd6:∀s:List Nat,zO s≤s.length
 | []=>Nat.le_refl _
 | b::r=>by
  unfold zO
  have:=zd6 r
  split<;>simp<;>omega
def zbo:List Nat→Bool
 | []=>true
 | b::r=>Nat.ble 48 b&&Nat.ble b 57&&zbo r
theorem zeC:∀(a b:List Nat),zbo (a++b)=(zbo a&&zbo b)
 | [],b=>by simp [zbo]
 | x::a,b=>by simp [zbo,zeC a b,Bool.and_assoc]
theorem zeT (n:Nat):zbo (zq n)=true:=by
 induction n using Nat.strongRecOn with
 | _ n ih=>
  by_cases h:n<10
  ·rw [zbc h];simp [zbo];omega
  ·rw [zb6 h,zeC,ih (n/10) (by omega)];simp [zbo];omega
theorem zeu:∀{s:List Nat} (r:List Nat),zbo s=true→zO (s++r)=s.length+zO r
 | [],r,_=>by simp
 | b::s,r,h=>by
  simp only [zbo,Bool.and_eq_true] at h
  have h1:=Nat.le_of_ble_eq_true h.1.1
  simp only [List.cons_append,zO,List.length_cons]
  rw [if_neg (by omega),zeu r h.2]
  omega
theorem zeA:∀(l:List Nat) (a d:Nat),d<10→za6 (l++[48+d]) a=(za6 l a).map (fun v=>10*v+d)
 | [],a,d,h=>by
  simp only [List.nil_append,za6]
  rw [show Nat.ble 48 (48+d)=true from Nat.ble_eq_true_of_le (by omega),show Nat.ble (48+d) 57=true from Nat.ble_eq_true_of_le (by omega)]
  simp
 | b::l,a,d,h=>by
  simp only [List.cons_append,za6]
  cases (Nat.ble 48 b&&Nat.ble b 57) with
  | true=>exact zeA l _ d h
  | false=>rfl
theorem zdm (n:Nat):za6 (zq n) 0=some n:=by
 induction n using Nat.strongRecOn with
 | _ n ih=>
  by_cases h:n<10
  ·rw [zbc h]
   have:=zeA [] 0 n h
   simpa [za6] using this
  ·rw [zb6 h,zeA _ _ _ (by omega),ih (n/10) (by omega)]
   simp;omega
theorem zsF {s:List Nat} {i a v:Nat} (h:i<s.length) (hv:za6 (s.drop i) a=some v):48≤s[i]∧s[i]≤57∧za6 (s.drop (i+1)) (10*a+(s[i]-48))=some v:=by
 rw [List.drop_eq_getElem_cons h] at hv
 simp only [za6] at hv
 cases hb:(Nat.ble 48 s[i]&&Nat.ble s[i] 57) with
 | false=>rw [hb] at hv;cases hv
 | true=>
  rw [hb] at hv
  simp only [Bool.and_eq_true] at hb
  exact ⟨Nat.le_of_ble_eq_true hb.1,Nat.le_of_ble_eq_true hb.2,hv⟩
def zep:Nat→Nat→List Nat
 | 0,_=>[]
 | k+1,n=>zep k (n/10)++[48+n%10]
theorem zkj:∀k n,(zep k n).length=k
 | 0,_=>rfl
 | k+1,n=>by simp [zep,zkj k]
theorem zhz:∀(k m r:Nat),0<m→r<10^k→zq (m*10^k+r)=zq m++zep k r
 | 0,m,r,_,h=>by simp at h;subst h;simp [zep]
 | k+1,m,r,hm,h=>by
  have h1:m*10^(k+1)+r=(m*10^k)*10+r:=by rw [Nat.pow_succ,Nat.mul_assoc]
  have hp:0<m*10^k:=Nat.mul_pos hm (Nat.pow_pos (by decide))
  have e1:(m*10^(k+1)+r)/10=m*10^k+r/10:=by omega
  have e2:(m*10^(k+1)+r)%10=r%10:=by omega
  rw [zb6 (by omega),e1,e2,zhz k m (r/10) hm (by rw [Nat.pow_succ] at h;omega)]
  simp [zep]
theorem znT:∀(k r a:Nat),r<10^k→za6 (zep k r) a=some (a*10^k+r)
 | 0,r,a,h=>by simp at h;subst h;simp [zep,za6]
 | k+1,r,a,h=>by
  rw [Nat.pow_succ] at h
  rw [zep,zeA _ _ _ (Nat.mod_lt _ (by decide)),znT k (r/10) a (by omega)]
  simp only [Option.map_some,Option.some.injEq,Nat.pow_succ]
  rw [Nat.mul_add,←Nat.mul_assoc,Nat.mul_comm 10 a,Nat.mul_assoc,Nat.mul_comm 10 (10^k)]
  omega
theorem zuQ {m:Nat} (h:1000000000≤m):zq m=zq (m/1000000000)++zep 9 (m%1000000000):=by
 have:=zhz 9 (m/1000000000) (m%1000000000) (by omega) (by omega)
 rw [←this]
 congr 1
 omega
end VE
end
section
namespace VE
open Go (IntKind)
def zeb (s:List Nat) (l h:Option Nat):Option AV:=
 match l,h with
 | some l,some h=>bif Nat.ble l h&&Nat.ble h s.length then some (.str ((s.take h).drop l)) else none
 | _,_=>none
theorem zaj (hp:Hp) (s:List Nat) (tm:Env) (lo hi:Option X):zbq hp .str (.str s) tm lo hi=zeb s (zat tm 0 lo) (zat tm s.length hi):=by
 unfold zeb
 simp only [zbq]
 cases zat tm 0 lo<;>cases zat tm s.length hi<;>rfl
theorem zaq (tm:Env) (d:Nat):zat tm d none=some d:=rfl
theorem zaa (tm:Env) (d:Nat) (x:X):zat tm d (some x)=zaO (zy tm x):=rfl
theorem zbs {s:List Nat} {l h:Nat} (h1:l≤h) (h2:h≤s.length):zeb s (some l) (some h)=some (.str ((s.take h).drop l)):=by
 simp [zeb,Nat.ble_eq_true_of_le h1,Nat.ble_eq_true_of_le h2]
theorem zaH {a b:List Nat} (h:a.length+b.length≤9223372036854775807):binOp .add (.str a) (.str b)=some (.str (a++b)):=by
 show zoh .add a b=_
 simp only [zoh,Nat.ble_eq_true_of_le h,cond_true]
theorem zzp (k:IntKind) (n:Int):zji (.toInt .i64) (.int k n)=some (zf (IntKind.wrap .i64 n)):=rfl
theorem zaS (a b:List Nat):binOp .eql (.str a) (.str b)=some (.bool (eqL a b)):=rfl
theorem zcN {s:List Nat} {i:Nat} (h:i<s.length):zeD i (.str s)=some (.int .u8 (s[i]:Nat)):=by
 simp only [zeD,List.getElem?_eq_getElem h]
theorem zjN {r:Nat} (h:r<10):zeb [48,49,50,51,52,53,54,55,56,57] (some r) (some (r+1))=some (.str [48+r]):=by
 rw [zbs (by omega) (by simp;omega)]
 have:r=0∨r=1∨r=2∨r=3∨r=4∨r=5∨r=6∨r=7∨r=8∨r=9:=by omega
 rcases this with rfl | rfl | rfl | rfl | rfl | rfl | rfl | rfl | rfl | rfl<;>rfl
section
variable {P:zP} {L:Lib}
theorem zFd (h:Has P L 292 zmZ) {n:Nat} (hn:n<9223372036854775808):zn P L 292 [zf n,zf 1] (.str (zq n)):=by
 have key:=zM (P:=P) (L:=L) (live:=[0,1,5]) (a:=zc9)
  (I:=fun k st=>∃(m:Nat) (s:List Nat),st=⟨[(0,zf m),(1,zf 1),(5,.str s)],[],0,0⟩∧m≤n∧m+(1-s.length)=k∧s.length≤20∧((s=[]∧m=n)∨(0<s.length∧(m=0→s=zq n)∧(0<m→zq n=zq m++s))))
  (Q:=fun ex st=>∃tm ct,st=⟨tm,[],ct,0⟩∧ex= .exit 0∧zd tm 5= .str (zq n)) ?_
 ·unfold zn;rw [zc h]
  simp only [go_sem,zmZ]
  generalize hq:D P L (.loop [0,1,5] zc9) _=q
  obtain ⟨ex,st,rfl,tm,ct,rfl,rfl,h2⟩:=zW hq (key (n+1)) ⟨n,[],by simp only [go_sem,reduceEqDiff,za]<;>rfl,by omega,rfl,by simp,.inl ⟨rfl,rfl⟩⟩
  simp only [go_sem,za,h2]
 ·rintro k st ⟨m,s,rfl,hm,hk,hl,hs⟩
  by_cases hgo:0<m∨s.length<1
  ·left
   have hc:((decide ((0:Int)<m))=true)∨((decide ((0:Int)<m))=false∧((s.length:Nat):Int)<1):=by
    by_cases h0:0<m
    ·exact .inl (decide_eq_true (by omega))
    ·exact .inr ⟨decide_eq_false (by omega),by omega⟩
   have hr:((m:Int)).tmod 10=((m%10:Nat):Int):=by rw [Int.tmod_eq_emod_of_nonneg (by omega)];rfl
   have hq:((m:Int)).tdiv 10=((m/10:Nat):Int):=by rw [Int.tdiv_eq_ediv_of_nonneg (by omega)];rfl
   have hd:=zjN (r:=m%10) (by omega)
   have fin:∃s' k',D P L zc9 ⟨[(0,zf m),(1,zf 1),(5,.str s)],[],0,0⟩=some (.normal,s')∧k'<k∧zE [0,1,5] s'=⟨[(0,zf (m/10:Nat)),(1,zf 1),(5,.str ([48+m%10]++s))],[],0,0⟩∧m/10+(1-([48+m%10]++s).length)=k':=by
    rcases hc with hc | ⟨hc,hc2⟩
    ·have hc:(0:Int)<m:=of_decide_eq_true hc
     simp only [go_sem,reduceEqDiff,reduceAdd,zc9,hc,zaC _ _ _ (show (10:Int)≠0 by decide),zaA _ _ _ (show (10:Int)≠0 by decide),hr,hq,zF (n:=m%10+1) (by omega),zh (n:=((m/10:Nat):Int)) (by omega) (by omega),zaj,zaa,show ((m%10:Nat):Int)+1=((m%10+1:Nat):Int) from rfl,hd,zaH (a:=[48+m%10]) (b:=s) (by simp;omega)]
     refine ⟨_,_,rfl,?_,by simp only [go_sem,reduceEqDiff,za],rfl⟩
     simp;omega
    ·have hc:¬(0:Int)<m:=of_decide_eq_false hc
     simp only [go_sem,reduceEqDiff,reduceAdd,zc9,hc,hc2,zaC _ _ _ (show (10:Int)≠0 by decide),zaA _ _ _ (show (10:Int)≠0 by decide),hr,hq,zF (n:=m%10+1) (by omega),zh (n:=((m/10:Nat):Int)) (by omega) (by omega),zaj,zaa,show ((m%10:Nat):Int)+1=((m%10+1:Nat):Int) from rfl,hd,zaH (a:=[48+m%10]) (b:=s) (by simp;omega)]
     refine ⟨_,_,rfl,?_,by simp only [go_sem,reduceEqDiff,za],rfl⟩
     simp;omega
   obtain ⟨s',k',f1,f2,f3,f4⟩:=fin
   refine ⟨s',k',f1,f2,m/10,[48+m%10]++s,f3,by omega,f4,?_,.inr ⟨by simp,fun h0=>?_,fun h0=>?_⟩⟩
   ·have hn20:=zfi (n:=n) (by omega)
    rcases hs with ⟨rfl,rfl⟩ | ⟨h1,h2,h3⟩
    ·simp
    ·by_cases h0:0<m
     ·have e:=congrArg List.length (h3 h0)
      have e2:0<(zq m).length:=by
       by_cases h9:m<10
       ·rw [zbc h9];simp
       ·rw [zb6 h9];simp
      simp only [List.length_append] at e
      simp;omega
     ·omega
   ·have h9:m<10:=by omega
    rcases hs with ⟨rfl,rfl⟩ | ⟨h1,h2,h3⟩
    ·rw [zbc h9,Nat.mod_eq_of_lt h9];rfl
    ·have:0<m:=by omega
     rw [h3 this,zbc h9,Nat.mod_eq_of_lt h9]
   ·have h9:¬m<10:=by omega
    rcases hs with ⟨rfl,rfl⟩ | ⟨h1,h2,h3⟩
    ·rw [zb6 h9];simp
    ·rw [h3 (by omega),zb6 h9];simp
  ·right
   simp only [go_sem,reduceEqDiff,zc9,show ¬(0:Int)<m by omega,show ¬((s.length:Nat):Int)<1 by omega]
   refine ⟨_,_,rfl,by simp,_,_,rfl,rfl,?_⟩
   simp only [go_sem,reduceEqDiff]
   rcases hs with ⟨rfl,rfl⟩ | ⟨h1,h2,h3⟩
   ·simp at hgo
   ·rw [h2 (by omega)]
theorem zI3 (h:Has P L 291 zxy) {a b:Nat} (ha:a<9223372036854775808) (hb:b<9223372036854775808):zn P L 291 [zf a,zf b] (zf (Nat.gcd a b)):=by
 have key:=zM (P:=P) (L:=L) (live:=[0,1]) (a:=zjX)
  (I:=fun k st=>∃x y:Nat,st=⟨[(0,zf x),(1,zf y)],[],0,0⟩∧y=k∧Nat.gcd x y=Nat.gcd a b)
  (Q:=fun ex st=>∃tm ct,st=⟨tm,[],ct,0⟩∧ex= .exit 0∧zd tm 0=zf (Nat.gcd a b)) ?_
 ·unfold zn;rw [zc h]
  simp only [go_sem,zxy]
  generalize hq:D P L (.loop [0,1] zjX) _=q
  obtain ⟨ex,st,rfl,tm,ct,rfl,rfl,h2⟩:=zW hq (key b) ⟨a,b,by simp only [go_sem,reduceEqDiff,za]<;>rfl,rfl,rfl⟩
  simp only [go_sem,za,h2]
 ·rintro k st ⟨x,y,rfl,rfl,hg⟩
  by_cases hy:y=0
  ·right
   subst hy
   simp only [go_sem,reduceEqDiff,zjX,show ¬(0:Int)<((0:Nat):Int) by omega]
   refine ⟨_,_,rfl,by simp,_,_,rfl,rfl,?_⟩
   simp only [go_sem,reduceEqDiff]
   rw [←hg,Nat.gcd_zero_right]
  ·left
   have hr:((x:Int)).tmod y=((x%y:Nat):Int):=by rw [Int.tmod_eq_emod_of_nonneg (by omega)];rfl
   simp only [go_sem,reduceEqDiff,zjX,show (0:Int)<y by omega,zaC _ _ _ (show (y:Int)≠0 by omega),hr]
   refine ⟨_,x%y,rfl,Nat.mod_lt _ (by omega),y,x%y,by simp only [go_sem,reduceEqDiff,za],rfl,?_⟩
   rw [←hg,Nat.gcd_comm y,←Nat.gcd_rec,Nat.gcd_comm]
end
end VE
end
section
namespace VE
open Go (IntKind)
section
variable {P:zP} {L:Lib}
theorem zrY (h:Has P L 272 ztY) {s:List Nat} (hl:s.length≤1000000000000):zn P L 272 [.str s] (zf (zO s)):=by
 have key:=zM (P:=P) (L:=L) (live:=[0,3]) (a:=zh9)
  (I:=fun k st=>∃i:Nat,st=⟨[(0,.str s),(3,zf i)],[],0,0⟩∧i+k=s.length∧i+zO (s.drop i)=zO s)
  (Q:=fun ex st=>∃tm ct,st=⟨tm,[],ct,0⟩∧((ex= .ret∧zd tm 2=zf (zO s))∨(ex= .exit 0∧zd tm 0= .str s∧zO s=s.length))) ?_
 ·unfold zn;rw [zc h]
  simp only [go_sem,ztY]
  generalize hq:D P L (.loop [0,3] zh9) _=q
  obtain ⟨ex,st,rfl,tm,ct,rfl,h2⟩:=zW hq (key s.length) ⟨0,by simp only [go_sem,reduceEqDiff,za]<;>rfl,by omega,by simp⟩
  rcases h2 with ⟨rfl,h2⟩ | ⟨rfl,h2,h3⟩
  ·simp only [go_sem,h2]
  ·simp only [go_sem,za,h2,h3]
 ·rintro k st ⟨i,rfl,hk,hs⟩
  by_cases hi:i<s.length
  ·rw [zn0 hi] at hs
   by_cases h7:s[i]=47
   ·right
    rw [if_pos h7] at hs
    simp only [go_sem,reduceEqDiff,zh9,show (i:Int)<s.length by omega,zcN hi,show ((s[i]:Nat):Int)=47 by omega]
    refine ⟨_,_,rfl,by simp,_,_,rfl,.inl ⟨rfl,?_⟩⟩
    simp only [go_sem]
    rw [←hs];rfl
   ·left
    rw [if_neg h7] at hs
    simp only [go_sem,reduceEqDiff,zh9,show (i:Int)<s.length by omega,zcN hi,show ¬((s[i]:Nat):Int)=47 by omega]
    refine ⟨_,k-1,rfl,by omega,i+1,?_,by omega,by omega⟩
    rw [zh (by omega) (by omega)]
    simp only [go_sem,reduceEqDiff,za]<;>rfl
  ·right
   simp only [go_sem,reduceEqDiff,zh9,show ¬(i:Int)<s.length by omega]
   refine ⟨_,_,rfl,by simp,_,_,rfl,.inr ⟨rfl,by simp only [go_sem,reduceEqDiff],?_⟩⟩
   rw [List.drop_eq_nil_of_le (by omega)] at hs
   simp only [zO] at hs
   omega
theorem zxF (h:Has P L 290 zsk) {s:List Nat} {v:Nat} (hl:s.length≤18) (hv:za6 s 0=some v):zn P L 290 [.str s] (zf v):=by
 have key:=zM (P:=P) (L:=L) (live:=[0,3,4]) (a:=zky)
  (I:=fun k st=>∃i a:Nat,st=⟨[(0,.str s),(3,zf a),(4,zf i)],[],0,0⟩∧i+k=s.length∧a<10^i∧za6 (s.drop i) a=some v)
  (Q:=fun ex st=>∃tm ct,st=⟨tm,[],ct,0⟩∧ex= .exit 0∧zd tm 3=zf v) ?_
 ·unfold zn;rw [zc h]
  simp only [go_sem,zsk]
  generalize hq:D P L (.loop [0,3,4] zky) _=q
  obtain ⟨ex,st,rfl,tm,ct,rfl,rfl,h2⟩:=zW hq (key s.length) ⟨0,0,by simp only [go_sem,reduceEqDiff,za]<;>rfl,by omega,by simp,hv⟩
  simp only [go_sem,za,h2]
 ·rintro k st ⟨i,a,rfl,hk,ha,hs⟩
  by_cases hi:i<s.length
  ·left
   obtain ⟨h1,h2,h3⟩:=zsF hi hs
   have hp:10^i≤10^17:=Nat.pow_le_pow_right (by decide) (by omega)
   have hp':(10:Nat)^17=100000000000000000:=by decide
   have hb:IntKind.wrap .i64 ((s[i]:Nat):Int)=((s[i]:Nat):Int):=zh (by omega) (by omega)
   simp only [go_sem,reduceEqDiff,zky,show (i:Int)<s.length by omega,zcN hi,zzp,hb,zh (n:=10*(a:Int)) (by omega) (by omega),zh (n:=10*(a:Int)+(s[i]:Nat)) (by omega) (by omega),zh (n:=10*(a:Int)+(s[i]:Nat)-48) (by omega) (by omega)]
   refine ⟨_,k-1,rfl,by omega,i+1,10*a+(s[i]-48),?_,by omega,?_,h3⟩
   ·rw [zh (by omega) (by omega),show 10*(a:Int)+(s[i]:Nat)-48=((10*a+(s[i]-48):Nat):Int) by omega]
    simp only [go_sem,reduceEqDiff,za]<;>rfl
   ·rw [Nat.pow_succ];omega
  ·right
   simp only [go_sem,reduceEqDiff,zky,show ¬(i:Int)<s.length by omega]
   refine ⟨_,_,rfl,by simp,_,_,rfl,rfl,?_⟩
   rw [List.drop_eq_nil_of_le (by omega)] at hs
   simp only [za6,Option.some.injEq] at hs
   subst hs
   simp only [go_sem,reduceEqDiff]
theorem zjw (a:Int):(if 0-a>a then 0-a else a)=(a.natAbs:Int):=by split<;>omega
theorem zhS (a b:Int):a.tdiv (Int.gcd a b:Nat)=zbv a b:=Int.tdiv_eq_ediv_of_dvd (Int.gcd_dvd_left a b)
theorem zhq (a b:Int):b.tdiv (Int.gcd a b:Nat)=zbw a b:=Int.tdiv_eq_ediv_of_dvd (Int.gcd_dvd_right a b)
theorem za7 (n:Int):(if n<0 then [45] else [])++zq n.natAbs=zV n:=by
 split
 ·rename_i h;rw [zbr h];rfl
 ·rename_i h
  obtain ⟨m,rfl⟩:∃m:Nat,n=m:=⟨n.toNat,by omega⟩
  rfl
theorem zye {n:Int} (h:n.natAbs<18446744073709551616):(zV n).length≤21:=by
 rw [←za7]
 have:=zfi h
 split<;>simp<;>omega
theorem zzA {a b:Int} (hb:0<b):zjk a b=(if 1<zbw a b then (zV (zbv a b)++[47])++zq (zbw a b).natAbs else zV (zbv a b)):=by
 have h:=zf2 (a:=a) hb
 unfold zjk
 by_cases h1:zbw a b=1
 ·rw [if_pos h1,if_neg (by omega)]
 ·rw [if_neg h1,if_pos (by omega)]
  obtain ⟨m,hm⟩:∃m:Nat,zbw a b=m:=⟨(zbw a b).toNat,by omega⟩
  rw [hm];rfl
theorem zJS (h:Has P L 277 zqg) (h291:Has P L 291 zxy) (h292:Has P L 292 zmZ) {a b:Int} (ha: -4000000000000000000≤a∧a≤4000000000000000000) (hb:0<b∧b≤4000000000000000000):
  zn P L 277 [zf a,zf b] (.str (zjk a b)):=by
 have hn:=znM a b
 have hd:=zoV a b
 have hp:=zf2 (a:=a) hb.1
 have e1:=zI3 h291 (a:=a.natAbs) (b:=b.natAbs) (by omega) (by omega)
 have e2:=zFd h292 (n:=(zbv a b).natAbs) (by omega)
 have e3:=zFd h292 (n:=(zbw a b).natAbs) (by omega)
 have hg:=zhK (a:=a) hb.1
 rw [show ((b.natAbs:Nat):Int)=b by omega,show Nat.gcd a.natAbs b.natAbs=Int.gcd a b from rfl] at e1
 rw [show (((zbw a b).natAbs:Nat):Int)=zbw a b by omega] at e3
 have hl1:=zye (n:=zbv a b) (by omega)
 have hl2:=zfi (n:=(zbv a b).natAbs) (by omega)
 have hl3:=zfi (n:=(zbw a b).natAbs) (by omega)
 have hT:=zzA (a:=a) hb.1
 have hS:=za7 (zbv a b)
 unfold zn at e1 e2 e3 ⊢;rw [zc h]
 by_cases h0:zbv a b<0
 ·rw [if_pos h0] at hS
  by_cases h1:1<zbw a b
  ·rw [if_pos h1] at hT
   simp only [go_sem,reduceEqDiff,zqg,show ¬a< -4000000000000000000 by omega,show ¬4000000000000000000<a by omega,show ¬b< -4000000000000000000 by omega,show ¬4000000000000000000<b by omega,show ¬b<0 by omega,zh (n:=0-a) (by omega) (by omega),zib,zeP,zjw,e1,zaA _ _ _ (show ((Int.gcd a b:Nat):Int)≠0 by omega),zhS,zhq,zh (n:=zbv a b) (by omega) (by omega),zh (n:=zbw a b) (by omega) (by omega),h0,zh (n:=0-zbv a b) (by omega) (by omega),e2,zaH (a:=[45]) (b:=zq (zbv a b).natAbs) (by simp;omega),hS,h1,zaH (a:=zV (zbv a b)) (b:=[47]) (by simp;omega),e3,zaH (a:=zV (zbv a b)++[47]) (b:=zq (zbw a b).natAbs) (by simp;omega),hT]
  ·rw [if_neg h1] at hT
   simp only [go_sem,reduceEqDiff,zqg,show ¬a< -4000000000000000000 by omega,show ¬4000000000000000000<a by omega,show ¬b< -4000000000000000000 by omega,show ¬4000000000000000000<b by omega,show ¬b<0 by omega,zh (n:=0-a) (by omega) (by omega),zib,zeP,zjw,e1,zaA _ _ _ (show ((Int.gcd a b:Nat):Int)≠0 by omega),zhS,zhq,zh (n:=zbv a b) (by omega) (by omega),zh (n:=zbw a b) (by omega) (by omega),h0,zh (n:=0-zbv a b) (by omega) (by omega),e2,zaH (a:=[45]) (b:=zq (zbv a b).natAbs) (by simp;omega),hS,h1,hT]
 ·rw [if_neg h0] at hS
  by_cases h1:1<zbw a b
  ·rw [if_pos h1] at hT
   simp only [go_sem,reduceEqDiff,zqg,show ¬a< -4000000000000000000 by omega,show ¬4000000000000000000<a by omega,show ¬b< -4000000000000000000 by omega,show ¬4000000000000000000<b by omega,show ¬b<0 by omega,zh (n:=0-a) (by omega) (by omega),zib,zeP,zjw,e1,zaA _ _ _ (show ((Int.gcd a b:Nat):Int)≠0 by omega),zhS,zhq,zh (n:=zbv a b) (by omega) (by omega),zh (n:=zbw a b) (by omega) (by omega),h0,zh (n:=0-zbv a b) (by omega) (by omega),e2,zaH (a:=[]) (b:=zq (zbv a b).natAbs) (by simp;omega),hS,h1,zaH (a:=zV (zbv a b)) (b:=[47]) (by simp;omega),e3,zaH (a:=zV (zbv a b)++[47]) (b:=zq (zbw a b).natAbs) (by simp;omega),hT]
  ·rw [if_neg h1] at hT
   simp only [go_sem,reduceEqDiff,zqg,show ¬a< -4000000000000000000 by omega,show ¬4000000000000000000<a by omega,show ¬b< -4000000000000000000 by omega,show ¬4000000000000000000<b by omega,show ¬b<0 by omega,zh (n:=0-a) (by omega) (by omega),zib,zeP,zjw,e1,zaA _ _ _ (show ((Int.gcd a b:Nat):Int)≠0 by omega),zhS,zhq,zh (n:=zbv a b) (by omega) (by omega),zh (n:=zbw a b) (by omega) (by omega),h0,zh (n:=0-zbv a b) (by omega) (by omega),e2,zaH (a:=[]) (b:=zq (zbv a b).natAbs) (by simp;omega),hS,h1,hT]
end
end VE
end
section
namespace VE
open Go (IntKind)
def TT (n:Int) (d:Nat):List Nat:=zV n++(if d=1 then [] else 47::zq d)
theorem zzX {a b:Int} (hb:0<b):zjk a b=TT (zbv a b) (zbw a b).toNat:=by
 have h:=zf2 (a:=a) hb
 unfold zjk TT
 by_cases h1:zbw a b=1
 ·rw [if_pos h1,if_pos (by omega),List.append_nil]
 ·rw [if_neg h1,if_neg (by omega)]
  obtain ⟨m,hm⟩:∃m:Nat,zbw a b=m:=⟨(zbw a b).toNat,by omega⟩
  rw [hm,List.append_assoc];rfl
theorem zbL (n:Nat):0<(zq n).length:=by
 by_cases h:n<10
 ·rw [zbc h];simp
 ·rw [zb6 h];simp
theorem zhb:∀(n:Nat),n<10^(zq n).length:=by
 intro n
 induction n using Nat.strongRecOn with
 | _ n ih=>
  by_cases h:n<10
  ·rw [zbc h];simpa using h
  ·have:=ih (n/10) (by omega)
   rw [zb6 h,List.length_append,List.length_singleton,Nat.pow_succ]
   omega
theorem zoG {n:Nat} (h:(zq n).length≤9):n<1000000000:=
 Nat.lt_of_lt_of_le (zhb n) (by simpa using Nat.pow_le_pow_right (show 0<10 by decide) h)
theorem zd3 (n:Nat):∃b r,zq n=b::r∧48≤b∧b≤57:=by
 cases hq:zq n with
 | nil=>have:=zbL n;rw [hq] at this;simp at this
 | cons b r=>
  have:=zeT n
  rw [hq] at this
  simp only [zbo,Bool.and_eq_true] at this
  exact ⟨b,r,rfl,Nat.le_of_ble_eq_true this.1.1,Nat.le_of_ble_eq_true this.1.2⟩
section
variable {P:zP} {L:Lib}
theorem zp0 (s:List Nat):zeD 0 (.str (45::s))=some (.int .u8 45):=rfl
def zqv (q:Bool) (n:Int) (d:Nat):AV:=if q=true then .tup [zf n,zf d,.bool true] else .tup [zf 0,zf 0,.bool false]
def zhf (d:Nat):List Nat:=if d=1 then [] else 47::zq d
theorem zqd (d:Nat):zO (zhf d)=0:=by unfold zhf;split<;>rfl
theorem zI6 (h:Has P L 276 zjd) (h272:Has P L 272 ztY) (h290:Has P L 290 zsk) {n:Int} {d:Nat} (hl:(TT n d).length≤20000000000):
  ∃q:Bool,zn P L 276 [.str (TT n d)] (zqv q n d)∧(q=true→n.natAbs<1000000000∧d<1000000000):=by
 generalize hs:TT n d=s at hl
 by_cases h20:20<s.length
 ·refine ⟨false,?_,fun h=>by cases h⟩
  unfold zn;rw [zc h]
  simp only [go_sem,reduceEqDiff,zjd,show (20:Int)<s.length by omega]
  rfl
 ·have hu:∃u,u=zq n.natAbs++zhf d:=⟨_,rfl⟩
  obtain ⟨u,hu⟩:=hu
  have hK:∃K,K=(zq n.natAbs).length:=⟨_,rfl⟩
  obtain ⟨K,hK⟩:=hK
  have hsl:zO u=K:=by rw [hu,zeu _ (zeT _),zqd,hK];rfl
  have hlen:u.length=K+(zhf d).length:=by rw [hu,hK,List.length_append]
  have hp:=zbL n.natAbs
  obtain ⟨b,r,hb,hb1,hb2⟩:=zd3 n.natAbs
  have hsu:(n<0∧s=45::u)∨(¬n<0∧s=u):=by
   by_cases h0:n<0
   ·left;refine ⟨h0,?_⟩;rw [←hs,hu,TT,zbr h0];rfl
   ·right;refine ⟨h0,?_⟩;rw [←hs,hu,TT,←za7,if_neg h0];rfl
  have hul:u.length≤s.length:=by rcases hsu with ⟨_,e⟩ | ⟨_,e⟩<;>rw [e]<;>simp
  have hu0:0<u.length:=by omega
  have hu1:u[0]=b:=by
   have:u=b::(r++zhf d):=by rw [hu,hb];rfl
   simp [this]
  have e1:=zrY h272 (s:=u) (by omega)
  rw [hsl] at e1
  have hc1:zeb u (some 0) (some K)=some (.str (zq n.natAbs)):=by
   rw [zbs (by omega) (by omega),List.drop_zero,hu,hK,List.take_left]
  unfold zn at e1
  by_cases h9:9<K
  ·refine ⟨false,?_,fun h=>by cases h⟩
   unfold zn;rw [zc h]
   rcases hsu with ⟨h0,e⟩ | ⟨h0,e⟩
   ·have h20:¬20<u.length+1:=by rw [e] at h20;exact h20
    have hc0:zeb (45::u) (some 1) (some (u.length+1))=some (.str u):=by rw [zbs (s:=45::u) (l:=1) (h:=u.length+1) (by omega) (by simp)];simp
    rw [e]
    simp only [go_sem,reduceEqDiff,zjd,show ¬(20:Int)<((u.length+1:Nat):Int) by omega,show (0:Int)<((u.length+1:Nat):Int) by omega,zp0,zaj,zaq,zaa,hc0,e1,show (9:Int)<(K:Int) by omega]
    rfl
   ·rw [e]
    simp only [go_sem,reduceEqDiff,zjd,show ¬(20:Int)<(u.length:Nat) by omega,show (0:Int)<(u.length:Nat) by omega,zcN hu0,hu1,show ¬((b:Nat):Int)=45 by omega,e1,show (9:Int)<(K:Int) by omega]
    rfl
  ·by_cases h10:10<(zhf d).length
   ·refine ⟨false,?_,fun h=>by cases h⟩
    unfold zn;rw [zc h]
    rcases hsu with ⟨h0,e⟩ | ⟨h0,e⟩
    ·have h20:¬20<u.length+1:=by rw [e] at h20;exact h20
     have hc0:zeb (45::u) (some 1) (some (u.length+1))=some (.str u):=by rw [zbs (s:=45::u) (l:=1) (h:=u.length+1) (by omega) (by simp)];simp
     rw [e]
     simp only [go_sem,reduceEqDiff,zjd,show ¬(20:Int)<((u.length+1:Nat):Int) by omega,show (0:Int)<((u.length+1:Nat):Int) by omega,zp0,zaj,zaq,zaa,hc0,e1,show ¬(9:Int)<(K:Int) by omega,zh (n:=(u.length:Int)-(K:Int)) (by omega) (by omega),show (10:Int)<(u.length:Int)-(K:Int) by omega]
     rfl
    ·rw [e]
     simp only [go_sem,reduceEqDiff,zjd,show ¬(20:Int)<(u.length:Nat) by omega,show (0:Int)<(u.length:Nat) by omega,zcN hu0,hu1,show ¬((b:Nat):Int)=45 by omega,e1,show ¬(9:Int)<(K:Int) by omega,zh (n:=(u.length:Int)-(K:Int)) (by omega) (by omega),show (10:Int)<(u.length:Int)-(K:Int) by omega]
     rfl
   ·have e2:=zxF h290 (s:=zq n.natAbs) (by omega) (zdm n.natAbs)
    unfold zn at e2
    have hm:=zoG (n:=n.natAbs) (by omega)
    by_cases hd:d=1
    ·subst hd
     have hr0:zhf 1=[]:=rfl
     refine ⟨true,?_,fun _=>⟨hm,by decide⟩⟩
     rw [hr0] at hlen
     simp only [List.length_nil,Nat.add_zero] at hlen
     unfold zn;rw [zc h]
     rcases hsu with ⟨h0,e⟩ | ⟨h0,e⟩
     ·have h20:¬20<u.length+1:=by rw [e] at h20;exact h20
      have hc0:zeb (45::u) (some 1) (some (u.length+1))=some (.str u):=by rw [zbs (s:=45::u) (l:=1) (h:=u.length+1) (by omega) (by simp)];simp
      rw [e]
      simp only [go_sem,reduceEqDiff,zjd,show ¬(20:Int)<((u.length+1:Nat):Int) by omega,show (0:Int)<((u.length+1:Nat):Int) by omega,zp0,zaj,zaq,zaa,hc0,e1,show ¬(9:Int)<(K:Int) by omega,zh (n:=(u.length:Int)-(K:Int)) (by omega) (by omega),show ¬(10:Int)<(u.length:Int)-(K:Int) by omega,hc1,e2,show ¬(K:Int)<(u.length:Int) by omega,zh (n:=0-(n.natAbs:Int)) (by omega) (by omega)]
      rw [show 0-(n.natAbs:Int)=n by omega]
      rfl
     ·rw [e]
      simp only [go_sem,reduceEqDiff,zjd,show ¬(20:Int)<(u.length:Nat) by omega,show (0:Int)<(u.length:Nat) by omega,zcN hu0,hu1,show ¬((b:Nat):Int)=45 by omega,zaj,zaq,zaa,e1,show ¬(9:Int)<(K:Int) by omega,zh (n:=(u.length:Int)-(K:Int)) (by omega) (by omega),show ¬(10:Int)<(u.length:Int)-(K:Int) by omega,hc1,e2,show ¬(K:Int)<(u.length:Int) by omega]
      rw [show (n.natAbs:Int)=n by omega]
      rfl
    ·have hr0:zhf d=47::zq d:=if_neg hd
     have hlr:(zhf d).length=(zq d).length+1:=by rw [hr0];rfl
     have hpd:=zbL d
     have hd9:=zoG (n:=d) (by omega)
     have e3:=zxF h290 (s:=zq d) (by omega) (zdm d)
     unfold zn at e3
     have hc2:zeb u (some (K+1)) (some u.length)=some (.str (zq d)):=by
      rw [zbs (by omega) (Nat.le_refl _),List.take_length,hu,hr0,hK,show (zq n.natAbs).length+1=(zq n.natAbs++[47]).length by simp,show zq n.natAbs++47::zq d=(zq n.natAbs++[47])++zq d by simp,List.drop_left]
     refine ⟨true,?_,fun _=>⟨hm,hd9⟩⟩
     unfold zn;rw [zc h]
     rcases hsu with ⟨h0,e⟩ | ⟨h0,e⟩
     ·have h20:¬20<u.length+1:=by rw [e] at h20;exact h20
      have hc0:zeb (45::u) (some 1) (some (u.length+1))=some (.str u):=by rw [zbs (s:=45::u) (l:=1) (h:=u.length+1) (by omega) (by simp)];simp
      rw [e]
      simp only [go_sem,reduceEqDiff,zjd,show ¬(20:Int)<((u.length+1:Nat):Int) by omega,show (0:Int)<((u.length+1:Nat):Int) by omega,zp0,zaj,zaq,zaa,hc0,e1,show ¬(9:Int)<(K:Int) by omega,zh (n:=(u.length:Int)-(K:Int)) (by omega) (by omega),show ¬(10:Int)<(u.length:Int)-(K:Int) by omega,hc1,e2,show (K:Int)<(u.length:Int) by omega,zF (n:=K+1) (by omega),show (K:Int)+1=((K+1:Nat):Int) from rfl,hc2,e3,zh (n:=0-(n.natAbs:Int)) (by omega) (by omega)]
      rw [show 0-(n.natAbs:Int)=n by omega]
      rfl
     ·rw [e]
      simp only [go_sem,reduceEqDiff,zjd,show ¬(20:Int)<(u.length:Nat) by omega,show (0:Int)<(u.length:Nat) by omega,zcN hu0,hu1,show ¬((b:Nat):Int)=45 by omega,zaj,zaq,zaa,e1,show ¬(9:Int)<(K:Int) by omega,zh (n:=(u.length:Int)-(K:Int)) (by omega) (by omega),show ¬(10:Int)<(u.length:Int)-(K:Int) by omega,hc1,e2,show (K:Int)<(u.length:Int) by omega,zF (n:=K+1) (by omega),show (K:Int)+1=((K+1:Nat):Int) from rfl,hc2,e3]
      rw [show (n.natAbs:Int)=n by omega]
      rfl
end
end VE
end
section
namespace VE
open Go (IntKind)
section
variable {P:zP} {L:Lib}
theorem zDE (h:Has P L 302 zlA) {v:AV} {l:List Int} (hv:IsI v l) (i:Nat):zn P L 302 [v,zf i] (zf (l.getD i 0)):=by
 unfold zn;rw [zc h]
 by_cases hi:i<l.length
 ·simp only [go_sem,reduceEqDiff,zlA,hv.len,show (i:Int)<l.length by omega,hv.ixa hi]
  simp [List.getD_eq_getElem?_getD,List.getElem?_eq_getElem hi]
 ·simp only [go_sem,reduceEqDiff,zlA,hv.len,show ¬(i:Int)<l.length by omega]
  simp [List.getD_eq_getElem?_getD,List.getElem?_eq_none (Nat.le_of_not_lt hi)]
theorem zqM {hp:Hp} {e:Bool} {n:Nat} {cs:List AV} {tm:Env} {h:Nat} {x:X} (hx:zat tm n (some x)=some h) (hh:h≤n):
  zbq hp (.sl 1) (.vsl e n cs) tm none (some x)=some (.vsl (e&&Nat.beq h n) h (cs.take h)):=by
 simp only [zbq,hx,zaq]
 simp [Nat.ble_eq_true_of_le hh,slice]
 rw [show Nat.ble 0 h=true from Nat.ble_eq_true_of_le (Nat.zero_le _)];rfl
theorem zoi (h:Has P L 300 zgn) {v:AV} {l:List Int} (hv:IsI v l) (hl:l.length≤20000000000):∃r,zn P L 300 [v] r∧IsI r (zaT l)∧shut r=r:=by
 rcases hv with ⟨rfl,h0⟩ | ⟨e,rfl⟩
 ·have:l=[]:=by simpa using h0
  subst this
  refine ⟨.nils,?_,zed,rfl⟩
  unfold zn;rw [zc h]
  simp only [go_sem,reduceEqDiff,zgn,zmB,zgF,za,show ¬(0:Int)<0 by decide]
 ·have key:=zM (P:=P) (L:=L) (live:=[0]) (a:=zgF)
   (I:=fun k st=>∃(i:Nat) (e:Bool),st=⟨[(0,.vsl e i ((l.take i).map zf))],[],0,0⟩∧i≤l.length∧i=k∧zaT (l.take i)=zaT l)
   (Q:=fun ex st=>∃tm ct,st=⟨tm,[],ct,0⟩∧ex= .exit 0∧∃i e,zd tm 0= .vsl e i ((l.take i).map zf)∧i≤l.length∧l.take i=zaT l) ?_
  ·have hlen:(l.map zf).length=l.length:=by simp
   rw [hlen]
   have goal:∃i e',zn P L 300 [.vsl e l.length (l.map zf)] (.vsl e' i ((l.take i).map zf))∧i≤l.length∧l.take i=zaT l:=by
    unfold zn;rw [zc h]
    simp only [go_sem,zgn]
    generalize hq:D P L (.loop [0] zgF) _=q
    obtain ⟨ex,st,rfl,tm,ct,rfl,rfl,i,e',h2,h3,h4⟩:=zW hq (key l.length) ⟨l.length,e,by simp only [go_sem,reduceEqDiff,za,List.take_length],Nat.le_refl _,rfl,by rw [List.take_length]⟩
    simp only [go_sem,za,h2]
    exact ⟨i,e',rfl,h3,h4⟩
   obtain ⟨i,e',g1,g2,g3⟩:=goal
   refine ⟨_,g1,?_,rfl⟩
   rw [←g3]
   have:=zaY e' (l.take i)
   rwa [List.length_take,Nat.min_eq_left g2] at this
  ·rintro k st ⟨i,e,rfl,hi,rfl,ht⟩
   cases i with
   | zero=>
    right
    simp only [go_sem,reduceEqDiff,zgF,show ¬(0:Int)<((0:Nat):Int) by omega]
    exact ⟨_,_,rfl,by simp,_,_,rfl,rfl,0,e,by simp only [go_sem,reduceEqDiff],Nat.zero_le _,by simpa [zaT] using ht⟩
   | succ i=>
    have hi1:i<l.length:=by omega
    have htk:l.take (i+1)=l.take i++[l[i]]:=List.take_succ_eq_append_getElem hi1
    have hdr:List.drop i ((l.take (i+1)).map zf)=[AV.int .i64 l[i]]:=by
     rw [htk,List.map_append,List.drop_left' (by simp;omega)];rfl
    have hix:zdF 1 i (.vsl e (i+1) ((l.take (i+1)).map zf))=some (.vptr [AV.int .i64 l[i]]):=by
     rw [zqX e _ (by omega),Nat.mul_one,hdr]
    by_cases h0:l[i]=0
    ·left
     have hcut:∀tm x,zat tm (i+1) (some x)=some i→zbq [] (.sl 1) (.vsl e (i+1) ((l.take (i+1)).map zf)) tm none (some x)=some (.vsl (e&&Nat.beq i (i+1)) i ((l.take i).map zf)):=fun tm x hx=>by
      rw [zqM hx (by omega),←List.map_take,List.take_take,Nat.min_eq_left (by omega)]
     simp only [go_sem,reduceEqDiff,zgF,show (0:Int)<((i+1:Nat):Int) by omega,show ((i+1:Nat):Int)-1=(i:Int) by omega,zF (n:=i) (by omega),hix,h0,hcut,zaa]
     refine ⟨_,i,rfl,by omega,i,_,by simp only [go_sem,za]<;>rfl,by omega,rfl,?_⟩
     rw [←ht,htk,h0,zec]
    ·right
     simp only [go_sem,reduceEqDiff,zgF,show (0:Int)<((i+1:Nat):Int) by omega,show ((i+1:Nat):Int)-1=(i:Int) by omega,zF (n:=i) (by omega),hix,h0]
     refine ⟨_,_,rfl,by simp,_,_,rfl,rfl,i+1,e,by simp only [go_sem,reduceEqDiff],by omega,?_⟩
     rw [←ht,htk,zft h0]
end
end VE
end
