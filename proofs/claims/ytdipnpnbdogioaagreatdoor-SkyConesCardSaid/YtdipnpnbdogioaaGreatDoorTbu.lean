import Derived.Test.YtdipnpnbdogioaaGreatDoorTbt
import Derived.Test.YtdipnpnbdogioaaGreatDoorTbs
import Derived.Test.YtdipnpnbdogioaaGreatDoorTba
import Derived.Test.YtdipnpnbdogioaaGreatDoorTau
set_option linter.all false
set_option maxRecDepth 100000
open Nat (reduceAdd reduceEqDiff reduceLT reduceLeDiff)
section
namespace VE
open Go (IntKind)
theorem znK (i:Nat):zs1 i [48,49,50,51,52,53,54,55,56,57]=(Nat.ble 48 i&&Nat.ble i 57):=by
 by_cases h:48≤i∧i≤57
 ·obtain ⟨h1,h2⟩:=h;obtain ⟨k,rfl⟩:∃k,i=48+k:=⟨i-48,by omega⟩
  have:k<10:=by omega
  rcases (show k=0∨k=1∨k=2∨k=3∨k=4∨k=5∨k=6∨k=7∨k=8∨k=9 by omega) with rfl | rfl | rfl | rfl | rfl | rfl | rfl | rfl | rfl | rfl<;>rfl
 ·have e:(Nat.ble 48 i&&Nat.ble i 57)=false:=by
   cases h1:Nat.ble 48 i with
   | false=>rfl
   | true=>
    cases h2:Nat.ble i 57 with
    | false=>rfl
    | true=>exact absurd ⟨Nat.le_of_ble_eq_true h1,Nat.le_of_ble_eq_true h2⟩ h
  rw [e];have ne:∀c,48≤c→c≤57→Nat.beq c i=false:=fun c h1 h2=>zaN (by omega)
  simp only [zs1,ne 48 (by decide) (by decide),ne 49 (by decide) (by decide),ne 50 (by decide) (by decide),ne 51 (by decide) (by decide),ne 52 (by decide) (by decide),ne 53 (by decide) (by decide),ne 54 (by decide) (by decide),ne 55 (by decide) (by decide),ne 56 (by decide) (by decide),ne 57 (by decide) (by decide),cond_false]
theorem ziM:∀l:List Nat,zcX [48,49,50,51,52,53,54,55,56,57] l=[]↔zbp l=true
 | []=>by simp [zcX,zbp]
 | b::r=>by
  simp only [zcX,zbp,znK]
  cases hb:(Nat.ble 48 b&&Nat.ble b 57) with
  | true=>simp only [cond_true,Bool.true_and];exact ziM r
  | false=>simp
theorem zhw:∀l:List Nat,zbp l.reverse=zbp l
 | []=>rfl
 | b::r=>by rw [List.reverse_cons,zeG,zhw r];simp [zbp,Bool.and_comm]
theorem zh9:∀l:List Nat,zbp l=false→zbp (zcX [48,49,50,51,52,53,54,55,56,57] l)=false
 | [],h=>by simp [zbp] at h
 | b::r,h=>by
  simp only [zcX,znK]
  cases hb:(Nat.ble 48 b&&Nat.ble b 57) with
  | true=>
   simp only [cond_true];simp only [zbp,hb,Bool.true_and] at h;exact zh9 r h
  | false=>simp only [cond_false];exact h
theorem zx5 (p:List Nat):eqL (zcX [48,49,50,51,52,53,54,55,56,57] (zcX [48,49,50,51,52,53,54,55,56,57] p.reverse).reverse) []=zbp p:=by
 cases hd:zbp p with
 | true=>
  have h1:=(ziM p.reverse).2 (by rw [zhw];exact hd)
  rw [h1];rfl
 | false=>
  have h1:=zh9 p.reverse (by rw [zhw];exact hd)
  have h2:zbp (zcX [48,49,50,51,52,53,54,55,56,57] p.reverse).reverse=false:=by rw [zhw];exact h1
  cases hq:zcX [48,49,50,51,52,53,54,55,56,57] (zcX [48,49,50,51,52,53,54,55,56,57] p.reverse).reverse with
  | nil=>have:=(ziM _).1 hq;rw [h2] at this;exact absurd this (by decide)
  | cons b r=>rfl
theorem zh4:∀(t:List Nat) (k:Nat),zcL [47] t k=if zP t<t.length then some (k+zP t) else none
 | [],k=>by simp [zcL,zbR,zP]
 | b::r,k=>by
  by_cases hb:b=47
  ·subst hb;have e:zP (47::r)=0:=by simp [zP]
   rw [e,if_pos (by simp)];rfl
  ·have e:zP (b::r)=zP r+1:=by simp [zP,hb]
   have hp:zbR [47] (b::r)=false:=by rw [zeY];exact zaN (fun e=>hb e.symm)
   rw [e,zcL,hp,cond_false,zh4 r (k+1)];by_cases h:zP r<r.length
   ·rw [if_pos h,if_pos (by simpa using h)];congr 1;omega
   ·rw [if_neg h,if_neg (by simpa using h)]
theorem zeA (a b:List Nat):binOp .neq (.str a) (.str b)=some (.bool (!(eqL a b))):=rfl
structure Ck (P:zQ) (L:Lib):Prop extends Tx P L where
 h128:L.pure 128=some zfr
 h162:L.pure 162=some trimS
 h86:Has P L 86 c86
 h124:Has P L 124 zt2
 h125:Has P L 125 zyX
 h129:Has P L 129 zsm
section
variable {P:zQ} {L:Lib}
theorem w124 (h:Has P L 124 zt2) (b:Bool) (n:Int):zx P L 124 [.bool b,zh n] (zh (if b=true then n else 0)):=Nd.w124 h b n
theorem zHS (h:Ck P L) {p:List Nat} (hl:p.length≤4000000000):zx P L 129 [.str p] (.bool (zbD p)):=by
 have e1:zp P L (D P L) 162 [.str p,.str [48,49,50,51,52,53,54,55,56,57]]=some (.str (zcX [48,49,50,51,52,53,54,55,56,57] (zcX [48,49,50,51,52,53,54,55,56,57] p.reverse).reverse)):=by
  rw [zaK h.h162];show (bif zit [48,49,50,51,52,53,54,55,56,57]&&(Nat.blt p.length 4294967281&&Nat.blt 10 4294967281) then _ else none)=_
  rw [zdx (by omega)];rfl
 have e2:=zx5 p;generalize zcX [48,49,50,51,52,53,54,55,56,57] (zcX [48,49,50,51,52,53,54,55,56,57] p.reverse).reverse=u at*
 unfold zx;rw [zd h.h129]
 match p,e1,e2 with
 | [],_,_=>
  simp only [go_sem,reduceEqDiff,zsm,zeA,show eqL [] []=true from rfl,Bool.not_true];rfl
 | b::r,e1,e2=>
  have hI:zeB 0 (.str (b::r))=some (.int .u8 (b:Nat)):=rfl;have h0:eqL (b::r) []=false:=rfl;have hd:zbD (b::r)=(zbp (b::r)&&(!(Nat.beq b 48)||r.isEmpty)):=rfl;rw [hd]
  cases hdg:zbp (b::r) with
  | false=>
   rw [hdg] at e2;simp only [go_sem,reduceEqDiff,zsm,zeA,h0,Bool.not_false,e1,zbq,e2,Bool.false_and]
  | true=>
   rw [hdg] at e2;by_cases hb:b=48
   ·subst hb;have e3:eqL (48::r) [48]=r.isEmpty:=by
     cases r with
     | nil=>rfl
     | cons c r=>rfl
    have hI':zeB 0 (.str (48::r))=some (.int .u8 48):=rfl;simp only [go_sem,reduceEqDiff,zsm,zeA,h0,Bool.not_false,e1,zbq,e2,hI',decide_true,Bool.not_true,e3];rfl
   ·have:Nat.beq b 48=false:=zaN hb
    rw [this];simp only [go_sem,reduceEqDiff,zsm,zeA,h0,Bool.not_false,e1,zbq,e2,hI,show ¬((b:Nat):Int)=48 by omega,decide_false,Bool.not_false];rfl
theorem zKd (h:Ck P L) (s:List Nat):zp P L (D P L) 128 [.str s,.str [45]]=some (if s.head? =some 45 then .tup [.str s.tail,.bool true] else .tup [.str s,.bool false]):=by
 rw [zaK h.h128];show some (bif zbR [45] s then AV.tup [.str (s.drop 1),.bool true] else .tup [.str s,.bool false])=_
 cases s with
 | nil=>rfl
 | cons b r=>
  by_cases hb:b=45
  ·subst hb;rfl
  ·have:zbR [45] (b::r)=false:=by rw [zeY];exact zaN (fun e=>hb e.symm)
   rw [this,if_neg (by simpa using hb)];rfl
theorem zKt (h:Ck P L) {t:List Nat} (hl:t.length≤4000000000):zp P L (D P L) 109 [.str t,.str [47]]=some (.tup [.str (t.take (zP t)),.str (t.drop (zP t+1)),.bool (decide (zP t<t.length))]):=by
 rw [zaK h.h109];show (bif Nat.blt t.length 4294967281 then (match zcL [47] t 0 with | some i=>some (AV.tup [.str (t.take i),.str (t.drop (i+1)),.bool true]) | none=>some (AV.tup [.str t,.str [],.bool false])) else none)=_
 rw [zdx (by omega),zh4];have hle:=zea t;by_cases hs:zP t<t.length
 ·simp only [hs,if_true,decide_true,Nat.zero_add,cond_true]
 ·rw [if_neg hs,decide_eq_false hs,List.take_of_length_le (by omega),List.drop_eq_nil_of_le (by omega)];rfl
theorem zpC {P:zQ} {L:Lib} (a b c d:VC) (s:St):D P L (.seq a (.seq b (.seq c d))) s=zeI P L (D P L (.seq a (.seq b c)) s) d:=by
 have e:=zem (P:=P) (L:=L) b c d;rw [zdh,zdh]
 cases D P L a s with
 | none=>rfl
 | some q=>
  obtain ⟨ex,st⟩:=q
  cases ex with
  | normal=>rw [zas,zas];exact e st
  | ret=>rfl
  | exit id=>rfl
theorem zsD {P:zQ} {L:Lib} (a b c d f:VC) (s:St):D P L (.seq a (.seq b (.seq c (.seq d f)))) s=zeI P L (D P L (.seq a (.seq b (.seq c d))) s) f:=by
 have e:=zpC (P:=P) (L:=L) b c d f;rw [zdh,zdh]
 cases D P L a s with
 | none=>rfl
 | some q=>
  obtain ⟨ex,st⟩:=q
  cases ex with
  | normal=>rw [zas,zas];exact e st
  | ret=>rfl
  | exit id=>rfl
theorem zjA {a b:List Nat} (h:a=b):eqL a b=true:=by
 subst h
 induction a with
 | nil=>rfl
 | cons x a ih=>simp [eqL,ih]
theorem znf {a b:List Nat} (h:a≠b):eqL a b=false:=by
 cases hb:eqL a b with
 | false=>rfl
 | true=>
  exact absurd (by
   clear h;revert b
   induction a with
   | nil=>intro b hb;cases b with | nil=>rfl | cons y b=>simp [eqL] at hb
   | cons x a ih=>
    intro b hb
    cases b with
    | nil=>simp [eqL] at hb
    | cons y b=>
     simp only [eqL,Bool.and_eq_true] at hb
     rw [Nat.eq_of_beq_eq_true hb.1,ih hb.2]) h
theorem zHF (h:Ck P L) {p q:List Nat} {ok found:Bool} (lp:p.length≤1000000000) (lq:q.length≤1000000000) (hok:ok=true→zbD p=true∧(found=true→zbD q=true)) {tm:Env} (t5:zc tm 5= .str p) (t6:zc tm 6= .str q) (t7:zc tm 7= .bool found) (t8:zc tm 8= .bool ok):
  zdc [.t 2] (D P L (zu (zu (zu (zu (zu c86.body))))) ⟨tm,[],0,0⟩)=some (zh (
   if ok=false then 1
   else if 600<p.length∨600<q.length then 4
   else if found=true∧Nat.gcd (zcD p) (zcD q)≠1 then 1
   else 0)):=by
 have w1:=w124 h.h124 (!ok) 1;have hfi:∀a b:Int,zx P L 125 [.vsl true 2 [zh a,zh b]] (zh (zM [a,b])):=fun a b=>Nd.w125 h.h125 (za8 true [a,b]) (by simp)
 cases ok with
 | false=>
  have f1:=hfi 1 0;have f2:=hfi 1 4;have w2:=w124 h.h124 false 4;have w3:=w124 h.h124 true 4;simp only [Bool.not_false,if_true,Bool.false_eq_true,if_false] at w1 w2 w3;rw [show zM [1,0]=1 by decide] at f1;rw [show zM [1,4]=1 by decide] at f2;unfold zx at w1 w2 w3 f1 f2;by_cases h1:600<p.length
  ·simp only [go_sem,reduceEqDiff,reduceAdd,reduceLT,reduceLeDiff,Nat.mul_one,c86,zu,show ¬(1:Int)=0 by decide,Bool.not_false,t5,t8,Bool.not_false,w1,show (600:Int)<(p.length:Int) by omega,decide_true,w3,f2,decide_false]
   simp
  ·by_cases h2:600<q.length
   ·simp only [go_sem,reduceEqDiff,reduceAdd,reduceLT,reduceLeDiff,Nat.mul_one,c86,zu,show ¬(1:Int)=0 by decide,Bool.not_false,t5,t6,t8,Bool.not_false,w1,show ¬(600:Int)<(p.length:Int) by omega,show (600:Int)<(q.length:Int) by omega,decide_true,decide_false,w3,f2]
    simp
   ·simp only [go_sem,reduceEqDiff,reduceAdd,reduceLT,reduceLeDiff,Nat.mul_one,c86,zu,show ¬(1:Int)=0 by decide,Bool.not_false,t5,t6,t8,Bool.not_false,w1,show ¬(600:Int)<(p.length:Int) by omega,show ¬(600:Int)<(q.length:Int) by omega,decide_false,w2,f1]
    simp
 | true=>
  obtain ⟨hp,hq⟩:=hok rfl;have f1:=hfi 0 0;have f2:=hfi 0 4;have w2:=w124 h.h124 false 4;have w3:=w124 h.h124 true 4;have w4:=w124 h.h124 false 1;have w5:=w124 h.h124 true 1;simp only [Bool.not_true,if_true,Bool.false_eq_true,if_false] at w1 w2 w3 w4 w5;rw [show zM [0,0]=0 by decide] at f1;rw [show zM [0,4]=4 by decide] at f2;unfold zx at w1 w2 w3 w4 w5 f1 f2;rw [if_neg (by decide)];by_cases h1:600<p.length
  ·rw [if_pos (.inl h1)];simp only [go_sem,reduceEqDiff,reduceAdd,reduceLT,reduceLeDiff,Nat.mul_one,c86,zu,show ¬(4:Int)=0 by decide,Bool.not_false,t5,t8,Bool.not_true,w1,show (600:Int)<(p.length:Int) by omega,decide_true,w3,f2,decide_false]
  ·by_cases h2:600<q.length
   ·rw [if_pos (.inr h2)];simp only [go_sem,reduceEqDiff,reduceAdd,reduceLT,reduceLeDiff,Nat.mul_one,c86,zu,show ¬(4:Int)=0 by decide,Bool.not_false,t5,t6,t8,Bool.not_true,w1,show ¬(600:Int)<(p.length:Int) by omega,show (600:Int)<(q.length:Int) by omega,decide_true,decide_false,w3,f2]
   ·rw [if_neg (by omega)]
    cases found with
    | false=>
     rw [if_neg (by simp)];simp only [go_sem,reduceEqDiff,reduceAdd,reduceLT,reduceLeDiff,Nat.mul_one,c86,zu,t5,t6,t7,t8,Bool.not_true,w1,show ¬(600:Int)<(p.length:Int) by omega,show ¬(600:Int)<(q.length:Int) by omega,decide_true,decide_false,w2,f1]
    | true=>
     have hpS:=zec _ rfl hp;have hqS:=zec _ rfl (hq rfl);generalize zcD p=n at*
     generalize zcD q=d at*
     subst hpS;subst hqS;obtain ⟨M,hM⟩:∃M:Nat,M=2400:=⟨_,rfl⟩;have bd:∀{m:Nat},(zm m).length≤600→Bd M (m:Int):=fun {m} hm=>by
      have h1:=zhF m;have h2:=zhy (zm m).length;have h3:(2:Nat)^(4*(zm m).length)≤2^M:=Nat.pow_le_pow_right (by decide) (by omega);unfold Bd;rw [Int.natAbs_natCast];exact Nat.lt_of_lt_of_le h1 (Nat.le_trans h2 h3)
     obtain ⟨x,e1,hx⟩:=zww h.toTx (z:=(n:Int)) (by rw [za5];omega);obtain ⟨y,e2,hy⟩:=zww h.toTx (z:=(d:Int)) (by rw [za5];omega);rw [za5] at e1 e2;have kn:=bd (m:=n) (by omega);have kd:=bd (m:=d) (by omega);obtain ⟨g,e3,hg⟩:=zHZ h.toNu hx hy kn kd (by omega);obtain ⟨e4,h1'⟩:=zp8 h.toNu (z:=1) (by decide) (by decide);have kg:Bd M ((Int.gcd (n:Int) (d:Int):Nat):Int):=by
      rcases Nat.eq_zero_or_pos d with h0 | h0
      ·subst h0;simpa using kn
      ·exact kd.le (by have:=Nat.gcd_le_right n h0;simpa using this)
     have e5:=zIa h.toNu hg h1' (K:=M) kg (by unfold Bd;exact Nat.one_lt_two_pow (by omega)) (by omega)
     have hgcd:Int.gcd (n:Int) (d:Int)=Nat.gcd n d:=rfl;rw [hgcd] at e5;obtain ⟨xs,xw,rfl,hx'⟩:=hx;obtain ⟨ys,yw,rfl,hy'⟩:=hy;obtain ⟨gs,gw,rfl,hg'⟩:=hg;obtain ⟨l1,u1⟩:=hx'.isU;obtain ⟨l2,u2⟩:=hy'.isU;obtain ⟨l3,u3⟩:=hg'.isU;unfold zx at e1 e2 e3 e4 e5;by_cases hg1:Nat.gcd n d=1
     ·rw [if_neg (by simp [hg1])];have hs:sgn (((Nat.gcd n d:Nat):Int)-1)=0:=by rw [hg1];rfl
      rw [hs] at e5;simp only [go_sem,reduceEqDiff,reduceAdd,reduceLT,reduceLeDiff,Nat.mul_one,c86,zu,t5,t6,t7,t8,Bool.not_true,w1,show ¬(600:Int)<((zm n).length:Int) by omega,show ¬(600:Int)<((zm d).length:Int) by omega,decide_true,decide_false,w2,f1,e1,e2,u1.frz,u2.frz,u3.frz,zo,zj,e3,e4,e5]
     ·rw [if_pos ⟨rfl,hg1⟩];obtain ⟨c,hc,hc0⟩:∃c,sgn (((Nat.gcd n d:Nat):Int)-1)=c∧c≠0:=⟨_,rfl,fun e=>hg1 (by
       unfold sgn at e
       split at e
       ·exact absurd e (by decide)
       ·split at e
        ·omega
        ·exact absurd e (by decide))⟩
      rw [hc] at e5;simp only [go_sem,reduceEqDiff,reduceAdd,reduceLT,reduceLeDiff,Nat.mul_one,c86,zu,Bool.not_false,t5,t6,t7,t8,Bool.not_true,w1,show ¬(600:Int)<((zm n).length:Int) by omega,show ¬(600:Int)<((zm d).length:Int) by omega,decide_true,decide_false,w2,f1,e1,e2,u1.frz,u2.frz,u3.frz,zo,zj,e3,e4,e5,hc0,Bool.not_false,w5]
theorem m86 (h:Ck P L) {s:List Nat} (hl:s.length≤1000000000):zx P L 86 [.str s] (zh (chk s)):=by
 have key:∀(neg:Bool) (t:List Nat),t.length≤1000000000→zp P L (D P L) 128 [.str s,.str [45]]=some (.tup [.str t,.bool neg])→zx P L 86 [.str s] (zh (zgR neg t)):=by
  intro neg t hl e0;have e1:=zKt h (t:=t) (by omega);obtain ⟨k,hk⟩:∃k,k=zP t:=⟨_,rfl⟩;have hkl:k≤t.length:=by rw [hk];exact zea t
  have e2:=zHS h (p:=t.take k) (by rw [List.length_take];omega);have e3:=zHS h (p:=t.drop (k+1)) (by rw [List.length_drop];omega);have lp:(t.take k).length=k:=by rw [List.length_take];omega
  have lq:(t.drop (k+1)).length=t.length-k-1:=by rw [List.length_drop];omega
  unfold zgR;rw [←hk] at e1 ⊢;generalize hp:t.take k=p at*
  generalize hq:t.drop (k+1)=q at*
  obtain ⟨ok1,hok1⟩:∃ok:Bool,ok=(zbD p&&(!neg|| !(eqL p [48]))):=⟨_,rfl⟩;obtain ⟨ok,hok⟩:∃ok:Bool,ok=(ok1&&(!(decide (k<t.length))||(zbD q&&(!(eqL q [48])&& !(eqL q [49]))))):=⟨_,rfl⟩
  have hfin:(if zbD p=false∨(neg=true∧p=[48]) then 1
    else if k<t.length∧(zbD q=false∨q=[48]∨q=[49]) then 1
    else if 600<k∨600<t.length-k-1 then 4
    else if k<t.length∧Nat.gcd (zcD p) (zcD q)≠1 then 1 else 0:Int)=(if ok=false then 1
    else if 600<p.length∨600<q.length then 4
    else if decide (k<t.length)=true∧Nat.gcd (zcD p) (zcD q)≠1 then 1
    else 0):=by
   rw [lp,lq];have a1:(zbD p=false∨(neg=true∧p=[48]))↔ok1=false:=by
    rw [hok1];cases zbD p<;>cases neg<;>simp
    by_cases e:p=[48]
    ·simp [e,zjA]
    ·simp [e,znf e]
   have a2:ok=false↔(ok1=false∨(k<t.length∧(zbD q=false∨q=[48]∨q=[49]))):=by
    rw [hok];by_cases hs:k<t.length
    ·simp only [hs,decide_true,Bool.not_true,Bool.false_or,true_and];cases ok1<;>cases zbD q<;>simp
     by_cases e:q=[48]
     ·simp [e,zjA]
     ·by_cases e':q=[49]
      ·simp [e',zjA]
      ·simp [e,e',znf e,znf e']
    ·simp [hs]
   by_cases h1:ok1=false
   ·rw [if_pos (a1.2 h1),if_pos (a2.2 (.inl h1))]
   ·rw [if_neg (fun e=>h1 (a1.1 e))];by_cases h2:k<t.length∧(zbD q=false∨q=[48]∨q=[49])
    ·rw [if_pos h2,if_pos (a2.2 (.inr h2))]
    ·rw [if_neg h2,if_neg (fun e=>(a2.1 e).elim h1 h2)];simp only [decide_eq_true_eq]
  rw [hfin];have hokk:ok=true→zbD p=true∧(decide (k<t.length)=true→zbD q=true):=fun e=>by
   rw [hok,Bool.and_eq_true] at e;obtain ⟨e1,e2⟩:=e;rw [hok1,Bool.and_eq_true] at e1;refine ⟨e1.1,fun hs=>?_⟩;rw [hs,Bool.not_true,Bool.false_or,Bool.and_eq_true] at e2;exact e2.1
  have tail:∀tm,zc tm 5= .str p→zc tm 6= .str q→zc tm 7= .bool (decide (k<t.length))→zc tm 8= .bool ok→zdc [.t 2] (D P L (zu (zu (zu (zu (zu c86.body))))) ⟨tm,[],0,0⟩)=_:=fun tm t5 t6 t7 t8=>
   zHF h (by omega) (by omega) hokk t5 t6 t7 t8
  have mid:∀tm,zc tm 5= .str p→zc tm 6= .str q→zc tm 7= .bool (decide (k<t.length))→zc tm 8= .bool ok1→
    ∃tm',D P L (zaf (zu (zu (zu (zu c86.body))))) ⟨tm,[],0,0⟩=some (.normal,⟨tm',[],0,0⟩)∧zc tm' 5= .str p∧zc tm' 6= .str q∧zc tm' 7= .bool (decide (k<t.length))∧zc tm' 8= .bool ok:=fun tm t5 t6 t7 t8=>by
   unfold zx at e3;by_cases hs:k<t.length
   ·rw [decide_eq_true hs] at t7 hok ⊢;simp only [Bool.not_true,Bool.false_or] at hok
    cases ok1 with
    | false=>
     rw [Bool.false_and] at hok;subst hok;refine ⟨_,by simp only [go_sem,reduceEqDiff,c86,zaf,zu,t7,t8]<;>rfl,?_⟩
     simp only [go_sem,reduceEqDiff,t5,t6,t7,true_and]
    | true=>
     rw [Bool.true_and] at hok
     cases hd:zbD q with
     | false=>
      rw [hd] at e3 hok;rw [Bool.false_and] at hok;subst hok;refine ⟨_,by simp only [go_sem,reduceEqDiff,c86,zaf,zu,t6,t7,t8,e3]<;>rfl,?_⟩
      simp only [go_sem,reduceEqDiff,t5,t6,t7,true_and]
     | true=>
      rw [hd] at e3 hok;rw [Bool.true_and] at hok
      cases h48:eqL q [48] with
      | true=>
       rw [h48,Bool.not_true,Bool.false_and] at hok;subst hok;refine ⟨_,by simp only [go_sem,reduceEqDiff,c86,zaf,zu,t6,t7,t8,e3,zeA,h48,Bool.not_true]<;>rfl,?_⟩
       simp only [go_sem,reduceEqDiff,t5,t6,t7,true_and]
      | false=>
       rw [h48,Bool.not_false,Bool.true_and] at hok;subst hok;refine ⟨_,by simp only [go_sem,reduceEqDiff,c86,zaf,zu,t6,t7,t8,e3,zeA,h48,Bool.not_false]<;>rfl,?_⟩
       simp only [go_sem,reduceEqDiff,t5,t6,t7,true_and]
   ·rw [decide_eq_false hs] at t7 hok ⊢;simp only [Bool.not_false,Bool.true_or,Bool.and_true] at hok;subst hok;refine ⟨_,by simp only [go_sem,c86,zaf,zu,t7]<;>rfl,?_⟩
    simp only [go_sem,reduceEqDiff,t5,t6,t7,t8,true_and]
  have fin:∀tm,zc tm 5= .str p→zc tm 6= .str q→zc tm 7= .bool (decide (k<t.length))→zc tm 8= .bool ok1→
    D P L (.seq (zaf c86.body) (.seq (zaf (zu c86.body)) (.seq (zaf (zu (zu c86.body))) (zaf (zu (zu (zu c86.body))))))) ⟨[(0,.str s)],[],0,0⟩=some (.normal,⟨tm,[],0,0⟩)→zx P L 86 [.str s] _:=fun tm t5 t6 t7 t8 e=>by
   obtain ⟨tm',e',f5,f6,f7,f8⟩:=mid tm t5 t6 t7 t8;unfold zx;rw [zd h.h86];show zdc [.t 2] (D P L (.seq (zaf c86.body) (.seq (zaf (zu c86.body)) (.seq (zaf (zu (zu c86.body))) (.seq (zaf (zu (zu (zu c86.body)))) (.seq (zaf (zu (zu (zu (zu c86.body))))) (zu (zu (zu (zu (zu c86.body)))))))))) ⟨[(0,.str s)],[],0,0⟩)=_
   rw [zsD,e,zas,zdh,e',zas];exact tail tm' f5 f6 f7 f8
  unfold zx at e2
  cases hd:zbD p with
  | false=>
   rw [hd] at e2 hok1;rw [Bool.false_and] at hok1;subst hok1;refine fin _ ?_ ?_ ?_ ?_ (by simp only [go_sem,reduceEqDiff,c86,zaf,zu,e0,e1,e2]<;>rfl)<;>simp only [go_sem,reduceEqDiff]
  | true=>
   rw [hd] at e2 hok1;rw [Bool.true_and] at hok1
   cases neg with
   | false=>
    simp only [Bool.not_false,Bool.true_or] at hok1;subst hok1;refine fin _ ?_ ?_ ?_ ?_ (by simp only [go_sem,reduceEqDiff,c86,zaf,zu,e0,e1,e2,Bool.not_false]<;>rfl)<;>simp only [go_sem,reduceEqDiff]
   | true=>
    simp only [Bool.not_true,Bool.false_or] at hok1;subst hok1;refine fin _ ?_ ?_ ?_ ?_ (by simp only [go_sem,reduceEqDiff,c86,zaf,zu,e0,e1,e2,Bool.not_true,zeA]<;>rfl)<;>simp only [go_sem,reduceEqDiff]
 unfold chk;have e0:=zKd h s
 cases s with
 | nil=>exact key false [] (by simp) e0
 | cons b r=>
  by_cases hb:b=45
  ·subst hb;simp only [if_true];exact key true r (by simp at hl;omega) e0
  ·simp only [hb,if_false];rw [if_neg (by simpa using hb)] at e0;exact key false (b::r) hl e0
end
end VE
end
section
namespace VE
open Go (IntKind)
def LN (z:Int):Bool:=decide (600<(zm z.natAbs).length)
def LG (r:Rat):Bool:=LN r.num||LN (r.den:Int)
theorem zgV {m B k:Nat} (hB:B≤3*k) (hk:0<k) (h:m<2^B):(zm m).length≤k:=by
 obtain ⟨j,rfl⟩:∃j,k=j+1:=⟨k-1,by omega⟩;refine zct (Nat.lt_of_lt_of_le h (Nat.le_trans (Nat.pow_le_pow_right (by decide) hB) ?_));rw [Nat.pow_mul];exact Nat.pow_le_pow_left (by decide) _
theorem zmN:∀f n:Nat,zb5 f n≤f
 | 0,_=>Nat.le_refl _
 | f+1,n=>by
  unfold zb5
  cases Nat.beq n 0 with
  | true=>exact Nat.zero_le _
  | false=>have:=zmN f (n/2);simp only [cond_false];omega
theorem zDt {P:zQ} {L:Lib} {f:Run} (h:L.pure 175=some zkr) {x:Nat} (hx:x<18446744073709551616):zp P L f 175 [uc x]=some (zh (zb5 64 x:Nat)):=by
 rw [zaK h];show (bif Nat.blt x 18446744073709551616 then _ else none)=_
 rw [zdx hx];rfl
theorem zBd {V n top low:Nat} (hn:0<n) (h0:0<top) (ht:top<18446744073709551616) (hV:V=low+18446744073709551616^(n-1)*top) (hl:low<18446744073709551616^(n-1)):V<2^(64*(n-1)+zb5 64 top):=by
 obtain ⟨l1,l2,l3⟩:=zkc h0 ht;have hle:=zmN 64 top;have h1:top<2^zb5 64 top:=by
  have e:(18446744073709551616:Nat)=2^zb5 64 top*2^(64-zb5 64 top):=by rw [←Nat.pow_add,show zb5 64 top+(64-zb5 64 top)=64 by omega]
  rw [e] at l3;exact Nat.lt_of_mul_lt_mul_right l3
 have h2:V<18446744073709551616^(n-1)*(top+1):=by rw [hV,Nat.mul_add,Nat.mul_one];omega
 have h3:=Nat.mul_le_mul_left (18446744073709551616^(n-1)) (show top+1≤2^zb5 64 top from h1);rw [Nat.pow_add,Nat.pow_mul];exact Nat.lt_of_lt_of_le h2 h3
section
variable {P:zQ} {L:Lib}
theorem zJU (h:Tx P L) {v:AV} {z:Int} {K:Nat} (hv:IsN v z) (hz:Bd K z) (hK:K≤4000000000):∃B:Nat,zx P L 172 [v] (zh B)∧z.natAbs<2^B∧B≤300000000000:=by
 obtain ⟨s,w,rfl,hn⟩:=hv;obtain ⟨l,u⟩:=hn.isU;obtain ⟨r,e1,hr⟩:=zmO h.toNu hn;obtain ⟨ws,hw,g,nz',hb⟩:=hr;have hl:ws.length≤4000000000:=Nat.le_trans (ziH nz' hb (Nat.lt_of_lt_of_le hz (zfp K))) hK;unfold zx at e1 ⊢;by_cases h0:ws=[]
 ·subst h0;have hz0:z.natAbs=0:=by rw [←hb];rfl
  refine ⟨0,?_,by rw [hz0];decide,by omega⟩
  rw [zd h.h172];simp only [go_sem,reduceEqDiff,reduceAdd,zzP,zi,z8,zj,u.pu,u.frz,u.one,e1,hw.len,List.length_nil,show ((0:Nat):Int)=0 from rfl,decide_true]
 ·have hp:0<ws.length:=List.length_pos_iff.2 h0;have hlast:=zhz nz' h0;have hlW:=zbe (show 0<18446744073709551616 by decide) g (ws.length-1);have ei:=hw.ixa (i:=ws.length-1) (by omega);have htk:=zba (b:=18446744073709551616) (l:=ws) (ws.length-1);have hlow:=zei (zeC g (ws.length-1));rw [List.length_take,Nat.min_eq_left (by omega)] at hlow;rw [show ws.length-1+1=ws.length by omega,List.take_of_length_le (Nat.le_refl _)] at htk;generalize ws.getD (ws.length-1) 0=top at*
  have e2:=zDt (P:=P) (f:=D P L) h.h175 hlW;have hle:=zmN 64 top;have hbits:=zBd hp (Nat.pos_of_ne_zero hlast) hlW htk hlow;rw [hb] at hbits;refine ⟨64*(ws.length-1)+zb5 64 top,?_,hbits,by omega⟩;rw [zd h.h172]
  simp only [go_sem,reduceEqDiff,reduceAdd,zzP,zi,z8,zj,u.pu,u.frz,u.one,e1,hw.len,show ¬(ws.length:Int)=0 by omega,show (ws.length:Int)-1=((ws.length-1:Nat):Int) by omega,zF (n:=ws.length-1) (by omega),show (64:Int)*((ws.length-1:Nat):Int)=((64*(ws.length-1):Nat):Int) by omega,zF (n:=64*(ws.length-1)) (by omega),ei,e2,show ((64*(ws.length-1):Nat):Int)+((zb5 64 top:Nat):Int)=((64*(ws.length-1)+zb5 64 top:Nat):Int) from rfl,zF (n:=64*(ws.length-1)+zb5 64 top) (by omega)]
theorem ztw (z:Int):(if zbR [45] (zS z)=true then (zS z).drop 1 else zS z)=zm z.natAbs:=by
 by_cases h:z<0
 ·rw [zaV h];rfl
 ·obtain ⟨m,rfl⟩:∃m:Nat,z=m:=⟨z.toNat,by omega⟩;rw [za5];obtain ⟨b,r,hb,h1,_⟩:=zee m;rw [Int.natAbs_natCast,hb,zir h1];rfl
theorem zGs (h:Tx P L) {v:AV} {z:Int} {K:Nat} (hv:IsN v z) (hz:Bd K z) (hK:K≤4000000000):zx P L 151 [v] (.bool (LN z)):=by
 obtain ⟨B,e1,hB,hBb⟩:=zJU h hv hz hK;have e2:=m99 h hv hz hK;obtain ⟨s,w,rfl,hn⟩:=hv;obtain ⟨l,u⟩:=hn.isU;have e3:zp P L (D P L) 153 [.str (zS z),.str [45]]=some (.str (zm z.natAbs)):=by
  rw [zaK h.h153,←ztw];show some (AV.str (bif zbR [45] (zS z) then (zS z).drop 1 else zS z))=_
  cases zbR [45] (zS z)<;>rfl
 unfold zx at e1 e2 ⊢;rw [zd h.h151];unfold LN;by_cases h1:1800<B
 ·simp only [go_sem,reduceEqDiff,reduceAdd,zzL,zi,z8,zj,u.pu,u.frz,u.one,e1,show (1800:Int)<(B:Int) by omega,decide_true,e2,e3];by_cases h2:600<(zm z.natAbs).length
  ·rw [decide_eq_true h2,decide_eq_true (by omega)]
  ·rw [decide_eq_false h2,decide_eq_false (by omega)]
 ·have h2:=zgV (k:=600) (by omega) (by decide) hB;rw [decide_eq_false (by omega)];simp only [go_sem,reduceEqDiff,reduceAdd,zzL,zi,z8,zj,u.pu,u.frz,u.one,e1,show ¬(1800:Int)<(B:Int) by omega,decide_false]
theorem zGP (h:Tx P L) {v:AV} {a:Rat} {K:Nat} (hv:IsQ v a) (ka:Hq K a) (hK:K≤4000000000):zx P L 107 [v] (.bool (LG a)):=by
 obtain ⟨s1,w1,s2,w2,rfl,h1,h2⟩:=hv;have e1:=zGs h ⟨s1,w1,rfl,h1⟩ ka.1 hK;have e2:=zGs h ⟨s2,w2,rfl,h2⟩ ka.2 hK;obtain ⟨l1,u1⟩:=h1.isU;obtain ⟨l2,u2⟩:=h2.isU;unfold zx at e1 e2 ⊢;rw [zd h.h107];unfold LG
 cases hb:LN a.num with
 | true=>
  rw [hb] at e1;simp only [go_sem,reduceEqDiff,reduceAdd,zAR,zi,zk,Nat.zero_add,z8,zj,u1.pu,u1.frz,u1.one,u2.pu,u2.one,e1];rfl
 | false=>
  rw [hb] at e1;simp only [go_sem,reduceEqDiff,reduceAdd,zAR,zi,zk,Nat.zero_add,show List.drop 2 [zh s1,w1,zh s2,w2]=[zh s2,w2] from rfl,z8,zj,u1.pu,u1.frz,u1.one,u2.pu,u2.frz,u2.one,e1,e2];rfl
end
end VE
end
section
namespace VE
open Go (IntKind)
def IsT (v:AV) (l:List (List Nat)):Prop:=IsL v (l.map AV.str)
section
variable {v:AV} {l:List (List Nat)}
theorem IsT.len (h:IsT v l) {hp:Hp}:zcs hp 1 v=some (.int .i64 (l.length:Nat)):=by
 have:=IsL.len (hp:=hp) h
 rwa [List.length_map] at this
theorem IsT.pu (h:IsT v l):zD v=true:=IsL.pu h
theorem IsT.frz (h:IsT v l) (n:Nat) {hp:Hp}:zah (n+1) hp v=some (v,hp):=IsL.frz h n
theorem IsT.shut (h:IsT v l):VE.shut v=v:=IsL.shut h
theorem IsT.shut1 (h:IsT v l):VE.shut1 v=v:=IsL.shut1 h
theorem IsT.res (h:IsT v l) {hp:Hp}:zaP hp v=some v:=IsL.res h
theorem IsT.one (h:IsT v l):zX v=true:=IsL.one h
theorem IsT.cells (h:IsT v l):cellsOf v=[v]:=IsL.cells h
theorem IsT.ixa (h:IsT v l) {i:Nat} (hi:i<l.length):zdG 1 i v=some (.vptr (.str l[i]::(l.map AV.str).drop (i+1))):=by
 have:=IsL.ixa h (i:=i) (by simpa using hi)
 rw [this];simp
theorem zzA (e:Bool) (l:List (List Nat)):IsT (.vsl e l.length (l.map AV.str)) l:=by
 have:=znw e (l.map AV.str)
 rwa [List.length_map] at this
end
section
variable {P:zQ} {L:Lib}
theorem zzn (h:Rn P L) {a:Rat} {K:Nat} (ka:Hq K a) (hK:K≤4000000000):zp P L (D P L) 284 [.str (RT a)]=some (.str (zS a.num))∧zp P L (D P L) 285 [.str (zS a.num)]=some (.str (zm a.num.natAbs))∧zp P L (D P L) 286 [.str (RT a)]=some (.str (zm a.den)):=by
 have hl:=zeR ka;have e0:=zsQ h.h272 (s:=RT a) (by omega);have hns:=zgF a.num;have hli:=zef ka.1;have hcut:zP (RT a)=(zS a.num).length∧(RT a).take (zS a.num).length=zS a.num:=by
  unfold RT;by_cases hd:a.den=1
  ·rw [if_pos hd,List.append_nil]
   have:=zdO a.num []
   rw [List.append_nil] at this;exact ⟨by rw [this];simp [zP],List.take_length⟩
  ·rw [if_neg hd];exact ⟨by rw [zdO];simp [zP],List.take_left⟩
 obtain ⟨hc1,hc2⟩:=hcut;rw [hc1] at e0;have hlen:(zS a.num).length≤(RT a).length:=by unfold RT;simp
 have e1:zp P L (D P L) 284 [.str (RT a)]=some (.str (zS a.num)):=by
  unfold zx at e0;rw [zd h.h284]
  have:=znJ (s:=RT a) hlen
  simp only [go_sem,reduceEqDiff,zFA,e0,zaj,zaq,zaa,this,hc2]
 have hT:zS a.num=TT a.num 1:=by unfold TT;simp
 have e2:zp P L (D P L) 285 [.str (zS a.num)]=some (.str (zm a.num.natAbs)):=by
  have e:=zCg h (n:=a.num) (d:=1) (by rw [←hT];omega) (fun _=>rfl);rw [←hT] at e;unfold zx at e;rw [zd h.h285];by_cases h0:a.num<0
  ·have es:sgn a.num= -1:=by unfold sgn;rw [if_pos h0]
   rw [es] at e;rw [zaV h0] at e ⊢;have hc:=zh6 (s:=45::zm a.num.natAbs) (k:=1) (by simp);simp only [List.drop_succ_cons,List.drop_zero,List.length_cons] at hc;simp only [go_sem,reduceEqDiff,zzY,e,show (-1:Int)<0 by decide,zaj,zaq,zaa,hc]
  ·have es:¬sgn a.num<0:=by unfold sgn;rw [if_neg h0];split<;>decide
   have hi:zS a.num=zm a.num.natAbs:=by
    obtain ⟨m,hm⟩:∃m:Nat,a.num=m:=⟨a.num.toNat,by omega⟩;rw [hm,za5,Int.natAbs_natCast]
   simp only [go_sem,reduceEqDiff,zzY,e,es];rw [hi]
 have e3:zp P L (D P L) 286 [.str (RT a)]=some (.str (zm a.den)):=by
  unfold zx at e0;rw [zd h.h286];by_cases hd:a.den=1
  ·have hR:(RT a).length=(zS a.num).length:=by unfold RT;rw [if_pos hd];simp
   rw [hd,show zm 1=[49] by decide];simp only [go_sem,reduceEqDiff,zz0,e0,show ((zS a.num).length:Int)=((RT a).length:Int) by omega,decide_true]
  ·have hR:RT a=(zS a.num++[47])++zm a.den:=by unfold RT;rw [if_neg hd];simp
   have hRl:(RT a).length=(zS a.num).length+1+(zm a.den).length:=by rw [hR];simp;omega
   have hp:=zbr a.den;have hc:=zh6 (s:=RT a) (k:=(zS a.num).length+1) (by omega);have hdr:(RT a).drop ((zS a.num).length+1)=zm a.den:=by
    rw [hR,show (zS a.num).length+1=(zS a.num++[47]).length by simp,List.drop_left]
   rw [hdr] at hc
   simp only [go_sem,reduceEqDiff,zz0,e0,show ¬((zS a.num).length:Int)=((RT a).length:Int) by omega,show ((zS a.num).length:Int)+1=(((zS a.num).length+1:Nat):Int) from rfl,zF (n:=(zS a.num).length+1) (by omega),zaj,zaq,zaa,hc]
 exact ⟨e1,e2,e3⟩
theorem zsv {l:List (List Nat)} {i:Nat} (h:i<l.length):zM ((l.drop i).map chk)=if chk l[i]=0 then zM ((l.drop (i+1)).map chk) else chk l[i]:=by
 rw [List.drop_eq_getElem_cons h];rfl
theorem zH3 (h:Rn P L) (h261:Has P L 261 zAV) {v:AV} {l:List (List Nat)} (hv:IsT v l) (hl:l.length≤1000000) (hs:∀s,s∈l→s.length≤1000000000):zx P L 261 [v] (zh (zM (l.map chk))):=by
 have key:=zL (P:=P) (L:=L) (live:=[0,3]) (a:=ziD)
  (I:=fun k st=>∃i:Nat,st=⟨[(0,v),(3,zh i)],[],0,0⟩∧i+k=l.length∧zM ((l.drop i).map chk)=zM (l.map chk))
  (Q:=fun ex st=>∃tm ct,st=⟨tm,[],ct,0⟩∧((ex= .ret∧zc tm 2=zh (zM (l.map chk)))∨(ex= .exit 0∧zM (l.map chk)=0))) ?_
 ·unfold zx;rw [zd h261];simp only [go_sem,zAV];generalize hq:D P L (.loop [0,3] ziD) _=q;obtain ⟨ex,st,rfl,tm,ct,rfl,h2⟩:=zY hq (key l.length) ⟨0,by simp only [go_sem,reduceEqDiff,za,zb hv.pu,ze _ hv.pu]<;>rfl,by omega,by simp⟩
  rcases h2 with ⟨rfl,h2⟩ | ⟨rfl,h3⟩
  ·simp only [go_sem,h2]
  ·simp only [go_sem,za,h3]
 ·rintro k st ⟨i,rfl,hk,hd⟩;by_cases hi:i<l.length
  ·rw [zsv hi] at hd;have e1:=zDX h (hs l[i] (List.getElem_mem hi));have ev:=hv.ixa hi;unfold zx at e1;by_cases h1:chk l[i]=0
   ·left
    rw [if_pos h1] at hd;rw [h1] at e1;simp only [go_sem,reduceEqDiff,ziD,hv.len,show (i:Int)<l.length by omega,ev,e1,decide_true,Bool.not_true];refine ⟨_,k-1,rfl,by omega,i+1,?_,by omega,hd⟩;rw [zf (by omega) (by omega)];simp only [go_sem,reduceEqDiff,za,zb hv.pu,ze _ hv.pu]<;>rfl
   ·right
    rw [if_neg h1] at hd;simp only [go_sem,reduceEqDiff,ziD,hv.len,show (i:Int)<l.length by omega,ev,e1,h1,decide_false,Bool.not_false];refine ⟨_,_,rfl,by simp,_,_,rfl,.inl ⟨rfl,?_⟩⟩;rw [←hd];simp only [go_sem]
  ·right
   simp only [go_sem,reduceEqDiff,ziD,hv.len,show ¬(i:Int)<l.length by omega];refine ⟨_,_,rfl,by simp,_,_,rfl,.inr ⟨rfl,?_⟩⟩;rw [←hd,List.drop_eq_nil_of_le (by omega)];rfl
end
end VE
end
