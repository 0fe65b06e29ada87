import Derived.Test.YtahpdocnbjccfaaGreatDoorTbu
import Derived.Test.YtahpdocnbjccfaaGreatDoorTbt
set_option linter.all false
set_option maxRecDepth 100000
open Nat (reduceAdd reduceEqDiff reduceLT reduceLeDiff)
section
namespace VE
open Go (IntKind)
theorem zoU (i:Nat):ztP i [48,49,50,51,52,53,54,55,56,57]=(Nat.ble 48 i&&Nat.ble i 57):=by
 by_cases h:48≤i∧i≤57
 ·obtain ⟨h1,h2⟩:=h
  obtain ⟨k,rfl⟩:∃k,i=48+k:=⟨i-48,by omega⟩
  have:k<10:=by omega
  rcases (show k=0∨k=1∨k=2∨k=3∨k=4∨k=5∨k=6∨k=7∨k=8∨k=9 by omega) with rfl | rfl | rfl | rfl | rfl | rfl | rfl | rfl | rfl | rfl<;>rfl
 ·have e:(Nat.ble 48 i&&Nat.ble i 57)=false:=by
   cases h1:Nat.ble 48 i with
   | false=>rfl
   | true=>
    cases h2:Nat.ble i 57 with
    | false=>rfl
    | true=>exact absurd ⟨Nat.le_of_ble_eq_true h1,Nat.le_of_ble_eq_true h2⟩ h
  rw [e]
  have ne:∀c,48≤c→c≤57→Nat.beq c i=false:=fun c h1 h2=>zaP (by omega)
  simp only [ztP,ne 48 (by decide) (by decide),ne 49 (by decide) (by decide),ne 50 (by decide) (by decide),ne 51 (by decide) (by decide),ne 52 (by decide) (by decide),ne 53 (by decide) (by decide),ne 54 (by decide) (by decide),ne 55 (by decide) (by decide),ne 56 (by decide) (by decide),ne 57 (by decide) (by decide),cond_false]
theorem zih:∀l:List Nat,zcY [48,49,50,51,52,53,54,55,56,57] l=[]↔zbo l=true
 | []=>by simp [zcY,zbo]
 | b::r=>by
  simp only [zcY,zbo,zoU]
  cases hb:(Nat.ble 48 b&&Nat.ble b 57) with
  | true=>simp only [cond_true,Bool.true_and];exact zih r
  | false=>simp
theorem zhx:∀l:List Nat,zbo l.reverse=zbo l
 | []=>rfl
 | b::r=>by rw [List.reverse_cons,zeC,zhx r];simp [zbo,Bool.and_comm]
theorem zht:∀l:List Nat,zbo l=false→zbo (zcY [48,49,50,51,52,53,54,55,56,57] l)=false
 | [],h=>by simp [zbo] at h
 | b::r,h=>by
  simp only [zcY,zoU]
  cases hb:(Nat.ble 48 b&&Nat.ble b 57) with
  | true=>
   simp only [cond_true]
   simp only [zbo,hb,Bool.true_and] at h
   exact zht r h
  | false=>simp only [cond_false];exact h
theorem zuo (p:List Nat):eqL (zcY [48,49,50,51,52,53,54,55,56,57] (zcY [48,49,50,51,52,53,54,55,56,57] p.reverse).reverse) []=zbo p:=by
 cases hd:zbo p with
 | true=>
  have h1:=(zih p.reverse).2 (by rw [zhx];exact hd)
  rw [h1];rfl
 | false=>
  have h1:=zht p.reverse (by rw [zhx];exact hd)
  have h2:zbo (zcY [48,49,50,51,52,53,54,55,56,57] p.reverse).reverse=false:=by rw [zhx];exact h1
  cases hq:zcY [48,49,50,51,52,53,54,55,56,57] (zcY [48,49,50,51,52,53,54,55,56,57] p.reverse).reverse with
  | nil=>have:=(zih _).1 hq;rw [h2] at this;exact absurd this (by decide)
  | cons b r=>rfl
theorem zhu:∀(t:List Nat) (k:Nat),zcw [47] t k=if zO t<t.length then some (k+zO t) else none
 | [],k=>by simp [zcw,zbM,zO]
 | b::r,k=>by
  by_cases hb:b=47
  ·subst hb
   have e:zO (47::r)=0:=by simp [zO]
   rw [e,if_pos (by simp)];rfl
  ·have e:zO (b::r)=zO r+1:=by simp [zO,hb]
   have hp:zbM [47] (b::r)=false:=by rw [zeN];exact zaP (fun e=>hb e.symm)
   rw [e,zcw,hp,cond_false,zhu r (k+1)]
   by_cases h:zO r<r.length
   ·rw [if_pos h,if_pos (by simpa using h)];congr 1;omega
   ·rw [if_neg h,if_neg (by simpa using h)]
theorem zdY (a b:List Nat):binOp .neq (.str a) (.str b)=some (.bool (!(eqL a b))):=rfl
structure Ck (P:zP) (L:Lib):Prop extends Tx P L where
 h128:L.pure 128=some zfb
 h162:L.pure 162=some trimS
 h86:Has P L 86 c86
 h124:Has P L 124 ztQ
 h125:Has P L 125 zyt
 h129:Has P L 129 zsz
section
variable {P:zP} {L:Lib}
theorem w124 (h:Has P L 124 ztQ) (b:Bool) (n:Int):zn P L 124 [.bool b,zf n] (zf (if b=true then n else 0)):=Nd.w124 h b n
theorem zH4 (h:Ck P L) {p:List Nat} (hl:p.length≤4000000000):zn P L 129 [.str p] (.bool (zbI p)):=by
 have e1:zx P L (D P L) 162 [.str p,.str [48,49,50,51,52,53,54,55,56,57]]=some (.str (zcY [48,49,50,51,52,53,54,55,56,57] (zcY [48,49,50,51,52,53,54,55,56,57] p.reverse).reverse)):=by
  rw [zaJ h.h162]
  show (bif ziE [48,49,50,51,52,53,54,55,56,57]&&(Nat.blt p.length 4294967281&&Nat.blt 10 4294967281) then _ else none)=_
  rw [zdB (by omega)];rfl
 have e2:=zuo p
 generalize zcY [48,49,50,51,52,53,54,55,56,57] (zcY [48,49,50,51,52,53,54,55,56,57] p.reverse).reverse=u at*
 unfold zn;rw [zc h.h129]
 match p,e1,e2 with
 | [],_,_=>
  simp only [go_sem,reduceEqDiff,zsz,zdY,show eqL [] []=true from rfl,Bool.not_true]
  rfl
 | b::r,e1,e2=>
  have hI:zeD 0 (.str (b::r))=some (.int .u8 (b:Nat)):=rfl
  have h0:eqL (b::r) []=false:=rfl
  have hd:zbI (b::r)=(zbo (b::r)&&(!(Nat.beq b 48)||r.isEmpty)):=rfl
  rw [hd]
  cases hdg:zbo (b::r) with
  | false=>
   rw [hdg] at e2
   simp only [go_sem,reduceEqDiff,zsz,zdY,h0,Bool.not_false,e1,zaS,e2,Bool.false_and]
  | true=>
   rw [hdg] at e2
   by_cases hb:b=48
   ·subst hb
    have e3:eqL (48::r) [48]=r.isEmpty:=by
     cases r with
     | nil=>rfl
     | cons c r=>rfl
    have hI':zeD 0 (.str (48::r))=some (.int .u8 48):=rfl
    simp only [go_sem,reduceEqDiff,zsz,zdY,h0,Bool.not_false,e1,zaS,e2,hI',decide_true,Bool.not_true,e3]
    rfl
   ·have:Nat.beq b 48=false:=zaP hb
    rw [this]
    simp only [go_sem,reduceEqDiff,zsz,zdY,h0,Bool.not_false,e1,zaS,e2,hI,show ¬((b:Nat):Int)=48 by omega,decide_false,Bool.not_false]
    rfl
theorem zJC (h:Ck P L) (s:List Nat):zx P L (D P L) 128 [.str s,.str [45]]=some (if s.head? =some 45 then .tup [.str s.tail,.bool true] else .tup [.str s,.bool false]):=by
 rw [zaJ h.h128]
 show some (bif zbM [45] s then AV.tup [.str (s.drop 1),.bool true] else .tup [.str s,.bool false])=_
 cases s with
 | nil=>rfl
 | cons b r=>
  by_cases hb:b=45
  ·subst hb;rfl
  ·have:zbM [45] (b::r)=false:=by rw [zeN];exact zaP (fun e=>hb e.symm)
   rw [this,if_neg (by simpa using hb)];rfl
theorem zJA (h:Ck P L) {t:List Nat} (hl:t.length≤4000000000):zx P L (D P L) 109 [.str t,.str [47]]=some (.tup [.str (t.take (zO t)),.str (t.drop (zO t+1)),.bool (decide (zO t<t.length))]):=by
 rw [zaJ h.h109]
 show (bif Nat.blt t.length 4294967281 then (match zcw [47] t 0 with | some i=>some (AV.tup [.str (t.take i),.str (t.drop (i+1)),.bool true]) | none=>some (AV.tup [.str t,.str [],.bool false])) else none)=_
 rw [zdB (by omega),zhu]
 have hle:=zd6 t
 by_cases hs:zO t<t.length
 ·simp only [hs,if_true,decide_true,Nat.zero_add,cond_true]
 ·rw [if_neg hs,decide_eq_false hs,List.take_of_length_le (by omega),List.drop_eq_nil_of_le (by omega)];rfl
theorem zo5 {P:zP} {L:Lib} (a b c d:VC) (s:St):D P L (.seq a (.seq b (.seq c d))) s=zev P L (D P L (.seq a (.seq b c)) s) d:=by
 have e:=zef (P:=P) (L:=L) b c d
 rw [zc6,zc6]
 cases D P L a s with
 | none=>rfl
 | some q=>
  obtain ⟨ex,st⟩:=q
  cases ex with
  | normal=>rw [zaB,zaB];exact e st
  | ret=>rfl
  | exit id=>rfl
theorem zsg {P:zP} {L:Lib} (a b c d f:VC) (s:St):D P L (.seq a (.seq b (.seq c (.seq d f)))) s=zev P L (D P L (.seq a (.seq b (.seq c d))) s) f:=by
 have e:=zo5 (P:=P) (L:=L) b c d f
 rw [zc6,zc6]
 cases D P L a s with
 | none=>rfl
 | some q=>
  obtain ⟨ex,st⟩:=q
  cases ex with
  | normal=>rw [zaB,zaB];exact e st
  | ret=>rfl
  | exit id=>rfl
theorem zjr {a b:List Nat} (h:a=b):eqL a b=true:=by
 subst h
 induction a with
 | nil=>rfl
 | cons x a ih=>simp [eqL,ih]
theorem zmE {a b:List Nat} (h:a≠b):eqL a b=false:=by
 cases hb:eqL a b with
 | false=>rfl
 | true=>
  exact absurd (by
   clear h
   revert b
   induction a with
   | nil=>intro b hb;cases b with | nil=>rfl | cons y b=>simp [eqL] at hb
   | cons x a ih=>
    intro b hb
    cases b with
    | nil=>simp [eqL] at hb
    | cons y b=>
     simp only [eqL,Bool.and_eq_true] at hb
     rw [Nat.eq_of_beq_eq_true hb.1,ih hb.2]) h
theorem zGJ (h:Ck P L) {p q:List Nat} {ok found:Bool} (lp:p.length≤1000000000) (lq:q.length≤1000000000) (hok:ok=true→zbI p=true∧(found=true→zbI q=true)) {tm:Env} (t5:zd tm 5= .str p) (t6:zd tm 6= .str q) (t7:zd tm 7= .bool found) (t8:zd tm 8= .bool ok):
  zdl [.t 2] (D P L (zo (zo (zo (zo (zo c86.body))))) ⟨tm,[],0,0⟩)=some (zf (
   if ok=false then 1
   else if 600<p.length∨600<q.length then 4
   else if found=true∧Nat.gcd (zcU p) (zcU q)≠1 then 1
   else 0)):=by
 have w1:=w124 h.h124 (!ok) 1
 have hfi:∀a b:Int,zn P L 125 [.vsl true 2 [zf a,zf b]] (zf (zG [a,b])):=fun a b=>Nd.w125 h.h125 (zaY true [a,b]) (by simp)
 cases ok with
 | false=>
  have f1:=hfi 1 0
  have f2:=hfi 1 4
  have w2:=w124 h.h124 false 4
  have w3:=w124 h.h124 true 4
  simp only [Bool.not_false,if_true,Bool.false_eq_true,if_false] at w1 w2 w3
  rw [show zG [1,0]=1 by decide] at f1
  rw [show zG [1,4]=1 by decide] at f2
  unfold zn at w1 w2 w3 f1 f2
  by_cases h1:600<p.length
  ·simp only [go_sem,reduceEqDiff,reduceAdd,reduceLT,reduceLeDiff,Nat.mul_one,c86,zo,show ¬(1:Int)=0 by decide,Bool.not_false,t5,t8,Bool.not_false,w1,show (600:Int)<(p.length:Int) by omega,decide_true,w3,f2,decide_false]
   simp
  ·by_cases h2:600<q.length
   ·simp only [go_sem,reduceEqDiff,reduceAdd,reduceLT,reduceLeDiff,Nat.mul_one,c86,zo,show ¬(1:Int)=0 by decide,Bool.not_false,t5,t6,t8,Bool.not_false,w1,show ¬(600:Int)<(p.length:Int) by omega,show (600:Int)<(q.length:Int) by omega,decide_true,decide_false,w3,f2]
    simp
   ·simp only [go_sem,reduceEqDiff,reduceAdd,reduceLT,reduceLeDiff,Nat.mul_one,c86,zo,show ¬(1:Int)=0 by decide,Bool.not_false,t5,t6,t8,Bool.not_false,w1,show ¬(600:Int)<(p.length:Int) by omega,show ¬(600:Int)<(q.length:Int) by omega,decide_false,w2,f1]
    simp
 | true=>
  obtain ⟨hp,hq⟩:=hok rfl
  have f1:=hfi 0 0
  have f2:=hfi 0 4
  have w2:=w124 h.h124 false 4
  have w3:=w124 h.h124 true 4
  have w4:=w124 h.h124 false 1
  have w5:=w124 h.h124 true 1
  simp only [Bool.not_true,if_true,Bool.false_eq_true,if_false] at w1 w2 w3 w4 w5
  rw [show zG [0,0]=0 by decide] at f1
  rw [show zG [0,4]=4 by decide] at f2
  unfold zn at w1 w2 w3 w4 w5 f1 f2
  rw [if_neg (by decide)]
  by_cases h1:600<p.length
  ·rw [if_pos (.inl h1)]
   simp only [go_sem,reduceEqDiff,reduceAdd,reduceLT,reduceLeDiff,Nat.mul_one,c86,zo,show ¬(4:Int)=0 by decide,Bool.not_false,t5,t8,Bool.not_true,w1,show (600:Int)<(p.length:Int) by omega,decide_true,w3,f2,decide_false]
  ·by_cases h2:600<q.length
   ·rw [if_pos (.inr h2)]
    simp only [go_sem,reduceEqDiff,reduceAdd,reduceLT,reduceLeDiff,Nat.mul_one,c86,zo,show ¬(4:Int)=0 by decide,Bool.not_false,t5,t6,t8,Bool.not_true,w1,show ¬(600:Int)<(p.length:Int) by omega,show (600:Int)<(q.length:Int) by omega,decide_true,decide_false,w3,f2]
   ·rw [if_neg (by omega)]
    cases found with
    | false=>
     rw [if_neg (by simp)]
     simp only [go_sem,reduceEqDiff,reduceAdd,reduceLT,reduceLeDiff,Nat.mul_one,c86,zo,t5,t6,t7,t8,Bool.not_true,w1,show ¬(600:Int)<(p.length:Int) by omega,show ¬(600:Int)<(q.length:Int) by omega,decide_true,decide_false,w2,f1]
    | true=>
     have hpS:=zd5 _ rfl hp
     have hqS:=zd5 _ rfl (hq rfl)
     generalize zcU p=n at*
     generalize zcU q=d at*
     subst hpS
     subst hqS
     obtain ⟨M,hM⟩:∃M:Nat,M=2400:=⟨_,rfl⟩
     have bd:∀{m:Nat},(zq m).length≤600→Bd M (m:Int):=fun {m} hm=>by
      have h1:=zhb m
      have h2:=zhC (zq m).length
      have h3:(2:Nat)^(4*(zq m).length)≤2^M:=Nat.pow_le_pow_right (by decide) (by omega)
      unfold Bd
      rw [Int.natAbs_natCast]
      exact Nat.lt_of_lt_of_le h1 (Nat.le_trans h2 h3)
     obtain ⟨x,e1,hx⟩:=zu1 h.toTx (z:=(n:Int)) (by rw [zbg];omega)
     obtain ⟨y,e2,hy⟩:=zu1 h.toTx (z:=(d:Int)) (by rw [zbg];omega)
     rw [zbg] at e1 e2
     have kn:=bd (m:=n) (by omega)
     have kd:=bd (m:=d) (by omega)
     obtain ⟨g,e3,hg⟩:=zG1 h.toNu hx hy kn kd (by omega)
     obtain ⟨e4,h1'⟩:=zpS h.toNu (z:=1) (by decide) (by decide)
     have kg:Bd M ((Int.gcd (n:Int) (d:Int):Nat):Int):=by
      rcases Nat.eq_zero_or_pos d with h0 | h0
      ·subst h0;simpa using kn
      ·exact kd.le (by have:=Nat.gcd_le_right n h0;simpa using this)
     have e5:=zHu h.toNu hg h1' (K:=M) kg (by unfold Bd;exact Nat.one_lt_two_pow (by omega)) (by omega)
     have hgcd:Int.gcd (n:Int) (d:Int)=Nat.gcd n d:=rfl
     rw [hgcd] at e5
     obtain ⟨xs,xw,rfl,hx'⟩:=hx
     obtain ⟨ys,yw,rfl,hy'⟩:=hy
     obtain ⟨gs,gw,rfl,hg'⟩:=hg
     obtain ⟨l1,u1⟩:=hx'.isU
     obtain ⟨l2,u2⟩:=hy'.isU
     obtain ⟨l3,u3⟩:=hg'.isU
     unfold zn at e1 e2 e3 e4 e5
     by_cases hg1:Nat.gcd n d=1
     ·rw [if_neg (by simp [hg1])]
      have hs:sgn (((Nat.gcd n d:Nat):Int)-1)=0:=by rw [hg1];rfl
      rw [hs] at e5
      simp only [go_sem,reduceEqDiff,reduceAdd,reduceLT,reduceLeDiff,Nat.mul_one,c86,zo,t5,t6,t7,t8,Bool.not_true,w1,show ¬(600:Int)<((zq n).length:Int) by omega,show ¬(600:Int)<((zq d).length:Int) by omega,decide_true,decide_false,w2,f1,e1,e2,u1.frz,u2.frz,u3.frz,zk,zi,e3,e4,e5]
     ·rw [if_pos ⟨rfl,hg1⟩]
      obtain ⟨c,hc,hc0⟩:∃c,sgn (((Nat.gcd n d:Nat):Int)-1)=c∧c≠0:=⟨_,rfl,fun e=>hg1 (by
       unfold sgn at e
       split at e
       ·exact absurd e (by decide)
       ·split at e
        ·omega
        ·exact absurd e (by decide))⟩
      rw [hc] at e5
      simp only [go_sem,reduceEqDiff,reduceAdd,reduceLT,reduceLeDiff,Nat.mul_one,c86,zo,Bool.not_false,t5,t6,t7,t8,Bool.not_true,w1,show ¬(600:Int)<((zq n).length:Int) by omega,show ¬(600:Int)<((zq d).length:Int) by omega,decide_true,decide_false,w2,f1,e1,e2,u1.frz,u2.frz,u3.frz,zk,zi,e3,e4,e5,hc0,Bool.not_false,w5]
theorem m86 (h:Ck P L) {s:List Nat} (hl:s.length≤1000000000):zn P L 86 [.str s] (zf (chk s)):=by
 have key:∀(neg:Bool) (t:List Nat),t.length≤1000000000→zx P L (D P L) 128 [.str s,.str [45]]=some (.tup [.str t,.bool neg])→zn P L 86 [.str s] (zf (zm5 neg t)):=by
  intro neg t hl e0
  have e1:=zJA h (t:=t) (by omega)
  obtain ⟨k,hk⟩:∃k,k=zO t:=⟨_,rfl⟩
  have hkl:k≤t.length:=by rw [hk];exact zd6 t
  have e2:=zH4 h (p:=t.take k) (by rw [List.length_take];omega)
  have e3:=zH4 h (p:=t.drop (k+1)) (by rw [List.length_drop];omega)
  have lp:(t.take k).length=k:=by rw [List.length_take];omega
  have lq:(t.drop (k+1)).length=t.length-k-1:=by rw [List.length_drop];omega
  unfold zm5
  rw [←hk] at e1 ⊢
  generalize hp:t.take k=p at*
  generalize hq:t.drop (k+1)=q at*
  obtain ⟨ok1,hok1⟩:∃ok:Bool,ok=(zbI p&&(!neg|| !(eqL p [48]))):=⟨_,rfl⟩
  obtain ⟨ok,hok⟩:∃ok:Bool,ok=(ok1&&(!(decide (k<t.length))||(zbI q&&(!(eqL q [48])&& !(eqL q [49]))))):=⟨_,rfl⟩
  have hfin:(if zbI p=false∨(neg=true∧p=[48]) then 1
    else if k<t.length∧(zbI q=false∨q=[48]∨q=[49]) then 1
    else if 600<k∨600<t.length-k-1 then 4
    else if k<t.length∧Nat.gcd (zcU p) (zcU q)≠1 then 1 else 0:Int)=(if ok=false then 1
    else if 600<p.length∨600<q.length then 4
    else if decide (k<t.length)=true∧Nat.gcd (zcU p) (zcU q)≠1 then 1
    else 0):=by
   rw [lp,lq]
   have a1:(zbI p=false∨(neg=true∧p=[48]))↔ok1=false:=by
    rw [hok1]
    cases zbI p<;>cases neg<;>simp
    by_cases e:p=[48]
    ·simp [e,zjr]
    ·simp [e,zmE e]
   have a2:ok=false↔(ok1=false∨(k<t.length∧(zbI q=false∨q=[48]∨q=[49]))):=by
    rw [hok]
    by_cases hs:k<t.length
    ·simp only [hs,decide_true,Bool.not_true,Bool.false_or,true_and]
     cases ok1<;>cases zbI q<;>simp
     by_cases e:q=[48]
     ·simp [e,zjr]
     ·by_cases e':q=[49]
      ·simp [e',zjr]
      ·simp [e,e',zmE e,zmE e']
    ·simp [hs]
   by_cases h1:ok1=false
   ·rw [if_pos (a1.2 h1),if_pos (a2.2 (.inl h1))]
   ·rw [if_neg (fun e=>h1 (a1.1 e))]
    by_cases h2:k<t.length∧(zbI q=false∨q=[48]∨q=[49])
    ·rw [if_pos h2,if_pos (a2.2 (.inr h2))]
    ·rw [if_neg h2,if_neg (fun e=>(a2.1 e).elim h1 h2)]
     simp only [decide_eq_true_eq]
  rw [hfin]
  have hokk:ok=true→zbI p=true∧(decide (k<t.length)=true→zbI q=true):=fun e=>by
   rw [hok,Bool.and_eq_true] at e
   obtain ⟨e1,e2⟩:=e
   rw [hok1,Bool.and_eq_true] at e1
   refine ⟨e1.1,fun hs=>?_⟩
   rw [hs,Bool.not_true,Bool.false_or,Bool.and_eq_true] at e2
   exact e2.1
  have tail:∀tm,zd tm 5= .str p→zd tm 6= .str q→zd tm 7= .bool (decide (k<t.length))→zd tm 8= .bool ok→zdl [.t 2] (D P L (zo (zo (zo (zo (zo c86.body))))) ⟨tm,[],0,0⟩)=_:=fun tm t5 t6 t7 t8=>
   zGJ h (by omega) (by omega) hokk t5 t6 t7 t8
  have mid:∀tm,zd tm 5= .str p→zd tm 6= .str q→zd tm 7= .bool (decide (k<t.length))→zd tm 8= .bool ok1→
    ∃tm',D P L (zag (zo (zo (zo (zo c86.body))))) ⟨tm,[],0,0⟩=some (.normal,⟨tm',[],0,0⟩)∧zd tm' 5= .str p∧zd tm' 6= .str q∧zd tm' 7= .bool (decide (k<t.length))∧zd tm' 8= .bool ok:=fun tm t5 t6 t7 t8=>by
   unfold zn at e3
   by_cases hs:k<t.length
   ·rw [decide_eq_true hs] at t7 hok ⊢
    simp only [Bool.not_true,Bool.false_or] at hok
    cases ok1 with
    | false=>
     rw [Bool.false_and] at hok;subst hok
     refine ⟨_,by simp only [go_sem,reduceEqDiff,c86,zag,zo,t7,t8]<;>rfl,?_⟩
     simp only [go_sem,reduceEqDiff,t5,t6,t7,true_and]
    | true=>
     rw [Bool.true_and] at hok
     cases hd:zbI q with
     | false=>
      rw [hd] at e3 hok
      rw [Bool.false_and] at hok;subst hok
      refine ⟨_,by simp only [go_sem,reduceEqDiff,c86,zag,zo,t6,t7,t8,e3]<;>rfl,?_⟩
      simp only [go_sem,reduceEqDiff,t5,t6,t7,true_and]
     | true=>
      rw [hd] at e3 hok
      rw [Bool.true_and] at hok
      cases h48:eqL q [48] with
      | true=>
       rw [h48,Bool.not_true,Bool.false_and] at hok;subst hok
       refine ⟨_,by simp only [go_sem,reduceEqDiff,c86,zag,zo,t6,t7,t8,e3,zdY,h48,Bool.not_true]<;>rfl,?_⟩
       simp only [go_sem,reduceEqDiff,t5,t6,t7,true_and]
      | false=>
       rw [h48,Bool.not_false,Bool.true_and] at hok
       subst hok
       refine ⟨_,by simp only [go_sem,reduceEqDiff,c86,zag,zo,t6,t7,t8,e3,zdY,h48,Bool.not_false]<;>rfl,?_⟩
       simp only [go_sem,reduceEqDiff,t5,t6,t7,true_and]
   ·rw [decide_eq_false hs] at t7 hok ⊢
    simp only [Bool.not_false,Bool.true_or,Bool.and_true] at hok
    subst hok
    refine ⟨_,by simp only [go_sem,c86,zag,zo,t7]<;>rfl,?_⟩
    simp only [go_sem,reduceEqDiff,t5,t6,t7,t8,true_and]
  have fin:∀tm,zd tm 5= .str p→zd tm 6= .str q→zd tm 7= .bool (decide (k<t.length))→zd tm 8= .bool ok1→
    D P L (.seq (zag c86.body) (.seq (zag (zo c86.body)) (.seq (zag (zo (zo c86.body))) (zag (zo (zo (zo c86.body))))))) ⟨[(0,.str s)],[],0,0⟩=some (.normal,⟨tm,[],0,0⟩)→zn P L 86 [.str s] _:=fun tm t5 t6 t7 t8 e=>by
   obtain ⟨tm',e',f5,f6,f7,f8⟩:=mid tm t5 t6 t7 t8
   unfold zn;rw [zc h.h86]
   show zdl [.t 2] (D P L (.seq (zag c86.body) (.seq (zag (zo c86.body)) (.seq (zag (zo (zo c86.body))) (.seq (zag (zo (zo (zo c86.body)))) (.seq (zag (zo (zo (zo (zo c86.body))))) (zo (zo (zo (zo (zo c86.body)))))))))) ⟨[(0,.str s)],[],0,0⟩)=_
   rw [zsg,e,zaB,zc6,e',zaB]
   exact tail tm' f5 f6 f7 f8
  unfold zn at e2
  cases hd:zbI p with
  | false=>
   rw [hd] at e2 hok1
   rw [Bool.false_and] at hok1
   subst hok1
   refine fin _ ?_ ?_ ?_ ?_ (by simp only [go_sem,reduceEqDiff,c86,zag,zo,e0,e1,e2]<;>rfl)<;>simp only [go_sem,reduceEqDiff]
  | true=>
   rw [hd] at e2 hok1
   rw [Bool.true_and] at hok1
   cases neg with
   | false=>
    simp only [Bool.not_false,Bool.true_or] at hok1
    subst hok1
    refine fin _ ?_ ?_ ?_ ?_ (by simp only [go_sem,reduceEqDiff,c86,zag,zo,e0,e1,e2,Bool.not_false]<;>rfl)<;>simp only [go_sem,reduceEqDiff]
   | true=>
    simp only [Bool.not_true,Bool.false_or] at hok1
    subst hok1
    refine fin _ ?_ ?_ ?_ ?_ (by simp only [go_sem,reduceEqDiff,c86,zag,zo,e0,e1,e2,Bool.not_true,zdY]<;>rfl)<;>simp only [go_sem,reduceEqDiff]
 unfold chk
 have e0:=zJC h s
 cases s with
 | nil=>exact key false [] (by simp) e0
 | cons b r=>
  by_cases hb:b=45
  ·subst hb
   simp only [if_true]
   exact key true r (by simp at hl;omega) e0
  ·simp only [hb,if_false]
   rw [if_neg (by simpa using hb)] at e0
   exact key false (b::r) hl e0
end
end VE
end
section
namespace VE
open Go (IntKind)
def LN (z:Int):Bool:=decide (600<(zq z.natAbs).length)
def LG (r:Rat):Bool:=LN r.num||LN (r.den:Int)
theorem zp7 {m B k:Nat} (hB:B≤3*k) (hk:0<k) (h:m<2^B):(zq m).length≤k:=by
 obtain ⟨j,rfl⟩:∃j,k=j+1:=⟨k-1,by omega⟩
 refine zco (Nat.lt_of_lt_of_le h (Nat.le_trans (Nat.pow_le_pow_right (by decide) hB) ?_))
 rw [Nat.pow_mul]
 exact Nat.pow_le_pow_left (by decide) _
theorem zm8:∀f n:Nat,zb9 f n≤f
 | 0,_=>Nat.le_refl _
 | f+1,n=>by
  unfold zb9
  cases Nat.beq n 0 with
  | true=>exact Nat.zero_le _
  | false=>have:=zm8 f (n/2);simp only [cond_false];omega
theorem zD2 {P:zP} {L:Lib} {f:Run} (h:L.pure 175=some zkk) {x:Nat} (hx:x<18446744073709551616):zx P L f 175 [uc x]=some (zf (zb9 64 x:Nat)):=by
 rw [zaJ h]
 show (bif Nat.blt x 18446744073709551616 then _ else none)=_
 rw [zdB hx];rfl
theorem zzN {V n top low:Nat} (hn:0<n) (h0:0<top) (ht:top<18446744073709551616) (hV:V=low+18446744073709551616^(n-1)*top) (hl:low<18446744073709551616^(n-1)):V<2^(64*(n-1)+zb9 64 top):=by
 obtain ⟨l1,l2,l3⟩:=zku h0 ht
 have hle:=zm8 64 top
 have h1:top<2^zb9 64 top:=by
  have e:(18446744073709551616:Nat)=2^zb9 64 top*2^(64-zb9 64 top):=by rw [←Nat.pow_add,show zb9 64 top+(64-zb9 64 top)=64 by omega]
  rw [e] at l3
  exact Nat.lt_of_mul_lt_mul_right l3
 have h2:V<18446744073709551616^(n-1)*(top+1):=by rw [hV,Nat.mul_add,Nat.mul_one];omega
 have h3:=Nat.mul_le_mul_left (18446744073709551616^(n-1)) (show top+1≤2^zb9 64 top from h1)
 rw [Nat.pow_add,Nat.pow_mul]
 exact Nat.lt_of_lt_of_le h2 h3
section
variable {P:zP} {L:Lib}
theorem zKc (h:Tx P L) {v:AV} {z:Int} {K:Nat} (hv:IsN v z) (hz:Bd K z) (hK:K≤4000000000):∃B:Nat,zn P L 172 [v] (zf B)∧z.natAbs<2^B∧B≤300000000000:=by
 obtain ⟨s,w,rfl,hn⟩:=hv
 obtain ⟨l,u⟩:=hn.isU
 obtain ⟨r,e1,hr⟩:=zmH h.toNu hn
 obtain ⟨ws,hw,g,nz',hb⟩:=hr
 have hl:ws.length≤4000000000:=Nat.le_trans (zh5 nz' hb (Nat.lt_of_lt_of_le hz (ze7 K))) hK
 unfold zn at e1 ⊢
 by_cases h0:ws=[]
 ·subst h0
  have hz0:z.natAbs=0:=by rw [←hb];rfl
  refine ⟨0,?_,by rw [hz0];decide,by omega⟩
  rw [zc h.h172]
  simp only [go_sem,reduceEqDiff,reduceAdd,zyY,zg,z8,zi,u.pu,u.frz,u.one,e1,hw.len,List.length_nil,show ((0:Nat):Int)=0 from rfl,decide_true]
 ·have hp:0<ws.length:=List.length_pos_iff.2 h0
  have hlast:=zhl nz' h0
  have hlW:=zbb (show 0<18446744073709551616 by decide) g (ws.length-1)
  have ei:=hw.ixa (i:=ws.length-1) (by omega)
  have htk:=za9 (b:=18446744073709551616) (l:=ws) (ws.length-1)
  have hlow:=zd9 (zew g (ws.length-1))
  rw [List.length_take,Nat.min_eq_left (by omega)] at hlow
  rw [show ws.length-1+1=ws.length by omega,List.take_of_length_le (Nat.le_refl _)] at htk
  generalize ws.getD (ws.length-1) 0=top at*
  have e2:=zD2 (P:=P) (f:=D P L) h.h175 hlW
  have hle:=zm8 64 top
  have hbits:=zzN hp (Nat.pos_of_ne_zero hlast) hlW htk hlow
  rw [hb] at hbits
  refine ⟨64*(ws.length-1)+zb9 64 top,?_,hbits,by omega⟩
  rw [zc h.h172]
  simp only [go_sem,reduceEqDiff,reduceAdd,zyY,zg,z8,zi,u.pu,u.frz,u.one,e1,hw.len,show ¬(ws.length:Int)=0 by omega,show (ws.length:Int)-1=((ws.length-1:Nat):Int) by omega,zF (n:=ws.length-1) (by omega),show (64:Int)*((ws.length-1:Nat):Int)=((64*(ws.length-1):Nat):Int) by omega,zF (n:=64*(ws.length-1)) (by omega),ei,e2,show ((64*(ws.length-1):Nat):Int)+((zb9 64 top:Nat):Int)=((64*(ws.length-1)+zb9 64 top:Nat):Int) from rfl,zF (n:=64*(ws.length-1)+zb9 64 top) (by omega)]
theorem zsv (z:Int):(if zbM [45] (zV z)=true then (zV z).drop 1 else zV z)=zq z.natAbs:=by
 by_cases h:z<0
 ·rw [zbr h];rfl
 ·obtain ⟨m,rfl⟩:∃m:Nat,z=m:=⟨z.toNat,by omega⟩
  rw [zbg]
  obtain ⟨b,r,hb,h1,_⟩:=zd3 m
  rw [Int.natAbs_natCast,hb,zh3 h1];rfl
theorem zGN (h:Tx P L) {v:AV} {z:Int} {K:Nat} (hv:IsN v z) (hz:Bd K z) (hK:K≤4000000000):zn P L 151 [v] (.bool (LN z)):=by
 obtain ⟨B,e1,hB,hBb⟩:=zKc h hv hz hK
 have e2:=m99 h hv hz hK
 obtain ⟨s,w,rfl,hn⟩:=hv
 obtain ⟨l,u⟩:=hn.isU
 have e3:zx P L (D P L) 153 [.str (zV z),.str [45]]=some (.str (zq z.natAbs)):=by
  rw [zaJ h.h153,←zsv]
  show some (AV.str (bif zbM [45] (zV z) then (zV z).drop 1 else zV z))=_
  cases zbM [45] (zV z)<;>rfl
 unfold zn at e1 e2 ⊢
 rw [zc h.h151]
 unfold LN
 by_cases h1:1800<B
 ·simp only [go_sem,reduceEqDiff,reduceAdd,zzZ,zg,z8,zi,u.pu,u.frz,u.one,e1,show (1800:Int)<(B:Int) by omega,decide_true,e2,e3]
  by_cases h2:600<(zq z.natAbs).length
  ·rw [decide_eq_true h2,decide_eq_true (by omega)]
  ·rw [decide_eq_false h2,decide_eq_false (by omega)]
 ·have h2:=zp7 (k:=600) (by omega) (by decide) hB
  rw [decide_eq_false (by omega)]
  simp only [go_sem,reduceEqDiff,reduceAdd,zzZ,zg,z8,zi,u.pu,u.frz,u.one,e1,show ¬(1800:Int)<(B:Int) by omega,decide_false]
theorem zHr (h:Tx P L) {v:AV} {a:Rat} {K:Nat} (hv:IsQ v a) (ka:Hq K a) (hK:K≤4000000000):zn P L 107 [v] (.bool (LG a)):=by
 obtain ⟨s1,w1,s2,w2,rfl,h1,h2⟩:=hv
 have e1:=zGN h ⟨s1,w1,rfl,h1⟩ ka.1 hK
 have e2:=zGN h ⟨s2,w2,rfl,h2⟩ ka.2 hK
 obtain ⟨l1,u1⟩:=h1.isU
 obtain ⟨l2,u2⟩:=h2.isU
 unfold zn at e1 e2 ⊢
 rw [zc h.h107]
 unfold LG
 cases hb:LN a.num with
 | true=>
  rw [hb] at e1
  simp only [go_sem,reduceEqDiff,reduceAdd,zAo,zg,zj,Nat.zero_add,z8,zi,u1.pu,u1.frz,u1.one,u2.pu,u2.one,e1]
  rfl
 | false=>
  rw [hb] at e1
  simp only [go_sem,reduceEqDiff,reduceAdd,zAo,zg,zj,Nat.zero_add,show List.drop 2 [zf s1,w1,zf s2,w2]=[zf s2,w2] from rfl,z8,zi,u1.pu,u1.frz,u1.one,u2.pu,u2.frz,u2.one,e1,e2]
  rfl
end
end VE
end
