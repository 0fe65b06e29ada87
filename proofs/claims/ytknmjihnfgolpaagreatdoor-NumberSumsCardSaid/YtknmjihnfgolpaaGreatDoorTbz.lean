import Derived.Test.YtknmjihnfgolpaaGreatDoorTby
import Derived.Test.YtknmjihnfgolpaaGreatDoorTbx
import Derived.Test.YtknmjihnfgolpaaGreatDoorTbf
import Derived.Test.YtknmjihnfgolpaaGreatDoorTau
set_option linter.all false
set_option maxRecDepth 100000
open Nat (reduceAdd reduceEqDiff reduceLT reduceLeDiff)
section
namespace VE
open Go (IntKind)
theorem znH (i:Nat):ztJ i [48,49,50,51,52,53,54,55,56,57]=(Nat.ble 48 i&&Nat.ble i 57):=by
 by_cases h:48≤i∧i≤57
 ·obtain ⟨h1,h2⟩:=h;obtain ⟨k,rfl⟩:∃k,i=48+k:=⟨i-48,by omega⟩
  have:k<10:=by omega
  rcases (show k=0∨k=1∨k=2∨k=3∨k=4∨k=5∨k=6∨k=7∨k=8∨k=9 by omega) with rfl | rfl | rfl | rfl | rfl | rfl | rfl | rfl | rfl | rfl<;>rfl
 ·have e:(Nat.ble 48 i&&Nat.ble i 57)=false:=by
   cases h1:Nat.ble 48 i with
   | false=>rfl
   | true=>
    cases h2:Nat.ble i 57 with
    | false=>rfl
    | true=>exact absurd ⟨Nat.le_of_ble_eq_true h1,Nat.le_of_ble_eq_true h2⟩ h
  rw [e];have ne:∀c,48≤c→c≤57→Nat.beq c i=false:=fun c h1 h2=>zaQ (by omega)
  simp only [ztJ,ne 48 (by decide) (by decide),ne 49 (by decide) (by decide),ne 50 (by decide) (by decide),ne 51 (by decide) (by decide),ne 52 (by decide) (by decide),ne 53 (by decide) (by decide),ne 54 (by decide) (by decide),ne 55 (by decide) (by decide),ne 56 (by decide) (by decide),ne 57 (by decide) (by decide),cond_false]
theorem zhX:∀l:List Nat,zcJ [48,49,50,51,52,53,54,55,56,57] l=[]↔zbm l=true
 | []=>by simp [zcJ,zbm]
 | b::r=>by
  simp only [zcJ,zbm,znH]
  cases hb:(Nat.ble 48 b&&Nat.ble b 57) with
  | true=>simp only [cond_true,Bool.true_and];exact zhX r
  | false=>simp
theorem zhw:∀l:List Nat,zbm l.reverse=zbm l
 | []=>rfl
 | b::r=>by rw [List.reverse_cons,zer,zhw r];simp [zbm,Bool.and_comm]
theorem zhh:∀l:List Nat,zbm l=false→zbm (zcJ [48,49,50,51,52,53,54,55,56,57] l)=false
 | [],h=>by simp [zbm] at h
 | b::r,h=>by
  simp only [zcJ,znH]
  cases hb:(Nat.ble 48 b&&Nat.ble b 57) with
  | true=>
   simp only [cond_true];simp only [zbm,hb,Bool.true_and] at h;exact zhh r h
  | false=>simp only [cond_false];exact h
theorem zxJ (p:List Nat):eqL (zcJ [48,49,50,51,52,53,54,55,56,57] (zcJ [48,49,50,51,52,53,54,55,56,57] p.reverse).reverse) []=zbm p:=by
 cases hd:zbm p with
 | true=>
  have h1:=(zhX p.reverse).2 (by rw [zhw];exact hd)
  rw [h1];rfl
 | false=>
  have h1:=zhh p.reverse (by rw [zhw];exact hd)
  have h2:zbm (zcJ [48,49,50,51,52,53,54,55,56,57] p.reverse).reverse=false:=by rw [zhw];exact h1
  cases hq:zcJ [48,49,50,51,52,53,54,55,56,57] (zcJ [48,49,50,51,52,53,54,55,56,57] p.reverse).reverse with
  | nil=>have:=(zhX _).1 hq;rw [h2] at this;exact absurd this (by decide)
  | cons b r=>rfl
theorem zg9:∀(t:List Nat) (k:Nat),zcw [47] t k=if zO t<t.length then some (k+zO t) else none
 | [],k=>by simp [zcw,zbN,zO]
 | b::r,k=>by
  by_cases hb:b=47
  ·subst hb;have e:zO (47::r)=0:=by simp [zO]
   rw [e,if_pos (by simp)];rfl
  ·have e:zO (b::r)=zO r+1:=by simp [zO,hb]
   have hp:zbN [47] (b::r)=false:=by rw [zeN];exact zaQ (fun e=>hb e.symm)
   rw [e,zcw,hp,cond_false,zg9 r (k+1)];by_cases h:zO r<r.length
   ·rw [if_pos h,if_pos (by simpa using h)];congr 1;omega
   ·rw [if_neg h,if_neg (by simpa using h)]
theorem ze3 (a b:List Nat):binOp .neq (.str a) (.str b)=some (.bool (!(eqL a b))):=rfl
structure Ck (P:zU) (L:Lib):Prop extends Tx P L where
 h128:L.pure 128=some ze6
 h162:L.pure 162=some trimS
 h86:Has P L 86 c86
 h124:Has P L 124 zvu
 h125:Has P L 125 zB5
 h129:Has P L 129 zu6
section
variable {P:zU} {L:Lib}
theorem w124 (h:Has P L 124 zvu) (b:Bool) (n:Int):zF P L 124 [.bool b,zf n] (zf (if b=true then n else 0)):=Nd.w124 h b n
theorem zO3 (h:Ck P L) {p:List Nat} (hl:p.length≤4000000000):zF P L 129 [.str p] (.bool (zbF p)):=by
 have e1:zj P L (D P L) 162 [.str p,.str [48,49,50,51,52,53,54,55,56,57]]=some (.str (zcJ [48,49,50,51,52,53,54,55,56,57] (zcJ [48,49,50,51,52,53,54,55,56,57] p.reverse).reverse)):=by
  rw [zaI h.h162];show (bif zig [48,49,50,51,52,53,54,55,56,57]&&(Nat.blt p.length 4294967281&&Nat.blt 10 4294967281) then _ else none)=_
  rw [zdo (by omega)];rfl
 have e2:=zxJ p;generalize zcJ [48,49,50,51,52,53,54,55,56,57] (zcJ [48,49,50,51,52,53,54,55,56,57] p.reverse).reverse=u at*
 unfold zF;rw [zd h.h129]
 match p,e1,e2 with
 | [],_,_=>
  simp only [go_sem,reduceEqDiff,zu6,ze3,show eqL [] []=true from rfl,Bool.not_true];rfl
 | b::r,e1,e2=>
  have hI:zem 0 (.str (b::r))=some (.int .u8 (b:Nat)):=rfl;have h0:eqL (b::r) []=false:=rfl;have hd:zbF (b::r)=(zbm (b::r)&&(!(Nat.beq b 48)||r.isEmpty)):=rfl;rw [hd]
  cases hdg:zbm (b::r) with
  | false=>
   rw [hdg] at e2;simp only [go_sem,reduceEqDiff,zu6,ze3,h0,Bool.not_false,e1,za0,e2,Bool.false_and]
  | true=>
   rw [hdg] at e2;by_cases hb:b=48
   ·subst hb;have e3:eqL (48::r) [48]=r.isEmpty:=by
     cases r with
     | nil=>rfl
     | cons c r=>rfl
    have hI':zem 0 (.str (48::r))=some (.int .u8 48):=rfl;simp only [go_sem,reduceEqDiff,zu6,ze3,h0,Bool.not_false,e1,za0,e2,hI',decide_true,Bool.not_true,e3];rfl
   ·have:Nat.beq b 48=false:=zaQ hb
    rw [this];simp only [go_sem,reduceEqDiff,zu6,ze3,h0,Bool.not_false,e1,za0,e2,hI,show ¬((b:Nat):Int)=48 by omega,decide_false,Bool.not_false];rfl
theorem zRw (h:Ck P L) (s:List Nat):zj P L (D P L) 128 [.str s,.str [45]]=some (if s.head? =some 45 then .tup [.str s.tail,.bool true] else .tup [.str s,.bool false]):=by
 rw [zaI h.h128];show some (bif zbN [45] s then AV.tup [.str (s.drop 1),.bool true] else .tup [.str s,.bool false])=_
 cases s with
 | nil=>rfl
 | cons b r=>
  by_cases hb:b=45
  ·subst hb;rfl
  ·have:zbN [45] (b::r)=false:=by rw [zeN];exact zaQ (fun e=>hb e.symm)
   rw [this,if_neg (by simpa using hb)];rfl
theorem zQj (h:Ck P L) {t:List Nat} (hl:t.length≤4000000000):zj P L (D P L) 109 [.str t,.str [47]]=some (.tup [.str (t.take (zO t)),.str (t.drop (zO t+1)),.bool (decide (zO t<t.length))]):=by
 rw [zaI h.h109];show (bif Nat.blt t.length 4294967281 then (match zcw [47] t 0 with | some i=>some (AV.tup [.str (t.take i),.str (t.drop (i+1)),.bool true]) | none=>some (AV.tup [.str t,.str [],.bool false])) else none)=_
 rw [zdo (by omega),zg9];have hle:=zdU t;by_cases hs:zO t<t.length
 ·simp only [hs,if_true,decide_true,Nat.zero_add,cond_true]
 ·rw [if_neg hs,decide_eq_false hs,List.take_of_length_le (by omega),List.drop_eq_nil_of_le (by omega)];rfl
theorem zo5 {P:zU} {L:Lib} (a b c d:VC) (s:St):D P L (.seq a (.seq b (.seq c d))) s=zfp P L (D P L (.seq a (.seq b c)) s) d:=by
 have e:=zdX (P:=P) (L:=L) b c d;rw [zd8,zd8]
 cases D P L a s with
 | none=>rfl
 | some q=>
  obtain ⟨ex,st⟩:=q
  cases ex with
  | normal=>rw [zaL,zaL];exact e st
  | ret=>rfl
  | exit id=>rfl
theorem ztH {P:zU} {L:Lib} (a b c d f:VC) (s:St):D P L (.seq a (.seq b (.seq c (.seq d f)))) s=zfp P L (D P L (.seq a (.seq b (.seq c d))) s) f:=by
 have e:=zo5 (P:=P) (L:=L) b c d f;rw [zd8,zd8]
 cases D P L a s with
 | none=>rfl
 | some q=>
  obtain ⟨ex,st⟩:=q
  cases ex with
  | normal=>rw [zaL,zaL];exact e st
  | ret=>rfl
  | exit id=>rfl
theorem zjo {a b:List Nat} (h:a=b):eqL a b=true:=by
 subst h
 induction a with
 | nil=>rfl
 | cons x a ih=>simp [eqL,ih]
theorem zmQ {a b:List Nat} (h:a≠b):eqL a b=false:=by
 cases hb:eqL a b with
 | false=>rfl
 | true=>
  exact absurd (by
   clear h;revert b
   induction a with
   | nil=>intro b hb;cases b with | nil=>rfl | cons y b=>simp [eqL] at hb
   | cons x a ih=>
    intro b hb
    cases b with
    | nil=>simp [eqL] at hb
    | cons y b=>
     simp only [eqL,Bool.and_eq_true] at hb
     rw [Nat.eq_of_beq_eq_true hb.1,ih hb.2]) h
theorem zPv (h:Ck P L) {p q:List Nat} {ok found:Bool} (lp:p.length≤1000000000) (lq:q.length≤1000000000) (hok:ok=true→zbF p=true∧(found=true→zbF q=true)) {tm:Env} (t5:zc tm 5= .str p) (t6:zc tm 6= .str q) (t7:zc tm 7= .bool found) (t8:zc tm 8= .bool ok):
  zdE [.t 2] (D P L (zu (zu (zu (zu (zu c86.body))))) ⟨tm,[],0,0⟩)=some (zf (
   if ok=false then 1
   else if 600<p.length∨600<q.length then 4
   else if found=true∧Nat.gcd (zcX p) (zcX q)≠1 then 1
   else 0)):=by
 have w1:=w124 h.h124 (!ok) 1;have hfi:∀a b:Int,zF P L 125 [.vsl true 2 [zf a,zf b]] (zf (z8 [a,b])):=fun a b=>Nd.w125 h.h125 (zbJ true [a,b]) (by simp)
 cases ok with
 | false=>
  have f1:=hfi 1 0;have f2:=hfi 1 4;have w2:=w124 h.h124 false 4;have w3:=w124 h.h124 true 4;simp only [Bool.not_false,if_true,Bool.false_eq_true,if_false] at w1 w2 w3;rw [show z8 [1,0]=1 by decide] at f1;rw [show z8 [1,4]=1 by decide] at f2;unfold zF at w1 w2 w3 f1 f2;by_cases h1:600<p.length
  ·simp only [go_sem,reduceEqDiff,reduceAdd,reduceLT,reduceLeDiff,Nat.mul_one,c86,zu,show ¬(1:Int)=0 by decide,Bool.not_false,t5,t8,Bool.not_false,w1,show (600:Int)<(p.length:Int) by omega,decide_true,w3,f2,decide_false]
   simp
  ·by_cases h2:600<q.length
   ·simp only [go_sem,reduceEqDiff,reduceAdd,reduceLT,reduceLeDiff,Nat.mul_one,c86,zu,show ¬(1:Int)=0 by decide,Bool.not_false,t5,t6,t8,Bool.not_false,w1,show ¬(600:Int)<(p.length:Int) by omega,show (600:Int)<(q.length:Int) by omega,decide_true,decide_false,w3,f2]
    simp
   ·simp only [go_sem,reduceEqDiff,reduceAdd,reduceLT,reduceLeDiff,Nat.mul_one,c86,zu,show ¬(1:Int)=0 by decide,Bool.not_false,t5,t6,t8,Bool.not_false,w1,show ¬(600:Int)<(p.length:Int) by omega,show ¬(600:Int)<(q.length:Int) by omega,decide_false,w2,f1]
    simp
 | true=>
  obtain ⟨hp,hq⟩:=hok rfl;have f1:=hfi 0 0;have f2:=hfi 0 4;have w2:=w124 h.h124 false 4;have w3:=w124 h.h124 true 4;have w4:=w124 h.h124 false 1;have w5:=w124 h.h124 true 1;simp only [Bool.not_true,if_true,Bool.false_eq_true,if_false] at w1 w2 w3 w4 w5;rw [show z8 [0,0]=0 by decide] at f1;rw [show z8 [0,4]=4 by decide] at f2;unfold zF at w1 w2 w3 w4 w5 f1 f2;rw [if_neg (by decide)];by_cases h1:600<p.length
  ·rw [if_pos (.inl h1)];simp only [go_sem,reduceEqDiff,reduceAdd,reduceLT,reduceLeDiff,Nat.mul_one,c86,zu,show ¬(4:Int)=0 by decide,Bool.not_false,t5,t8,Bool.not_true,w1,show (600:Int)<(p.length:Int) by omega,decide_true,w3,f2,decide_false]
  ·by_cases h2:600<q.length
   ·rw [if_pos (.inr h2)];simp only [go_sem,reduceEqDiff,reduceAdd,reduceLT,reduceLeDiff,Nat.mul_one,c86,zu,show ¬(4:Int)=0 by decide,Bool.not_false,t5,t6,t8,Bool.not_true,w1,show ¬(600:Int)<(p.length:Int) by omega,show (600:Int)<(q.length:Int) by omega,decide_true,decide_false,w3,f2]
   ·rw [if_neg (by omega)]
    cases found with
    | false=>
     rw [if_neg (by simp)];simp only [go_sem,reduceEqDiff,reduceAdd,reduceLT,reduceLeDiff,Nat.mul_one,c86,zu,t5,t6,t7,t8,Bool.not_true,w1,show ¬(600:Int)<(p.length:Int) by omega,show ¬(600:Int)<(q.length:Int) by omega,decide_true,decide_false,w2,f1]
    | true=>
     have hpS:=zdS _ rfl hp;have hqS:=zdS _ rfl (hq rfl);generalize zcX p=n at*
     generalize zcX q=d at*
     subst hpS;subst hqS;obtain ⟨M,hM⟩:∃M:Nat,M=2400:=⟨_,rfl⟩;have bd:∀{m:Nat},(zn m).length≤600→Bd M (m:Int):=fun {m} hm=>by
      have h1:=zhi m;have h2:=zhy (zn m).length;have h3:(2:Nat)^(4*(zn m).length)≤2^M:=Nat.pow_le_pow_right (by decide) (by omega);unfold Bd;rw [Int.natAbs_natCast];exact Nat.lt_of_lt_of_le h1 (Nat.le_trans h2 h3)
     obtain ⟨x,e1,hx⟩:=zxL h.toTx (z:=(n:Int)) (by rw [zbc];omega);obtain ⟨y,e2,hy⟩:=zxL h.toTx (z:=(d:Int)) (by rw [zbc];omega);rw [zbc] at e1 e2;have kn:=bd (m:=n) (by omega);have kd:=bd (m:=d) (by omega);obtain ⟨g,e3,hg⟩:=zOh h.toNu hx hy kn kd (by omega);obtain ⟨e4,h1'⟩:=ztS h.toNu (z:=1) (by decide) (by decide);have kg:Bd M ((Int.gcd (n:Int) (d:Int):Nat):Int):=by
      rcases Nat.eq_zero_or_pos d with h0 | h0
      ·subst h0;simpa using kn
      ·exact kd.le (by have:=Nat.gcd_le_right n h0;simpa using this)
     have e5:=zOG h.toNu hg h1' (K:=M) kg (by unfold Bd;exact Nat.one_lt_two_pow (by omega)) (by omega)
     have hgcd:Int.gcd (n:Int) (d:Int)=Nat.gcd n d:=rfl;rw [hgcd] at e5;obtain ⟨xs,xw,rfl,hx'⟩:=hx;obtain ⟨ys,yw,rfl,hy'⟩:=hy;obtain ⟨gs,gw,rfl,hg'⟩:=hg;obtain ⟨l1,u1⟩:=hx'.isU;obtain ⟨l2,u2⟩:=hy'.isU;obtain ⟨l3,u3⟩:=hg'.isU;unfold zF at e1 e2 e3 e4 e5;by_cases hg1:Nat.gcd n d=1
     ·rw [if_neg (by simp [hg1])];have hs:sgn (((Nat.gcd n d:Nat):Int)-1)=0:=by rw [hg1];rfl
      rw [hs] at e5;simp only [go_sem,reduceEqDiff,reduceAdd,reduceLT,reduceLeDiff,Nat.mul_one,c86,zu,t5,t6,t7,t8,Bool.not_true,w1,show ¬(600:Int)<((zn n).length:Int) by omega,show ¬(600:Int)<((zn d).length:Int) by omega,decide_true,decide_false,w2,f1,e1,e2,u1.frz,u2.frz,u3.frz,zD,zx,e3,e4,e5]
     ·rw [if_pos ⟨rfl,hg1⟩];obtain ⟨c,hc,hc0⟩:∃c,sgn (((Nat.gcd n d:Nat):Int)-1)=c∧c≠0:=⟨_,rfl,fun e=>hg1 (by
       unfold sgn at e
       split at e
       ·exact absurd e (by decide)
       ·split at e
        ·omega
        ·exact absurd e (by decide))⟩
      rw [hc] at e5;simp only [go_sem,reduceEqDiff,reduceAdd,reduceLT,reduceLeDiff,Nat.mul_one,c86,zu,Bool.not_false,t5,t6,t7,t8,Bool.not_true,w1,show ¬(600:Int)<((zn n).length:Int) by omega,show ¬(600:Int)<((zn d).length:Int) by omega,decide_true,decide_false,w2,f1,e1,e2,u1.frz,u2.frz,u3.frz,zD,zx,e3,e4,e5,hc0,Bool.not_false,w5]
theorem m86 (h:Ck P L) {s:List Nat} (hl:s.length≤1000000000):zF P L 86 [.str s] (zf (chk s)):=by
 have key:∀(neg:Bool) (t:List Nat),t.length≤1000000000→zj P L (D P L) 128 [.str s,.str [45]]=some (.tup [.str t,.bool neg])→zF P L 86 [.str s] (zf (zm3 neg t)):=by
  intro neg t hl e0;have e1:=zQj h (t:=t) (by omega);obtain ⟨k,hk⟩:∃k,k=zO t:=⟨_,rfl⟩;have hkl:k≤t.length:=by rw [hk];exact zdU t
  have e2:=zO3 h (p:=t.take k) (by rw [List.length_take];omega);have e3:=zO3 h (p:=t.drop (k+1)) (by rw [List.length_drop];omega);have lp:(t.take k).length=k:=by rw [List.length_take];omega
  have lq:(t.drop (k+1)).length=t.length-k-1:=by rw [List.length_drop];omega
  unfold zm3;rw [←hk] at e1 ⊢;generalize hp:t.take k=p at*
  generalize hq:t.drop (k+1)=q at*
  obtain ⟨ok1,hok1⟩:∃ok:Bool,ok=(zbF p&&(!neg|| !(eqL p [48]))):=⟨_,rfl⟩;obtain ⟨ok,hok⟩:∃ok:Bool,ok=(ok1&&(!(decide (k<t.length))||(zbF q&&(!(eqL q [48])&& !(eqL q [49]))))):=⟨_,rfl⟩
  have hfin:(if zbF p=false∨(neg=true∧p=[48]) then 1
    else if k<t.length∧(zbF q=false∨q=[48]∨q=[49]) then 1
    else if 600<k∨600<t.length-k-1 then 4
    else if k<t.length∧Nat.gcd (zcX p) (zcX q)≠1 then 1 else 0:Int)=(if ok=false then 1
    else if 600<p.length∨600<q.length then 4
    else if decide (k<t.length)=true∧Nat.gcd (zcX p) (zcX q)≠1 then 1
    else 0):=by
   rw [lp,lq];have a1:(zbF p=false∨(neg=true∧p=[48]))↔ok1=false:=by
    rw [hok1];cases zbF p<;>cases neg<;>simp
    by_cases e:p=[48]
    ·simp [e,zjo]
    ·simp [e,zmQ e]
   have a2:ok=false↔(ok1=false∨(k<t.length∧(zbF q=false∨q=[48]∨q=[49]))):=by
    rw [hok];by_cases hs:k<t.length
    ·simp only [hs,decide_true,Bool.not_true,Bool.false_or,true_and];cases ok1<;>cases zbF q<;>simp
     by_cases e:q=[48]
     ·simp [e,zjo]
     ·by_cases e':q=[49]
      ·simp [e',zjo]
      ·simp [e,e',zmQ e,zmQ e']
    ·simp [hs]
   by_cases h1:ok1=false
   ·rw [if_pos (a1.2 h1),if_pos (a2.2 (.inl h1))]
   ·rw [if_neg (fun e=>h1 (a1.1 e))];by_cases h2:k<t.length∧(zbF q=false∨q=[48]∨q=[49])
    ·rw [if_pos h2,if_pos (a2.2 (.inr h2))]
    ·rw [if_neg h2,if_neg (fun e=>(a2.1 e).elim h1 h2)];simp only [decide_eq_true_eq]
  rw [hfin];have hokk:ok=true→zbF p=true∧(decide (k<t.length)=true→zbF q=true):=fun e=>by
   rw [hok,Bool.and_eq_true] at e;obtain ⟨e1,e2⟩:=e;rw [hok1,Bool.and_eq_true] at e1;refine ⟨e1.1,fun hs=>?_⟩;rw [hs,Bool.not_true,Bool.false_or,Bool.and_eq_true] at e2;exact e2.1
  have tail:∀tm,zc tm 5= .str p→zc tm 6= .str q→zc tm 7= .bool (decide (k<t.length))→zc tm 8= .bool ok→zdE [.t 2] (D P L (zu (zu (zu (zu (zu c86.body))))) ⟨tm,[],0,0⟩)=_:=fun tm t5 t6 t7 t8=>
   zPv h (by omega) (by omega) hokk t5 t6 t7 t8
  have mid:∀tm,zc tm 5= .str p→zc tm 6= .str q→zc tm 7= .bool (decide (k<t.length))→zc tm 8= .bool ok1→
    ∃tm',D P L (zar (zu (zu (zu (zu c86.body))))) ⟨tm,[],0,0⟩=some (.normal,⟨tm',[],0,0⟩)∧zc tm' 5= .str p∧zc tm' 6= .str q∧zc tm' 7= .bool (decide (k<t.length))∧zc tm' 8= .bool ok:=fun tm t5 t6 t7 t8=>by
   unfold zF at e3;by_cases hs:k<t.length
   ·rw [decide_eq_true hs] at t7 hok ⊢;simp only [Bool.not_true,Bool.false_or] at hok
    cases ok1 with
    | false=>
     rw [Bool.false_and] at hok;subst hok;refine ⟨_,by simp only [go_sem,reduceEqDiff,c86,zar,zu,t7,t8]<;>rfl,?_⟩
     simp only [go_sem,reduceEqDiff,t5,t6,t7,true_and]
    | true=>
     rw [Bool.true_and] at hok
     cases hd:zbF q with
     | false=>
      rw [hd] at e3 hok;rw [Bool.false_and] at hok;subst hok;refine ⟨_,by simp only [go_sem,reduceEqDiff,c86,zar,zu,t6,t7,t8,e3]<;>rfl,?_⟩
      simp only [go_sem,reduceEqDiff,t5,t6,t7,true_and]
     | true=>
      rw [hd] at e3 hok;rw [Bool.true_and] at hok
      cases h48:eqL q [48] with
      | true=>
       rw [h48,Bool.not_true,Bool.false_and] at hok;subst hok;refine ⟨_,by simp only [go_sem,reduceEqDiff,c86,zar,zu,t6,t7,t8,e3,ze3,h48,Bool.not_true]<;>rfl,?_⟩
       simp only [go_sem,reduceEqDiff,t5,t6,t7,true_and]
      | false=>
       rw [h48,Bool.not_false,Bool.true_and] at hok;subst hok;refine ⟨_,by simp only [go_sem,reduceEqDiff,c86,zar,zu,t6,t7,t8,e3,ze3,h48,Bool.not_false]<;>rfl,?_⟩
       simp only [go_sem,reduceEqDiff,t5,t6,t7,true_and]
   ·rw [decide_eq_false hs] at t7 hok ⊢;simp only [Bool.not_false,Bool.true_or,Bool.and_true] at hok;subst hok;refine ⟨_,by simp only [go_sem,c86,zar,zu,t7]<;>rfl,?_⟩
    simp only [go_sem,reduceEqDiff,t5,t6,t7,t8,true_and]
  have fin:∀tm,zc tm 5= .str p→zc tm 6= .str q→zc tm 7= .bool (decide (k<t.length))→zc tm 8= .bool ok1→
    D P L (.seq (zar c86.body) (.seq (zar (zu c86.body)) (.seq (zar (zu (zu c86.body))) (zar (zu (zu (zu c86.body))))))) ⟨[(0,.str s)],[],0,0⟩=some (.normal,⟨tm,[],0,0⟩)→zF P L 86 [.str s] _:=fun tm t5 t6 t7 t8 e=>by
   obtain ⟨tm',e',f5,f6,f7,f8⟩:=mid tm t5 t6 t7 t8;unfold zF;rw [zd h.h86];show zdE [.t 2] (D P L (.seq (zar c86.body) (.seq (zar (zu c86.body)) (.seq (zar (zu (zu c86.body))) (.seq (zar (zu (zu (zu c86.body)))) (.seq (zar (zu (zu (zu (zu c86.body))))) (zu (zu (zu (zu (zu c86.body)))))))))) ⟨[(0,.str s)],[],0,0⟩)=_
   rw [ztH,e,zaL,zd8,e',zaL];exact tail tm' f5 f6 f7 f8
  unfold zF at e2
  cases hd:zbF p with
  | false=>
   rw [hd] at e2 hok1;rw [Bool.false_and] at hok1;subst hok1;refine fin _ ?_ ?_ ?_ ?_ (by simp only [go_sem,reduceEqDiff,c86,zar,zu,e0,e1,e2]<;>rfl)<;>simp only [go_sem,reduceEqDiff]
  | true=>
   rw [hd] at e2 hok1;rw [Bool.true_and] at hok1
   cases neg with
   | false=>
    simp only [Bool.not_false,Bool.true_or] at hok1;subst hok1;refine fin _ ?_ ?_ ?_ ?_ (by simp only [go_sem,reduceEqDiff,c86,zar,zu,e0,e1,e2,Bool.not_false]<;>rfl)<;>simp only [go_sem,reduceEqDiff]
   | true=>
    simp only [Bool.not_true,Bool.false_or] at hok1;subst hok1;refine fin _ ?_ ?_ ?_ ?_ (by simp only [go_sem,reduceEqDiff,c86,zar,zu,e0,e1,e2,Bool.not_true,ze3]<;>rfl)<;>simp only [go_sem,reduceEqDiff]
 unfold chk;have e0:=zRw h s
 cases s with
 | nil=>exact key false [] (by simp) e0
 | cons b r=>
  by_cases hb:b=45
  ·subst hb;simp only [if_true];exact key true r (by simp at hl;omega) e0
  ·simp only [hb,if_false];rw [if_neg (by simpa using hb)] at e0;exact key false (b::r) hl e0
end
end VE
end
section
namespace VE
open Go (IntKind)
def LN (z:Int):Bool:=decide (600<(zn z.natAbs).length)
def LG (r:Rat):Bool:=LN r.num||LN (r.den:Int)
theorem zpo {m B k:Nat} (hB:B≤3*k) (hk:0<k) (h:m<2^B):(zn m).length≤k:=by
 obtain ⟨j,rfl⟩:∃j,k=j+1:=⟨k-1,by omega⟩;refine zcm (Nat.lt_of_lt_of_le h (Nat.le_trans (Nat.pow_le_pow_right (by decide) hB) ?_));rw [Nat.pow_mul];exact Nat.pow_le_pow_left (by decide) _
theorem zm2:∀f n:Nat,zb5 f n≤f
 | 0,_=>Nat.le_refl _
 | f+1,n=>by
  unfold zb5
  cases Nat.beq n 0 with
  | true=>exact Nat.zero_le _
  | false=>have:=zm2 f (n/2);simp only [cond_false];omega
theorem zId {P:zU} {L:Lib} {f:Run} (h:L.pure 175=some zkJ) {x:Nat} (hx:x<18446744073709551616):zj P L f 175 [uc x]=some (zf (zb5 64 x:Nat)):=by
 rw [zaI h];show (bif Nat.blt x 18446744073709551616 then _ else none)=_
 rw [zdo hx];rfl
theorem zB2 {V n top low:Nat} (hn:0<n) (h0:0<top) (ht:top<18446744073709551616) (hV:V=low+18446744073709551616^(n-1)*top) (hl:low<18446744073709551616^(n-1)):V<2^(64*(n-1)+zb5 64 top):=by
 obtain ⟨l1,l2,l3⟩:=zjR h0 ht;have hle:=zm2 64 top;have h1:top<2^zb5 64 top:=by
  have e:(18446744073709551616:Nat)=2^zb5 64 top*2^(64-zb5 64 top):=by rw [←Nat.pow_add,show zb5 64 top+(64-zb5 64 top)=64 by omega]
  rw [e] at l3;exact Nat.lt_of_mul_lt_mul_right l3
 have h2:V<18446744073709551616^(n-1)*(top+1):=by rw [hV,Nat.mul_add,Nat.mul_one];omega
 have h3:=Nat.mul_le_mul_left (18446744073709551616^(n-1)) (show top+1≤2^zb5 64 top from h1);rw [Nat.pow_add,Nat.pow_mul];exact Nat.lt_of_lt_of_le h2 h3
section
variable {P:zU} {L:Lib}
theorem zQL (h:Tx P L) {v:AV} {z:Int} {K:Nat} (hv:IsN v z) (hz:Bd K z) (hK:K≤4000000000):∃B:Nat,zF P L 172 [v] (zf B)∧z.natAbs<2^B∧B≤300000000000:=by
 obtain ⟨s,w,rfl,hn⟩:=hv;obtain ⟨l,u⟩:=hn.isU;obtain ⟨r,e1,hr⟩:=zmD h.toNu hn;obtain ⟨ws,hw,g,nz',hb⟩:=hr;have hl:ws.length≤4000000000:=Nat.le_trans (zir nz' hb (Nat.lt_of_lt_of_le hz (zfh K))) hK;unfold zF at e1 ⊢;by_cases h0:ws=[]
 ·subst h0;have hz0:z.natAbs=0:=by rw [←hb];rfl
  refine ⟨0,?_,by rw [hz0];decide,by omega⟩
  rw [zd h.h172];simp only [go_sem,reduceEqDiff,reduceAdd,zBi,zo,z9,zx,u.pu,u.frz,u.one,e1,hw.len,List.length_nil,show ((0:Nat):Int)=0 from rfl,decide_true]
 ·have hp:0<ws.length:=List.length_pos_iff.2 h0;have hlast:=zhc nz' h0;have hlW:=za9 (show 0<18446744073709551616 by decide) g (ws.length-1);have ei:=hw.ixa (i:=ws.length-1) (by omega);have htk:=za4 (b:=18446744073709551616) (l:=ws) (ws.length-1);have hlow:=zd4 (zes g (ws.length-1));rw [List.length_take,Nat.min_eq_left (by omega)] at hlow;rw [show ws.length-1+1=ws.length by omega,List.take_of_length_le (Nat.le_refl _)] at htk;generalize ws.getD (ws.length-1) 0=top at*
  have e2:=zId (P:=P) (f:=D P L) h.h175 hlW;have hle:=zm2 64 top;have hbits:=zB2 hp (Nat.pos_of_ne_zero hlast) hlW htk hlow;rw [hb] at hbits;refine ⟨64*(ws.length-1)+zb5 64 top,?_,hbits,by omega⟩;rw [zd h.h172]
  simp only [go_sem,reduceEqDiff,reduceAdd,zBi,zo,z9,zx,u.pu,u.frz,u.one,e1,hw.len,show ¬(ws.length:Int)=0 by omega,show (ws.length:Int)-1=((ws.length-1:Nat):Int) by omega,zB (n:=ws.length-1) (by omega),show (64:Int)*((ws.length-1:Nat):Int)=((64*(ws.length-1):Nat):Int) by omega,zB (n:=64*(ws.length-1)) (by omega),ei,e2,show ((64*(ws.length-1):Nat):Int)+((zb5 64 top:Nat):Int)=((64*(ws.length-1)+zb5 64 top:Nat):Int) from rfl,zB (n:=64*(ws.length-1)+zb5 64 top) (by omega)]
theorem zuq (z:Int):(if zbN [45] (zW z)=true then (zW z).drop 1 else zW z)=zn z.natAbs:=by
 by_cases h:z<0
 ·rw [zbo h];rfl
 ·obtain ⟨m,rfl⟩:∃m:Nat,z=m:=⟨z.toNat,by omega⟩;rw [zbc];obtain ⟨b,r,hb,h1,_⟩:=zdT m;rw [Int.natAbs_natCast,hb,zim h1];rfl
theorem zN1 (h:Tx P L) {v:AV} {z:Int} {K:Nat} (hv:IsN v z) (hz:Bd K z) (hK:K≤4000000000):zF P L 151 [v] (.bool (LN z)):=by
 obtain ⟨B,e1,hB,hBb⟩:=zQL h hv hz hK;have e2:=m99 h hv hz hK;obtain ⟨s,w,rfl,hn⟩:=hv;obtain ⟨l,u⟩:=hn.isU;have e3:zj P L (D P L) 153 [.str (zW z),.str [45]]=some (.str (zn z.natAbs)):=by
  rw [zaI h.h153,←zuq];show some (AV.str (bif zbN [45] (zW z) then (zW z).drop 1 else zW z))=_
  cases zbN [45] (zW z)<;>rfl
 unfold zF at e1 e2 ⊢;rw [zd h.h151];unfold LN;by_cases h1:1800<B
 ·simp only [go_sem,reduceEqDiff,reduceAdd,zAx,zo,z9,zx,u.pu,u.frz,u.one,e1,show (1800:Int)<(B:Int) by omega,decide_true,e2,e3];by_cases h2:600<(zn z.natAbs).length
  ·rw [decide_eq_true h2,decide_eq_true (by omega)]
  ·rw [decide_eq_false h2,decide_eq_false (by omega)]
 ·have h2:=zpo (k:=600) (by omega) (by decide) hB;rw [decide_eq_false (by omega)];simp only [go_sem,reduceEqDiff,reduceAdd,zAx,zo,z9,zx,u.pu,u.frz,u.one,e1,show ¬(1800:Int)<(B:Int) by omega,decide_false]
theorem zQB (h:Tx P L) {v:AV} {a:Rat} {K:Nat} (hv:IsQ v a) (ka:Hq K a) (hK:K≤4000000000):zF P L 107 [v] (.bool (LG a)):=by
 obtain ⟨s1,w1,s2,w2,rfl,h1,h2⟩:=hv;have e1:=zN1 h ⟨s1,w1,rfl,h1⟩ ka.1 hK;have e2:=zN1 h ⟨s2,w2,rfl,h2⟩ ka.2 hK;obtain ⟨l1,u1⟩:=h1.isU;obtain ⟨l2,u2⟩:=h2.isU;unfold zF at e1 e2 ⊢;rw [zd h.h107];unfold LG
 cases hb:LN a.num with
 | true=>
  rw [hb] at e1;simp only [go_sem,reduceEqDiff,reduceAdd,zBH,zo,zE,Nat.zero_add,z9,zx,u1.pu,u1.frz,u1.one,u2.pu,u2.one,e1];rfl
 | false=>
  rw [hb] at e1;simp only [go_sem,reduceEqDiff,reduceAdd,zBH,zo,zE,Nat.zero_add,show List.drop 2 [zf s1,w1,zf s2,w2]=[zf s2,w2] from rfl,z9,zx,u1.pu,u1.frz,u1.one,u2.pu,u2.frz,u2.one,e1,e2];rfl
end
end VE
end
section
namespace VE
open Go (IntKind)
def IsT (v:AV) (l:List (List Nat)):Prop:=IsL v (l.map AV.str)
section
variable {v:AV} {l:List (List Nat)}
theorem IsT.len (h:IsT v l) {hp:Hp}:zcl hp 1 v=some (.int .i64 (l.length:Nat)):=by
 have:=IsL.len (hp:=hp) h
 rwa [List.length_map] at this
theorem IsT.pu (h:IsT v l):zA v=true:=IsL.pu h
theorem IsT.frz (h:IsT v l) (n:Nat) {hp:Hp}:zal (n+1) hp v=some (v,hp):=IsL.frz h n
theorem IsT.shut (h:IsT v l):VE.shut v=v:=IsL.shut h
theorem IsT.shut1 (h:IsT v l):VE.shut1 v=v:=IsL.shut1 h
theorem IsT.res (h:IsT v l) {hp:Hp}:zaR hp v=some v:=IsL.res h
theorem IsT.one (h:IsT v l):zag v=true:=IsL.one h
theorem IsT.cells (h:IsT v l):cellsOf v=[v]:=IsL.cells h
theorem IsT.ixa (h:IsT v l) {i:Nat} (hi:i<l.length):zdl 1 i v=some (.vptr (.str l[i]::(l.map AV.str).drop (i+1))):=by
 have:=IsL.ixa h (i:=i) (by simpa using hi)
 rw [this];simp
theorem zAZ (e:Bool) (l:List (List Nat)):IsT (.vsl e l.length (l.map AV.str)) l:=by
 have:=zmA e (l.map AV.str)
 rwa [List.length_map] at this
end
section
variable {P:zU} {L:Lib}
theorem zBs (h:Rn P L) {a:Rat} {K:Nat} (ka:Hq K a) (hK:K≤4000000000):zj P L (D P L) 284 [.str (RT a)]=some (.str (zW a.num))∧zj P L (D P L) 285 [.str (zW a.num)]=some (.str (zn a.num.natAbs))∧zj P L (D P L) 286 [.str (RT a)]=some (.str (zn a.den)):=by
 have hl:=zjy ka;have e0:=zuQ h.h272 (s:=RT a) (by omega);have hns:=zgj a.num;have hli:=zdR ka.1;have hcut:zO (RT a)=(zW a.num).length∧(RT a).take (zW a.num).length=zW a.num:=by
  unfold RT;by_cases hd:a.den=1
  ·rw [if_pos hd,List.append_nil]
   have:=zej a.num []
   rw [List.append_nil] at this;exact ⟨by rw [this];simp [zO],List.take_length⟩
  ·rw [if_neg hd];exact ⟨by rw [zej];simp [zO],List.take_left⟩
 obtain ⟨hc1,hc2⟩:=hcut;rw [hc1] at e0;have hlen:(zW a.num).length≤(RT a).length:=by unfold RT;simp
 have e1:zj P L (D P L) 284 [.str (RT a)]=some (.str (zW a.num)):=by
  unfold zF at e0;rw [zd h.h284]
  have:=znv (s:=RT a) hlen
  simp only [go_sem,reduceEqDiff,zJ2,e0,zah,zap,zab,this,hc2]
 have hT:zW a.num=TT a.num 1:=by unfold TT;simp
 have e2:zj P L (D P L) 285 [.str (zW a.num)]=some (.str (zn a.num.natAbs)):=by
  have e:=zDW h (n:=a.num) (d:=1) (by rw [←hT];omega) (fun _=>rfl);rw [←hT] at e;unfold zF at e;rw [zd h.h285];by_cases h0:a.num<0
  ·have es:sgn a.num= -1:=by unfold sgn;rw [if_pos h0]
   rw [es] at e;rw [zbo h0] at e ⊢;have hc:=zhk (s:=45::zn a.num.natAbs) (k:=1) (by simp);simp only [List.drop_succ_cons,List.drop_zero,List.length_cons] at hc;simp only [go_sem,reduceEqDiff,zCK,e,show (-1:Int)<0 by decide,zah,zap,zab,hc]
  ·have es:¬sgn a.num<0:=by unfold sgn;rw [if_neg h0];split<;>decide
   have hi:zW a.num=zn a.num.natAbs:=by
    obtain ⟨m,hm⟩:∃m:Nat,a.num=m:=⟨a.num.toNat,by omega⟩;rw [hm,zbc,Int.natAbs_natCast]
   simp only [go_sem,reduceEqDiff,zCK,e,es];rw [hi]
 have e3:zj P L (D P L) 286 [.str (RT a)]=some (.str (zn a.den)):=by
  unfold zF at e0;rw [zd h.h286];by_cases hd:a.den=1
  ·have hR:(RT a).length=(zW a.num).length:=by unfold RT;rw [if_pos hd];simp
   rw [hd,show zn 1=[49] by decide];simp only [go_sem,reduceEqDiff,zDa,e0,show ((zW a.num).length:Int)=((RT a).length:Int) by omega,decide_true]
  ·have hR:RT a=(zW a.num++[47])++zn a.den:=by unfold RT;rw [if_neg hd];simp
   have hRl:(RT a).length=(zW a.num).length+1+(zn a.den).length:=by rw [hR];simp;omega
   have hp:=zbK a.den;have hc:=zhk (s:=RT a) (k:=(zW a.num).length+1) (by omega);have hdr:(RT a).drop ((zW a.num).length+1)=zn a.den:=by
    rw [hR,show (zW a.num).length+1=(zW a.num++[47]).length by simp,List.drop_left]
   rw [hdr] at hc
   simp only [go_sem,reduceEqDiff,zDa,e0,show ¬((zW a.num).length:Int)=((RT a).length:Int) by omega,show ((zW a.num).length:Int)+1=(((zW a.num).length+1:Nat):Int) from rfl,zB (n:=(zW a.num).length+1) (by omega),zah,zap,zab,hc]
 exact ⟨e1,e2,e3⟩
theorem zPM (h:Rx P L) {a:Rat} {K:Nat} (ka:Hq K a) (hK:K≤4000000000):zF P L 269 [.str (RT a)] (zf (if LG a=true then 4 else 0)):=by
 obtain ⟨e1,e2,e3⟩:=zBs h.toRn ka hK;have hn:=zjn ka.1;have hd:=zjn ka.2;rw [Int.natAbs_natCast] at hd;unfold zF;rw [zd h.h269];unfold LG LN;rw [Int.natAbs_natCast];by_cases h1:600<(zn a.num.natAbs).length
 ·rw [decide_eq_true h1,Bool.true_or,if_pos rfl];simp only [go_sem,reduceEqDiff,zwG,e1,e2,show (600:Int)<((zn a.num.natAbs).length:Int) by omega,decide_true]
 ·by_cases h2:600<(zn a.den).length
  ·rw [decide_eq_true h2,Bool.or_true,if_pos rfl];simp only [go_sem,reduceEqDiff,zwG,e1,e2,show ¬(600:Int)<((zn a.num.natAbs).length:Int) by omega,decide_false,e3,show (600:Int)<((zn a.den).length:Int) by omega]
  ·rw [decide_eq_false h1,decide_eq_false h2,Bool.or_self,if_neg (by decide)];simp only [go_sem,reduceEqDiff,zwG,e1,e2,show ¬(600:Int)<((zn a.num.natAbs).length:Int) by omega,decide_false,e3,show ¬(600:Int)<((zn a.den).length:Int) by omega]
theorem ztY {l:List (List Nat)} {i:Nat} (h:i<l.length):z8 ((l.drop i).map chk)=if chk l[i]=0 then z8 ((l.drop (i+1)).map chk) else chk l[i]:=by
 rw [List.drop_eq_getElem_cons h];rfl
end
end VE
end
section
namespace VE
open Go (IntKind)
open Classical in
noncomputable def zat (s:List Nat):Rat:=if h:chk s=0 then Classical.choose (zyJ h) else 0
theorem zfT {s:List Nat} (h:chk s=0):s=RT (zat s)∧(zn (zat s).num.natAbs).length≤600∧(zn (zat s).den).length≤600:=by
 unfold zat;rw [dif_pos h];exact Classical.choose_spec (zyJ h)
theorem zl2 {z:Int} {k M:Nat} (h:(zn z.natAbs).length≤k) (hM:4*k≤M):Bd M z:=by
 have h1:=zhi z.natAbs;have h2:=zhy (zn z.natAbs).length;have h3:(2:Nat)^(4*(zn z.natAbs).length)≤2^M:=Nat.pow_le_pow_right (by decide) (by omega);exact Nat.lt_of_lt_of_le h1 (Nat.le_trans h2 h3)
theorem zcf {s:List Nat} (h:chk s=0) {M:Nat} (hM:2400≤M):Hq M (zat s):=by
 obtain ⟨_,h1,h2⟩:=zfT h
 exact ⟨zl2 h1 (by omega),zl2 (z:=((zat s).den:Int)) (by rw [Int.natAbs_natCast];exact h2) (by omega)⟩
instance (k:Nat) (z:Int):Decidable (Bd k z):=inferInstanceAs (Decidable (z.natAbs<2^k))
theorem zQQ:RT 0=[48]:=by decide
theorem zAa {a:Rat} (h:RT a=[48]):a=0:=by
 unfold RT at h;have hp:=zbK a.den;by_cases hd:a.den=1
 ·rw [if_pos hd,List.append_nil] at h;by_cases h0:a.num<0
  ·rw [zbo h0] at h;simp at h
  ·obtain ⟨m,hm⟩:∃m:Nat,a.num=m:=⟨a.num.toNat,by omega⟩;rw [hm,zbc] at h;have hv:=zdc m;rw [h] at hv;have hv:some 0=some m:=hv
   have:m=0:=by injection hv with hv;exact hv.symm
   exact Rat.num_eq_zero.1 (by rw [hm,this];rfl)
 ·rw [if_neg hd] at h;have hl:=congrArg List.length h;have hi:0<(zW a.num).length:=by
   rw [←za5];have:=zbK a.num.natAbs;simp;omega
  simp at hl;omega
theorem zMb (a:Rat):eqL (RT a) [48]=decide (a=0):=by
 by_cases h:a=0
 ·subst h;rw [decide_eq_true rfl];exact zo1 zQQ
 ·rw [decide_eq_false h];exact zdh (fun e=>h (zAa e))
section
variable {P:zU} {L:Lib}
end
end VE
end
section
namespace VE
open Go (IntKind)
theorem zis (q:Rat):q.num<0↔q<0:=by
 have h:=@Rat.num_nonneg q;constructor
 ·intro h1;exact Rat.not_le.1 (fun h2=>by have:=h.2 h2;omega)
 ·intro h1;rcases Int.lt_or_le q.num 0 with h2 | h2
  ·exact h2
  ·exact absurd (h.1 h2) (Rat.not_le.2 h1)
theorem zAr (a b:Rat):sgn (a-b).num=zoA a b:=by
 unfold sgn zoA;by_cases h1:a<b
 ·rw [if_pos ((zis _).2 (by grind)),if_pos h1]
 ·rw [if_neg (fun e=>h1 (by have:=(zis _).1 e;grind)),if_neg h1]
  by_cases h2:a=b
  ·subst h2;rw [if_pos (by rw [Rat.sub_self];rfl),if_pos rfl]
  ·rw [if_neg (fun e=>h2 (by have:=Rat.num_eq_zero.1 e;grind)),if_neg h2]
section
variable {P:zU} {L:Lib}
end
end VE
end
section
namespace VE
open Go (IntKind)
def IsP (v:AV) (a b:Rat):Prop:=∃s1 w1 s2 w2 s3 w3 s4 w4,v= .agg [zf s1,w1,zf s2,w2,zf s3,w3,zf s4,w4]∧Nok s1 w1 a.num∧Nok s2 w2 (a.den:Int)∧Nok s3 w3 b.num∧Nok s4 w4 (b.den:Int)
section
variable {s1 s2 s3 s4:Int} {w1 w2 w3 w4:AV} {l1 l2 l3 l4:List Nat}
theorem zOU (h1:IsU w1 l1) (h2:IsU w2 l2) (h3:IsU w3 l3) (h4:IsU w4 l4) (hp:Hp) (ct id:Nat) (a b c d e f g h:AV):stC hp ct id 0 8 [.int .i64 s1,w1,.int .i64 s2,w2,.int .i64 s3,w3,.int .i64 s4,w4] (some (.cells true true true 8 [a,b,c,d,e,f,g,h]))=some (.tup [],zad hp id (.cells true true true 8 [.int .i64 s1,w1,.int .i64 s2,w2,.int .i64 s3,w3,.int .i64 s4,w4]),ct):=by
 rw [zn8 (by rfl) (by simp) (by simp [zM,h1.one,h2.one,h3.one,h4.one,zmx])];simp [zp,h1.pu,h2.pu,h3.pu,h4.pu,zck,zpP]
theorem zNQ (h1:IsU w1 l1) (h2:IsU w2 l2) (h3:IsU w3 l3) (h4:IsU w4 l4) (hp:Hp):zaR hp (.agg [zf s1,w1,zf s2,w2,zf s3,w3,zf s4,w4])=some (.agg [zf s1,w1,zf s2,w2,zf s3,w3,zf s4,w4]):=by
 rcases h1 with ⟨rfl,_⟩ | ⟨e,rfl⟩<;>rcases h2 with ⟨rfl,_⟩ | ⟨e',rfl⟩<;>rcases h3 with ⟨rfl,_⟩ | ⟨e,rfl⟩<;>rcases h4 with ⟨rfl,_⟩ | ⟨e',rfl⟩<;>rfl
end
section
variable {P:zU} {L:Lib}
theorem zlY (a:List Nat):eqL a a=true:=zjo rfl
end
end VE
end
