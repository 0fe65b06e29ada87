import Derived.Test.YtknmjihnfgolpaaGreatDoorTbz
import Derived.Test.YtknmjihnfgolpaaGreatDoorTav
import Derived.Test.YtknmjihnfgolpaaGreatDoorTau
import Derived.Test.YtknmjihnfgolpaaGreatDoorTbs
import Derived.Test.YtknmjihnfgolpaaGreatDoorTbd
import Derived.Test.YtknmjihnfgolpaaGreatDoorTbr
set_option linter.all false
set_option maxRecDepth 100000
open Nat (reduceAdd reduceEqDiff reduceLT reduceLeDiff)
section
namespace VE
open Go (IntKind)
structure F4 (c1 c2 c3 c4:AV):Prop where
 frz:∀(n:Nat) (hp:Hp),zal (n+20) hp (.agg [c1,c2,c3,c4])=some (.agg [c1,c2,c3,c4],hp)
 res:∀hp:Hp,zaR hp (.agg [c1,c2,c3,c4])=some (.agg [c1,c2,c3,c4])
 st:∀(hp:Hp) (ct id:Nat) (a b c d:AV),stC hp ct id 0 4 [c1,c2,c3,c4] (some (.cells true true true 4 [a,b,c,d]))=some (.tup [],zad hp id (.cells true true true 4 [c1,c2,c3,c4]),ct)
 bx:∀ct:Nat,zpg ct 4 [c1,c2,c3,c4]=some (.ptr ct 0,.cells true true true 4 [c1,c2,c3,c4])
 o1:zag c1=true
 o2:zag c2=true
 o3:zag c3=true
 o4:zag c4=true
 pu:zA (.agg [c1,c2,c3,c4])=true
 z1:∀(n:Nat) (hp:Hp),zal (n+1) hp c1=some (c1,hp)
 z2:∀(n:Nat) (hp:Hp),zal (n+1) hp c2=some (c2,hp)
 z3:∀(n:Nat) (hp:Hp),zal (n+1) hp c3=some (c3,hp)
 z4:∀(n:Nat) (hp:Hp),zal (n+1) hp c4=some (c4,hp)
structure F8 (c1 c2 c3 c4 c5 c6 c7 c8:AV):Prop where
 frz:∀(n:Nat) (hp:Hp),zal (n+20) hp (.agg [c1,c2,c3,c4,c5,c6,c7,c8])=some (.agg [c1,c2,c3,c4,c5,c6,c7,c8],hp)
 res:∀hp:Hp,zaR hp (.agg [c1,c2,c3,c4,c5,c6,c7,c8])=some (.agg [c1,c2,c3,c4,c5,c6,c7,c8])
 st:∀(hp:Hp) (ct id:Nat) (a b c d e f g h:AV),stC hp ct id 0 8 [c1,c2,c3,c4,c5,c6,c7,c8] (some (.cells true true true 8 [a,b,c,d,e,f,g,h]))=some (.tup [],zad hp id (.cells true true true 8 [c1,c2,c3,c4,c5,c6,c7,c8]),ct)
 bx:∀ct:Nat,zpg ct 8 [c1,c2,c3,c4,c5,c6,c7,c8]=some (.ptr ct 0,.cells true true true 8 [c1,c2,c3,c4,c5,c6,c7,c8])
theorem IsQ.gen {v:AV} {a:Rat} (h:IsQ v a):∃c1 c2 c3 c4,v= .agg [c1,c2,c3,c4]∧F4 c1 c2 c3 c4:=by
 obtain ⟨s1,w1,s2,w2,rfl,h1,h2⟩:=h;obtain ⟨l1,u1⟩:=h1.isU;obtain ⟨l2,u2⟩:=h2.isU;refine ⟨_,_,_,_,rfl,fun n hp=>?_,zed u1 u2,fun hp ct id a b c d=>zd0 u1 u2 hp ct id a b c d,fun ct=>by simp only [go_sem,reduceAdd,zo,u1.pu,u1.one,u2.pu,u2.one],rfl,u1.one,rfl,u2.one,by simp [zA,zp,u1.pu,u2.pu],fun _ _=>rfl,fun n _=>u1.frz n,fun _ _=>rfl,fun n _=>u2.frz n⟩;exact zx _ _ (by simp only [go_sem,u1.frz,u2.frz])
theorem IsP.gen {v:AV} {a b:Rat} (h:IsP v a b):∃c1 c2 c3 c4 c5 c6 c7 c8,v= .agg [c1,c2,c3,c4,c5,c6,c7,c8]∧F8 c1 c2 c3 c4 c5 c6 c7 c8:=by
 obtain ⟨s1,w1,s2,w2,s3,w3,s4,w4,rfl,h1,h2,h3,h4⟩:=h;obtain ⟨l1,u1⟩:=h1.isU;obtain ⟨l2,u2⟩:=h2.isU;obtain ⟨l3,u3⟩:=h3.isU;obtain ⟨l4,u4⟩:=h4.isU;refine ⟨_,_,_,_,_,_,_,_,rfl,fun n hp=>?_,zNQ u1 u2 u3 u4,fun hp ct id a b c d e f g h=>zOU u1 u2 u3 u4 hp ct id a b c d e f g h,fun ct=>by simp only [go_sem,reduceAdd,zo,u1.pu,u1.one,u2.pu,u2.one,u3.pu,u3.one,u4.pu,u4.one]⟩;exact zx _ _ (by simp only [go_sem,u1.frz,u2.frz,u3.frz,u4.frz])
theorem firstI2 {a b:Int}:z8 [a,b]=0↔a=0∧b=0:=by
 simp only [z8];by_cases h:a=0<;>by_cases h2:b=0<;>simp [h,h2]
section
variable {P:zU} {L:Lib}
theorem zwM {s:List Nat} (h:chk s=0):eqL s [48]=decide (zat s=0):=by
 have:=zMb (zat s)
 rwa [←(zfT h).1] at this
end
end VE
end
section
namespace VE
open Go (IntKind)
structure zdA (P:zU) (L:Lib):Prop where
 c:Ck P L
 r:Rx P L
 h161:Has P L 161 zHy
 h208:Has P L 208 zBS
 h315:Has P L 315 zKs
 h355:Has P L 355 zJK
 h415:Has P L 415 zPO
 h440:Has P L 440 zBL
 h460:Has P L 460 zxB
 h472:Has P L 472 zo4
 h473:Has P L 473 zMO
 h474:Has P L 474 zM0
 h475:Has P L 475 zIJ
 h476:Has P L 476 zCH
 h477:Has P L 477 zCQ
 h478:Has P L 478 zvW
 h70:Has P L 70 c70
 h71:Has P L 71 c71
 awake:zF P L 179 [] (.bool true)
section
variable {P:zU} {L:Lib}
theorem zCR (h:Ck P L) {s:List Nat} (h0:chk s=0):∃r,zF P L 62 [.str s] r∧IsQ r (zat s):=by
 obtain ⟨hR,_⟩:=zfT h0;have kr:=zcf h0 (Nat.le_refl 2400);have hl:=zjy kr;obtain ⟨r,e,hr⟩:=m62 h.toTx (a:=zat s) (by omega);rw [←hR] at e;exact ⟨r,e,hr⟩
theorem zRr (h:zdA P L) {v:AV} {l:List (List Nat)} (hv:IsT v l) (hl:l.length≤1000000) (hs:∀s,s∈l→s.length≤1000000000):zF P L 161 [v] (zf (z8 (l.map chk))):=by
 unfold zF;rw [zd h.h161];simp only [go_sem,reduceEqDiff,zHy,hv.len];have key:=zT (P:=P) (L:=L) (live:=[6,7,8]) (a:=zmW)
  (I:=fun k s=>∃i:Nat,s=⟨[(6,v),(7,zf l.length),(8,zf i)],[],0,0⟩∧i+k=l.length∧z8 ((l.drop i).map chk)=z8 (l.map chk))
  (Q:=fun ex s=>∃tm ct,s=⟨tm,[],ct,0⟩∧((ex= .ret∧zc tm 2=zf (z8 (l.map chk)))∨(ex= .exit 0∧z8 (l.map chk)=0))) ?_
 ·generalize hq:D P L (.loop [6,7,8] zmW) _=q;obtain ⟨ex,s,rfl,tm,ct,rfl,h2⟩:=zae hq (key l.length) ⟨0,by simp only [go_sem,reduceEqDiff,za,zb hv.pu,ze _ hv.pu]<;>rfl,by omega,by simp⟩
  rcases h2 with ⟨rfl,h2⟩ | ⟨rfl,h2⟩
  ·simp only [go_sem,h2]
  ·rw [h2];simp only [go_sem,za]
 ·rintro k s ⟨i,rfl,hk,hf⟩;simp only [go_sem,reduceEqDiff,zmW];by_cases hi:i<l.length
  ·have hi':(i:Int)<l.length:=by omega
   have e1:=m86 h.c (hs l[i] (List.getElem_mem hi));unfold zF at e1;rw [ztY hi] at hf;by_cases hz:chk l[i]=0
   ·left
    rw [hz] at e1;simp only [go_sem,reduceEqDiff,hi',hv.ixa hi,e1];refine ⟨_,k-1,rfl,by omega,i+1,?_,by omega,by rw [if_pos hz] at hf;exact hf⟩
    rw [zg (by omega) (by omega)];simp only [go_sem,reduceEqDiff,za,zb hv.pu,ze _ hv.pu]<;>rfl
   ·right
    simp only [go_sem,reduceEqDiff,hi',hv.ixa hi,e1,hz];rw [if_neg hz] at hf;refine ⟨_,_,rfl,by simp,_,_,rfl,.inl ⟨rfl,?_⟩⟩;simp only [go_sem,hf]
  ·right
   have hi':¬(i:Int)<l.length:=by omega
   simp only [go_sem,hi'];refine ⟨_,_,rfl,by simp,_,_,rfl,.inr ⟨rfl,?_⟩⟩;rw [←hf,List.drop_eq_nil_of_le (by omega)];rfl
def zlh (a:Rat):AV:=if LG a=true then .tup [.str [],zf 4] else .tup [.str (RT a),zf 0]
theorem zQE (h:zdA P L) {v:AV} {a:Rat} {K:Nat} (hv:IsQ v a) (ka:Hq K a) (hK:K≤4000000000):zF P L 208 [v] (zlh a):=by
 have e1:=zQB h.c.toTx hv ka hK;have e2:=m46 h.c.toTx hv ka hK;obtain ⟨s1,w1,s2,w2,rfl,h1,h2⟩:=hv;obtain ⟨l1,u1⟩:=h1.isU;obtain ⟨l2,u2⟩:=h2.isU;unfold zlh;unfold zF at e1 e2 ⊢;rw [zd h.h208];cases hL:LG a<;>rw [hL] at e1
 ·simp only [go_sem,reduceEqDiff,reduceAdd,zBS,zo,zb0,zx,u1.pu,u1.frz,u1.one,u2.pu,u2.frz,u2.one,e1,e2,Bool.false_eq_true,if_false];rfl
 ·simp only [go_sem,reduceEqDiff,reduceAdd,zBS,zo,zb0,zx,u1.pu,u1.frz,u1.one,u2.pu,u2.frz,u2.one,e1,if_true];rfl
noncomputable def opA (s t:List Nat) (a:Rat):AV:=if z8 [chk s,chk t]=0 then zlh a else .tup [.str [],zf (z8 [chk s,chk t])]
theorem zDy (h:zdA P L) {s t:List Nat} (hs:s.length≤1000000000) (ht:t.length≤1000000000):zj P L (D P L) 161 [.vsl true 2 [.str s,.str t]]=some (zf (z8 [chk s,chk t])):=by
 have e:=zRr h (zAZ true [s,t]) (by simp) (fun u hu=>by simp at hu;rcases hu with rfl | rfl<;>assumption)
 simp only [List.length_cons,List.length_nil,Nat.zero_add,reduceAdd,List.map_cons,List.map_nil] at e;exact e
theorem zBQ (h:zdA P L) {s t:List Nat} (hs:s.length≤1000000000) (ht:t.length≤1000000000) {f:Nat} {a:Rat} (ha:z8 [chk s,chk t]=0→Hq 5000 a∧∀v w,IsQ v (zat s)→IsQ w (zat t)→∃r,zF P L f [v,w] r∧IsQ r a):
  zF P L 478 [.str s,.str t,.fn (.f f) [] []] (opA s t a):=by
 have e1:=zDy h hs ht;unfold opA;by_cases h0:z8 [chk s,chk t]=0
 ·rw [if_pos h0];rw [h0] at e1;obtain ⟨c1,c2⟩:=firstI2.1 h0;obtain ⟨ka,hf⟩:=ha h0;obtain ⟨v,e2,hv⟩:=zCR h.c c1;obtain ⟨w,e3,hw⟩:=zCR h.c c2;obtain ⟨r,e4,hr⟩:=hf v w hv hw;have e5:=zQE h hr ka (by decide);obtain ⟨v1,v2,v3,v4,rfl,gv⟩:=hv.gen;obtain ⟨w1,w2,w3,w4,rfl,gw⟩:=hw.gen;obtain ⟨r1,r2,r3,r4,rfl,gr⟩:=hr.gen;unfold zF at e2 e3 e4 e5 ⊢;rw [zd h.h478];unfold zlh at e5 ⊢;cases hL:LG a<;>rw [hL] at e5<;>simp only [Bool.false_eq_true,if_false,if_true] at e5 ⊢
  ·simp only [go_sem,reduceEqDiff,reduceAdd,reduceLT,reduceLeDiff,Nat.mul_one,zvW,e1,e2,e3,e4,e5,gv.frz,gw.frz,gr.frz,zD];rfl
  ·simp only [go_sem,reduceEqDiff,reduceAdd,reduceLT,reduceLeDiff,Nat.mul_one,zvW,e1,e2,e3,e4,e5,gv.frz,gw.frz,gr.frz,zD];rfl
 ·rw [if_neg h0];unfold zF;rw [zd h.h478];simp only [go_sem,reduceEqDiff,reduceAdd,reduceLT,reduceLeDiff,Nat.mul_one,zvW,e1,h0,decide_false];rfl
end
end VE
end
section
namespace VE
open Go (IntKind)
section
variable {P:zU} {L:Lib}
theorem zxQ {s t:List Nat} (h:z8 [chk s,chk t]=0) (a:Rat):opA s t a=zlh a:=if_pos h
theorem zAR {s t:List Nat} (h:z8 [chk s,chk t]≠0) (a:Rat):opA s t a= .tup [.str [],zf (z8 [chk s,chk t])]:=if_neg h
theorem zmk (s t:List Nat) (a:Rat):∃u e,opA s t a= .tup [.str u,zf e]:=by
 unfold opA zlh
 split
 ·split
  ·exact ⟨_,_,rfl⟩
  ·exact ⟨_,_,rfl⟩
 ·exact ⟨_,_,rfl⟩
section
variable (h:zdA P L) {s t:List Nat} (hs:s.length≤1000000000) (ht:t.length≤1000000000)
include h hs ht
theorem zQV:zF P L 473 [.str s,.str t] (opA s t (zat s+zat t)):=by
 have e:=zBQ h hs ht (f:=74) (a:=zat s+zat t) (fun h0=>by
  obtain ⟨c1,c2⟩:=firstI2.1 h0;have ka:=zcf c1 (Nat.le_refl 2400);have kb:=zcf c2 (Nat.le_refl 2400)
  exact ⟨(ka.add kb).mono (by decide),fun v w hv hw=>m74 h.c.toFr' hv hw ka kb (by decide)⟩)
 obtain ⟨u,x,hu⟩:=zmk s t (zat s+zat t);rw [hu] at e ⊢;unfold zF at e ⊢;rw [zd h.h473];simp only [go_sem,reduceEqDiff,zMO,e];rfl
theorem zRc:zF P L 474 [.str s,.str t] (opA s t (zat s-zat t)):=by
 have e:=zBQ h hs ht (f:=50) (a:=zat s-zat t) (fun h0=>by
  obtain ⟨c1,c2⟩:=firstI2.1 h0;have ka:=zcf c1 (Nat.le_refl 2400);have kb:=zcf c2 (Nat.le_refl 2400)
  exact ⟨(ka.sub kb).mono (by decide),fun v w hv hw=>m50 h.c.toFr' hv hw ka kb (by decide)⟩)
 obtain ⟨u,x,hu⟩:=zmk s t (zat s-zat t);rw [hu] at e ⊢;unfold zF at e ⊢;rw [zd h.h474];simp only [go_sem,reduceEqDiff,zM0,e];rfl
theorem zQG:zF P L 475 [.str s,.str t] (opA s t (zat s*zat t)):=by
 have e:=zBQ h hs ht (f:=49) (a:=zat s*zat t) (fun h0=>by
  obtain ⟨c1,c2⟩:=firstI2.1 h0;have ka:=zcf c1 (Nat.le_refl 2400);have kb:=zcf c2 (Nat.le_refl 2400)
  exact ⟨(ka.mul kb).mono (by decide),fun v w hv hw=>m49 h.c.toFr' hv hw ka kb (by decide)⟩)
 obtain ⟨u,x,hu⟩:=zmk s t (zat s*zat t);rw [hu] at e ⊢;unfold zF at e ⊢;rw [zd h.h475];simp only [go_sem,reduceEqDiff,zIJ,e];rfl
theorem zn6 {e:Int} (he:z8 [z8 [chk s,chk t],if eqL t [48]=true then 6 else 0]=e) (h0:e≠0):zF P L 476 [.str s,.str t] (.tup [.str [],zf e]):=by
 have e1:=zDy h hs ht;have e2:=w124 h.c.h124 (eqL t [48]) 6;have e3:zF P L 125 [.vsl true 2 [zf (z8 [chk s,chk t]),zf (if eqL t [48]=true then 6 else 0)]] (zf (z8 [z8 [chk s,chk t],if eqL t [48]=true then 6 else 0])):=Nd.w125 h.c.h125 (zbJ true [z8 [chk s,chk t],if eqL t [48]=true then 6 else 0]) (by simp);rw [he] at e3;unfold zF at e2 e3 ⊢;rw [zd h.h476];simp only [go_sem,reduceEqDiff,reduceAdd,reduceLT,reduceLeDiff,Nat.mul_one,zCH,e1,za0,e2,e3,h0,decide_false,Bool.not_false];rfl
theorem zBt (h0:z8 [chk s,chk t]=0) (ht0:eqL t [48]=false):zF P L 476 [.str s,.str t] (opA s t (zat s/zat t)):=by
 have e1:=zDy h hs ht;obtain ⟨c1,c2⟩:=firstI2.1 h0;have hb:zat t≠0:=by
  have:=zwM c2
  rw [ht0] at this;exact of_decide_eq_false this.symm
 have e2:=w124 h.c.h124 (eqL t [48]) 6;have e3:zF P L 125 [.vsl true 2 [zf (z8 [chk s,chk t]),zf (if eqL t [48]=true then 6 else 0)]] (zf (z8 [z8 [chk s,chk t],if eqL t [48]=true then 6 else 0])):=Nd.w125 h.c.h125 (zbJ true [z8 [chk s,chk t],if eqL t [48]=true then 6 else 0]) (by simp);have e:=zBQ h hs ht (f:=70) (a:=zat s/zat t) (fun h0=>by
  have ka:=zcf c1 (Nat.le_refl 2400);have kb:=zcf c2 (Nat.le_refl 2400)
  exact ⟨(ka.div kb).mono (by decide),fun v w hv hw=>m70 h.c.toFr' hv hw hb ka kb (by decide)⟩)
 obtain ⟨u,x,hu⟩:=zmk s t (zat s/zat t);rw [hu] at e ⊢;rw [h0,ht0] at e3;rw [ht0] at e2;rw [h0] at e1;simp only [Bool.false_eq_true,if_false,z8,if_true] at e2 e3;unfold zF at e e2 e3 ⊢;rw [zd h.h476];simp only [go_sem,reduceEqDiff,reduceAdd,reduceLT,reduceLeDiff,Nat.mul_one,zCH,e1,za0,ht0,e2,e3,e,decide_true,Bool.not_true];rfl
theorem zRu:zF P L 477 [.str s,.str t] (if z8 [chk s,chk t]=0 then .tup [zf (zoA (zat s) (zat t)),zf 0] else .tup [zf 0,zf (z8 [chk s,chk t])]):=by
 have e1:=zDy h hs ht;by_cases h0:z8 [chk s,chk t]=0
 ·rw [if_pos h0];rw [h0] at e1;obtain ⟨c1,c2⟩:=firstI2.1 h0;obtain ⟨v,e2,hv⟩:=zCR h.c c1;obtain ⟨w,e3,hw⟩:=zCR h.c c2;have e4:=m71 h.c.toFr' hv hw (zcf c1 (Nat.le_refl 2400)) (zcf c2 (Nat.le_refl 2400)) (by decide);obtain ⟨v1,v2,v3,v4,rfl,gv⟩:=hv.gen;obtain ⟨w1,w2,w3,w4,rfl,gw⟩:=hw.gen;unfold zF at e2 e3 e4 ⊢;rw [zd h.h477];simp only [go_sem,reduceEqDiff,reduceAdd,reduceLT,reduceLeDiff,Nat.mul_one,zCQ,e1,e2,e3,e4,gv.frz,gw.frz,zD];rfl
 ·rw [if_neg h0];unfold zF;rw [zd h.h477];simp only [go_sem,reduceEqDiff,reduceAdd,reduceLT,reduceLeDiff,Nat.mul_one,zCQ,e1,h0,decide_false];rfl
end
theorem zok (h:zdA P L) {bad:Int} (h0:bad≠0) (w:List Nat):zj P L (D P L) 460 [.str [],zf bad,zf bad,.str w]=some (.bool true):=by
 rw [zd h.h460];simp only [go_sem,reduceEqDiff,zxB,h0,decide_false,Bool.not_false,za0,show eqL [] []=true from rfl,decide_true]
theorem zBn (h:zdA P L) {a:Rat} {K:Nat} (ka:Hq K a) (hK:K≤4000000000) {u:List Nat} {e:Int} (he:zlh a= .tup [.str u,zf e]):zj P L (D P L) 460 [.str u,zf e,zf 0,.str (RT a)]=some (.bool true):=by
 have e1:=zPM h.r ka hK;unfold zlh at he;unfold zF at e1;rw [zd h.h460];cases hL:LG a<;>rw [hL] at e1 he<;>simp only [Bool.false_eq_true,if_false,if_true] at e1 he<;>cases he
 ·simp only [go_sem,reduceEqDiff,zxB,e1,decide_true,Bool.not_true,za0,zlY]
 ·simp only [go_sem,reduceEqDiff,zxB,e1,Int.reduceEq,decide_true,decide_false,Bool.not_false,za0,zlY]
theorem zvX (h:zdA P L) {bad:Int} (h0:bad≠0):zj P L (D P L) 440 [zf 0,zf bad,zf bad,zf 0]=some (.bool true):=by
 rw [zd h.h440];simp only [go_sem,reduceEqDiff,zBL,h0,decide_false,Bool.not_false,decide_true]
theorem zQ0 (h:zdA P L) (o:Int):zj P L (D P L) 440 [zf o,zf 0,zf 0,zf o]=some (.bool true):=by
 rw [zd h.h440];simp only [go_sem,reduceEqDiff,zBL,decide_true,Bool.not_true]
theorem zwp (h:zdA P L) {a b:List Nat} (la:a.length<9223372036854775808) (lb:b.length<9223372036854775808):zF P L 472 [.str a,.str b] (.bool true):=by
 have ea:=h.awake;unfold zF at ea;unfold zF;rw [zd h.h472];by_cases ha:a.length≤1300
 ·by_cases hb:b.length≤1300
  ·have e1:=zOO h.r.toRn (s:=a) (by omega);have e2:=zOO h.r.toRn (s:=b) (by omega);have e3:=s42 (n:=415) (h:=(show Has P L 415 c42 from h.h415)) (zbJ true [chk a,chk b]) (by simp);simp only [List.length_cons,List.length_nil,Nat.zero_add,reduceAdd,List.map_cons,List.map_nil] at e3;have e4:=m86 h.c (s:=a) (by omega);have x1:=zQV h (s:=a) (t:=b) (by omega) (by omega);have x2:=zRc h (s:=a) (t:=b) (by omega) (by omega);have x3:=zQG h (s:=a) (t:=b) (by omega) (by omega);have x5:=zRu h (s:=a) (t:=b) (by omega) (by omega);have n1:¬(1300:Int)<(a.length:Int):=by omega
   have n2:¬(1300:Int)<(b.length:Int):=by omega
   by_cases h0:z8 [chk a,chk b]=0
   ·obtain ⟨c1,c2⟩:=firstI2.1 h0;have ka:=zcf c1 (Nat.le_refl 2400);have kb:=zcf c2 (Nat.le_refl 2400);have hRa:=(zfT c1).1;have hRb:=(zfT c2).1;rw [zxQ h0] at x1 x2 x3;rw [if_pos h0] at x5;rw [h0,c1,c2] at e3;rw [c1] at e4 e1;rw [c2] at e2;have two:∀r:Rat,∃u e,zlh r= .tup [.str u,zf e]:=fun r=>by unfold zlh;split<;>exact ⟨_,_,rfl⟩
    obtain ⟨u1,d1,hu1⟩:=two (zat a+zat b);obtain ⟨u2,d2,hu2⟩:=two (zat a-zat b);obtain ⟨u3,d3,hu3⟩:=two (zat a*zat b);have y1:=zBn h (ka.add kb) (by decide) hu1;have y2:=zBn h (ka.sub kb) (by decide) hu2;have y3:=zBn h (ka.mul kb) (by decide) hu3;have y5:=zQ0 h (zoA (zat a) (zat b));rw [hu1] at x1;rw [hu2] at x2;rw [hu3] at x3;have z1:=zEm h.r.toRn ka kb (by decide);have z2:=zPC h.r.toRn ka kb (by decide);have z3:=zDT h.r.toRn ka kb (by decide);have z5:zj P L (D P L) 315 [.str a,.str b]=some (zf (zoA (zat a) (zat b))):=by
     have z6:=zD2 h.r.toRn (ka.sub kb) (by decide);rw [zAr] at z6;rw [←hRa,←hRb] at z2;unfold zF at z2 z6;rw [zd h.h315];simp only [go_sem,reduceEqDiff,zKs,z2,z6]
    rw [←hRa,←hRb] at z1 z2 z3;have z7:zj P L (D P L) 355 [.str b]=some (.bool (eqL b [48])):=by
     rw [zd h.h355];simp only [go_sem,reduceEqDiff,zJK,za0]
    unfold zF at e1 e2 e3 e4 x1 x2 x3 x5 z1 z2 z3
    cases hz:eqL b [48] with
    | true=>
     have x4:=zn6 h (s:=a) (t:=b) (by omega) (by omega) (e:=6) (by rw [h0,hz];rfl) (by decide)
     have y4:=zok h (bad:=6) (by decide) [];rw [hz] at z7;unfold zF at x4;simp only [go_sem,reduceEqDiff,reduceAdd,reduceLT,reduceLeDiff,Nat.mul_one,zo4,ea,Bool.not_true,n1,n2,decide_true,decide_false,e1,e2,e3,e4,x1,x2,x3,x4,x5,y1,y2,y3,y4,y5,z1,z2,z3,z5,z7]
    | false=>
     have hb0:zat b≠0:=by
      have:=zwM c2
      rw [hz] at this;exact of_decide_eq_false this.symm
     have x4:=zBt h (s:=a) (t:=b) (by omega) (by omega) h0 hz;rw [zxQ h0] at x4;obtain ⟨u4,d4,hu4⟩:=two (zat a/zat b);have y4:=zBn h (ka.div kb) (by decide) hu4;rw [hu4] at x4;have z4:=zOp h.r ka kb (by decide) hb0;rw [←hRa,←hRb] at z4;rw [hz] at z7;unfold zF at x4 z4;simp only [go_sem,reduceEqDiff,reduceAdd,reduceLT,reduceLeDiff,Nat.mul_one,zo4,ea,Bool.not_true,n1,n2,decide_true,decide_false,e1,e2,e3,e4,x1,x2,x3,x4,x5,y1,y2,y3,y4,y5,z1,z2,z3,z4,z5,z7]
   ·rw [zAR h0] at x1 x2 x3;rw [if_neg h0] at x5;have x4:=zn6 h (s:=a) (t:=b) (by omega) (by omega) (e:=z8 [chk a,chk b]) (if_neg h0) h0;have y1:=zok h h0 [];have y5:=zvX h h0;unfold zF at e1 e2 e3 e4 x1 x2 x3 x4 x5;simp only [go_sem,reduceEqDiff,reduceAdd,reduceLT,reduceLeDiff,Nat.mul_one,zo4,ea,Bool.not_true,n1,n2,decide_true,decide_false,e1,e2,e3,e4,x1,x2,x3,x4,x5,h0,Bool.not_false,y1,y5]
  ·simp only [go_sem,reduceEqDiff,zo4,ea,Bool.not_true,show ¬(1300:Int)<(a.length:Int) by omega,show (1300:Int)<(b.length:Int) by omega,decide_true,decide_false]
 ·simp only [go_sem,reduceEqDiff,zo4,ea,Bool.not_true,show (1300:Int)<(a.length:Int) by omega,decide_true]
end
end VE
end
section
namespace VE
open Go (IntKind)
abbrev sumsT:List Ty:=[.str,.str]
theorem zvE {P:zU} {L:Lib} (h:zdA P L) {ls:List (List AV)} (hs:All2 Shp sumsT ls):zF P L 472 (zn3 sumsT ls) (.bool true):=by
 obtain ⟨_,_,rfl,⟨a,rfl,ha,_⟩,⟨b,rfl,hb,_⟩⟩:=zFM hs;exact zwp h ha hb
end VE
end
section
namespace VE
namespace J2
open Go Go.Proofs
def T:List (Tr zJ):=[.n 179 [.o 7 [] (.bool true)] .l .l]
def L0:VE.Lib:=zpx VE.lib 99 zjc
def L1:VE.Lib:=zCd L0 T 1000
theorem nu:Nu VE.prog VE.lib:=by
 repeat' (first | rfl | constructor)
theorem lw:zdA VE.prog L1:=by
 repeat' (first | rfl | constructor)
section
variable {W:World} {m:Int} (hm:W.cell? ⟨1,0,none⟩=some (.int .i64 m)) (ht:Go.Lib.TabIs Tryz.prog W "internal/strconv.uint64pow10" .u64 Go.Lib.pow10Tab)
include hm ht
theorem zJB:zaB ((J1.Λ W).withLib L1):=by
 have hΛ:=J1.link_ok hm ht;have hs:=ztX hΛ nu rfl rfl rfl ⟨rfl,rfl,rfl⟩ (fn:=Tryz.f164) (c:=znn) Tryz.func164 rfl rfl trivial zx7;have hT:AllT (J1.Λ W) T:=AllT.cons (Tr.all_n (AllC.one (VK1.holds hΛ rfl rfl)) Tr.all_l Tr.all_l) AllT.nil;exact zrn (zva hΛ hs) hT 1000
theorem law {ls:List (List AV)} (hs:All2 Shp sumsT ls):PureC (J1.Λ W) 472 (zn3 sumsT ls) (.bool true):=by
 obtain ⟨k,hk⟩:=zwx (zvE lw hs);exact zw8 (zJB hm ht) hk
end
end J2
end VE
end
