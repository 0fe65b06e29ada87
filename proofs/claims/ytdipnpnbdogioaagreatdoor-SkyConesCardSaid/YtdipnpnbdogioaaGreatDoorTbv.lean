import Derived.Test.YtdipnpnbdogioaaGreatDoorTbu
set_option linter.all false
set_option maxRecDepth 100000
open Nat (reduceAdd reduceEqDiff reduceLT reduceLeDiff)
section
namespace VE
open Go (IntKind)
open Classical in
noncomputable def zg (s:List Nat):Rat:=if h:chk s=0 then Classical.choose (zx8 h) else 0
theorem zaX {s:List Nat} (h:chk s=0):s=RT (zg s)∧(zm (zg s).num.natAbs).length≤600∧(zm (zg s).den).length≤600:=by
 unfold zg;rw [dif_pos h];exact Classical.choose_spec (zx8 h)
theorem zgo {z:Int} {k M:Nat} (h:(zm z.natAbs).length≤k) (hM:4*k≤M):Bd M z:=by
 have h1:=zhF z.natAbs;have h2:=zhy (zm z.natAbs).length;have h3:(2:Nat)^(4*(zm z.natAbs).length)≤2^M:=Nat.pow_le_pow_right (by decide) (by omega);exact Nat.lt_of_lt_of_le h1 (Nat.le_trans h2 h3)
theorem za2 {s:List Nat} (h:chk s=0) {M:Nat} (hM:2400≤M):Hq M (zg s):=by
 obtain ⟨_,h1,h2⟩:=zaX h
 exact ⟨zgo h1 (by omega),zgo (z:=((zg s).den:Int)) (by rw [Int.natAbs_natCast];exact h2) (by omega)⟩
noncomputable def zeh (s:List Nat) (least:Int):Int:=if chk s=0 then (if sgn (zg s).num<least then 3 else 0) else chk s
theorem znq {s:List Nat} {m:Int} (h:zeh s m=0):chk s=0∧m≤sgn (zg s).num:=by
 unfold zeh at h;by_cases h0:chk s=0
 ·rw [if_pos h0] at h
  split at h
  ·exact absurd h (by decide)
  ·exact ⟨h0,by omega⟩
 ·rw [if_neg h0] at h;exact absurd h h0
abbrev plT (x y:List Nat):AV:= .agg [.str x,.str y]
abbrev plV (a b:Rat):AV:= .agg [.str (RT a),.str (RT b)]
instance (k:Nat) (z:Int):Decidable (Bd k z):=inferInstanceAs (Decidable (z.natAbs<2^k))
theorem zxk:RT 0=[48]:=by decide
theorem zJ2:RT 1=[49]:=by decide
def zbM:Rat:=⟨1,2,by decide,by decide⟩
theorem zKl:RT zbM=[49,47,50]:=by decide
theorem Hq_0:Hq 2 0:=⟨by decide,by decide⟩
theorem Hq_1:Hq 2 1:=⟨by decide,by decide⟩
theorem Hq_2:Hq 2 2:=⟨by decide,by decide⟩
theorem Hq_m1:Hq 2 (-1):=⟨by decide,by decide⟩
theorem zAT:Hq 2 zbM:=⟨by decide,by decide⟩
theorem zyW {a:Rat} (h:RT a=[48]):a=0:=by
 unfold RT at h;have hp:=zbr a.den;by_cases hd:a.den=1
 ·rw [if_pos hd,List.append_nil] at h;by_cases h0:a.num<0
  ·rw [zaV h0] at h;simp at h
  ·obtain ⟨m,hm⟩:∃m:Nat,a.num=m:=⟨a.num.toNat,by omega⟩;rw [hm,za5] at h;have hv:=zbX m;rw [h] at hv;have hv:some 0=some m:=hv
   have:m=0:=by injection hv with hv;exact hv.symm
   exact Rat.num_eq_zero.1 (by rw [hm,this];rfl)
 ·rw [if_neg hd] at h;have hl:=congrArg List.length h;have hi:0<(zS a.num).length:=by
   rw [←za9];have:=zbr a.num.natAbs;simp;omega
  simp at hl;omega
theorem zDo (a:Rat):eqL (RT a) [48]=decide (a=0):=by
 by_cases h:a=0
 ·subst h;rw [decide_eq_true rfl];exact zpo zxk
 ·rw [decide_eq_false h];exact zdp (fun e=>h (zyW e))
structure S0 (P:zQ) (L:Lib):Prop extends Rn P L where
 h42:Has P L 42 c42
 h261:Has P L 261 zAV
 h306:Has P L 306 zDL
 h307:Has P L 307 zEJ
 h308:Has P L 308 zDi
 h314:Has P L 314 zxC
 h319:Has P L 319 zDk
structure Sr (P:zQ) (L:Lib):Prop extends Rx P L,S0 P L where
 h11:Has P L 11 c11
 h13:Has P L 13 c13
 h304:Has P L 304 zJE
 h305:Has P L 305 zI7
 h309:Has P L 309 zJh
 h310:Has P L 310 zJz
 h311:Has P L 311 zKr
 h312:Has P L 312 zJu
 h313:Has P L 313 zJO
 h315:Has P L 315 zKL
 h316:Has P L 316 zKa
 h317:Has P L 317 zJc
 h318:Has P L 318 zKE
instance {P:zQ} {L:Lib}:Coe (Sr P L) (S0 P L):=⟨fun h=>h.toS0⟩
section
variable {P:zQ} {L:Lib}
theorem zJG (h:S0 P L) {s:List Nat} (hl:s.length≤1000000000) (m:Int):zx P L 314 [.str s,zh m] (zh (zeh s m)):=by
 have e1:=zDX h.toRn hl;unfold zx at e1 ⊢;rw [zd h.h314];unfold zeh;by_cases h0:chk s=0
 ·obtain ⟨h1,_⟩:=zaX h0;have e2:=zCE h.toRn (za2 h0 (Nat.le_refl 2400)) (by omega);rw [←h1] at e2;rw [h0] at e1;unfold zx at e2;rw [if_pos h0];by_cases h2:sgn (zg s).num<m
  ·rw [if_pos h2];simp only [go_sem,reduceEqDiff,zxC,e1,decide_true,e2,h2]
  ·rw [if_neg h2];simp only [go_sem,reduceEqDiff,zxC,e1,decide_true,e2,h2]
 ·rw [if_neg h0];simp only [go_sem,reduceEqDiff,zxC,e1,h0,decide_false]
theorem zJP (h:S0 P L) {s:List Nat} (hl:s.length≤1000000000):zx P L 307 [.str s] (zh (zeh s 0)):=by
 have e1:=zJG h hl 0;unfold zx at e1 ⊢;rw [zd h.h307];simp only [go_sem,reduceEqDiff,zEJ,e1]
theorem zHe (h:S0 P L) {x y:List Nat} (hx:x.length≤1000000000) (hy:y.length≤1000000000):zx P L 308 [plT x y] (zh (zM [chk x,chk y])):=by
 have e1:=zH3 h.toRn h.h261 (zzA true [x,y]) (by simp) (fun s hs=>by simp at hs;rcases hs with rfl | rfl<;>assumption)
 simp only [List.length_cons,List.length_nil,Nat.zero_add,reduceAdd,List.map_cons,List.map_nil] at e1;unfold zx at e1 ⊢;rw [zd h.h308];simp only [go_sem,reduceEqDiff,reduceAdd,reduceLT,reduceLeDiff,Nat.mul_one,zDi,zi,zk,Nat.zero_add,zag,e1]
theorem zJJ (h:S0 P L) {x y s:List Nat} (hx:x.length≤1000000000) (hy:y.length≤1000000000) (hs:s.length≤1000000000):zx P L 306 [.agg [.str x,.str y,.str s]] (zh (zM [zM [chk x,chk y],zeh s 0])):=by
 have e1:=zHe h hx hy;have e2:=zJP h hs;have e3:=s42 h.h42 (za8 true [zM [chk x,chk y],zeh s 0]) (by simp);simp only [List.length_cons,List.length_nil,Nat.zero_add,reduceAdd,List.map_cons,List.map_nil] at e3;unfold zx at e1 e2 ⊢;rw [zd h.h306];simp only [go_sem,reduceEqDiff,reduceAdd,reduceLT,reduceLeDiff,Nat.mul_one,zDL,zj,zi,zk,Nat.zero_add,za0,e1,e2,show List.drop 2 [AV.str x,.str y,.str s]=[.str s] from rfl,e3]
theorem zD9 (h:S0 P L) {a:Rat} {K:Nat} (ka:Hq K a) (hK:K+2≤8000000000):zx P L 319 [.str (RT a)] (.str (RT (a*zbM))):=by
 have e1:=zl0 h.toRn ka zAT hK;rw [zKl] at e1;unfold zx at e1 ⊢;rw [zd h.h319];simp only [go_sem,reduceEqDiff,zDk,e1]
end
end VE
end
section
namespace VE
open Go (IntKind)
theorem zh2 (a b:Rat):zpu a b<0↔a<b:=by
 unfold zpu;by_cases h1:a<b
 ·simp [h1]
 ·rw [if_neg h1];split<;>simp [h1]
abbrev stT (x y s:List Nat):AV:= .agg [.str x,.str y,.str s]
def zcJ (hs h:Rat):Bool:=decide (hs=0)||decide (h<hs)
def zav (hs h:Rat):Rat:=if hs=0 then 1 else 1-h/hs
def zeq (hs t:Rat):Rat:=(hs-t*zbM)⁻¹-(hs+t*zbM)⁻¹
section
variable {P:zQ} {L:Lib}
theorem zme {hs hh:Rat} {K M:Nat} (ks:Hq K hs) (kh:Hq M hh):Hq (K+M+3) (zav hs hh):=by
 unfold zav
 split
 ·exact Hq_1.mono (by omega)
 ·exact (Hq_1.sub (kh.div ks)).mono (by omega)
end
end VE
end
section
namespace VE
open Go (IntKind)
theorem zeX {a b:Nat} (h:zm a=zm b):a=b:=by
 have h1:=zbX a;rw [h,zbX b] at h1;exact (Option.some.inj h1).symm
theorem zrn:∀(k n:Nat),n<k→n≠0→∃b r,zm n=b::r∧b≠48
 | 0,n,h,_=>absurd h (Nat.not_lt_zero n)
 | k+1,n,h,h0=>by
  by_cases h1:n<10
  ·exact ⟨48+n,[],zaZ h1,by omega⟩
  ·obtain ⟨b,r,e,hb⟩:=zrn k (n/10) (by omega) (by omega);exact ⟨b,r++[48+n%10],by rw [zbQ (by omega),e];rfl,hb⟩
theorem zoL (n:Nat):zbD (zm n)=true:=by
 unfold zbD;rw [zci,Bool.true_and];by_cases h0:n=0
 ·subst h0;decide
 ·obtain ⟨b,r,e,hb⟩:=zrn (n+1) n (by omega) h0;rw [e]
  have:Nat.beq b 48=false:=by
   cases hq:Nat.beq b 48 with
   | false=>rfl
   | true=>exact absurd (Nat.eq_of_beq_eq_true hq) hb
  simp [this]
theorem zoy (n:Nat):zcD (zm n)=n:=by unfold zcD;rw [zbX];rfl
theorem zhv {z:Int} (h:¬z<0):zS z=zm z.natAbs:=by
 obtain ⟨m,rfl⟩:∃m:Nat,z=m:=⟨z.toNat,by omega⟩;rw [za5,Int.natAbs_natCast]
theorem zrr (r:Rat):RT r=zS r.num++zcv r.den:=rfl
theorem zou (r:Rat):zP (RT r)=(zS r.num).length:=by rw [zrr,zdO,zg7];rfl
theorem zu6 {r:Rat} (h1:(zm r.num.natAbs).length≤600) (h2:(zm r.den).length≤600):chk (RT r)=0:=by
 have key:∀neg:Bool,(neg=true→r.num.natAbs≠0)→zgR neg (zm r.num.natAbs++zcv r.den)=0:=by
  intro neg hneg;have hco:Nat.gcd r.num.natAbs r.den=1:=r.reduced;have hd0:r.den≠0:=r.den_nz;generalize r.num.natAbs=m at*
  generalize r.den=d at*
  have hs:zP (zm m++zcv d)=(zm m).length:=by rw [zdL _ (zci m),zg7];rfl
  have c1:¬((true=false)∨(neg=true∧zm m=[48])):=by
   rintro (h | ⟨h,h'⟩)
   ·cases h
   ·exact hneg h (zeX (h'.trans (by decide)))
  unfold zgR;rw [hs,List.take_left,zoL,if_neg c1];by_cases hd:d=1
  ·have hr:zcv d=[]:=if_pos hd;rw [hr,List.append_nil,if_neg (by omega),if_neg (by omega),if_neg (by omega)]
  ·have hr:zcv d=47::zm d:=if_neg hd;have hdr:(zm m++zcv d).drop ((zm m).length+1)=zm d:=by
    rw [hr,show zm m++47::zm d=(zm m++[47])++zm d by simp,show (zm m).length+1=(zm m++[47]).length by simp,List.drop_left]
   have hl:(zm m++zcv d).length=(zm m).length+1+(zm d).length:=by rw [hr];simp;omega
   rw [hdr,hl,zoL,zoy,zoy];have n0:zm d≠[48]:=fun e=>hd0 (zeX (e.trans (by decide)))
   have n1:zm d≠[49]:=fun e=>hd (zeX (e.trans (by decide)))
   rw [if_neg (by simp [n0,n1]),if_neg (by omega),if_neg (by simp [hco])]
 rw [zrr];by_cases h0:r.num<0
 ·rw [zaV h0];show (if 45=45 then zgR true (zm r.num.natAbs++zcv r.den) else zgR false (45::(zm r.num.natAbs++zcv r.den)))=0
  rw [if_pos rfl];exact key true (fun _=>by omega)
 ·rw [zhv h0];have k:=key false (fun h=>by cases h);have hp:=zbr r.num.natAbs;have hdg:=zci r.num.natAbs
  cases hq:zm r.num.natAbs with
  | nil=>rw [hq] at hp;simp at hp
  | cons b t=>
   rw [hq] at k hdg
   have:=zin hdg
   show (if b=45 then zgR true (t++zcv r.den) else zgR false (b::(t++zcv r.den)))=0
   rw [if_neg (by omega)];exact k
theorem zw0 {a b:Int} (h:zS a=zS b):a=b:=by
 have hd:∀{z w:Int},z<0→¬w<0→zS z≠zS w:=by
  intro z w h1 h2 e;rw [zaV h1,zhv h2] at e
  have:=zci w.natAbs
  rw [←e] at this
  have:=zin this
  omega
 by_cases h1:a<0<;>by_cases h2:b<0
 ·rw [zaV h1,zaV h2,List.cons.injEq] at h
  have:=zeX h.2
  omega
 ·exact absurd h (hd h1 h2)
 ·exact absurd h.symm (hd h2 h1)
 ·rw [zhv h1,zhv h2] at h
  have:=zeX h
  omega
theorem zEI {a b:Rat} (h:RT a=RT b):a=b:=by
 have hs:=zou a;rw [h,zou b] at hs;rw [zrr,zrr] at h;obtain ⟨h1,h2⟩:=List.append_inj h hs.symm;refine Rat.ext (zw0 h1) ?_;have hp:∀n,zm n≠[]:=fun n e=>by have:=zbr n;rw [e] at this;simp at this
 unfold zcv at h2;by_cases ha:a.den=1<;>by_cases hb:b.den=1
 ·rw [ha,hb]
 ·rw [if_pos ha,if_neg hb] at h2;cases h2
 ·rw [if_neg ha,if_pos hb] at h2;cases h2
 ·rw [if_neg ha,if_neg hb,List.cons.injEq] at h2;exact zeX h2.2
theorem zvQ {r:Rat} (h1:(zm r.num.natAbs).length≤600) (h2:(zm r.den).length≤600):zg (RT r)=r:=(zEI (zaX (zu6 h1 h2)).1).symm
theorem zk6 {r:Rat} {K:Nat} (h:Hq K r) (hK:K≤1800):(zm r.num.natAbs).length≤600∧(zm r.den).length≤600:=by
 refine ⟨zgV (B:=K) hK (by decide) h.1,zgV (B:=K) hK (by decide) ?_⟩
 have:=h.2
 unfold Bd at this
 rwa [Int.natAbs_natCast] at this
theorem zqK {r:Rat} {K:Nat} (h:Hq K r) (hK:K≤1800):chk (RT r)=0:=zu6 (zk6 h hK).1 (zk6 h hK).2
theorem zo3 {r:Rat} {K:Nat} (h:Hq K r) (hK:K≤1800):zg (RT r)=r:=zvQ (zk6 h hK).1 (zk6 h hK).2
theorem zry {r:Rat} {K:Nat} (h:Hq K r) (hK:K≤1800):LG r=false:=by
 obtain ⟨h1,h2⟩:=zk6 h hK;unfold LG LN;rw [Int.natAbs_natCast,decide_eq_false (by omega),decide_eq_false (by omega)];rfl
noncomputable def zcq (k:Nat) (s:List Nat):Bool:=decide (s.length≤2*k+2)&&(decide (chk s=0)&&(decide ((zm (zg s).num.natAbs).length≤k)&&decide ((zm (zg s).den).length≤k)))
theorem zO {s:List Nat} (h:zcq 6 s=true):s.length≤14∧chk s=0∧Hq 24 (zg s):=by
 unfold zcq at h;simp only [Bool.and_eq_true,decide_eq_true_eq] at h;obtain ⟨h1,h2,h3,h4⟩:=h
 exact ⟨by omega,h2,zgo (k:=6) (by omega) (by omega),zgo (z:=((zg s).den:Int)) (k:=6) (by rw [Int.natAbs_natCast];omega) (by omega)⟩
section
variable {P:zQ} {L:Lib}
theorem zFt (h:Rn P L) (h359:Has P L 359 zoZ) {s:List Nat} (hs:s.length<9223372036854775808):zx P L 359 [.str s,zh 6] (.bool (zcq 6 s)):=by
 unfold zx zcq;rw [zd h359];by_cases h1:s.length≤14
 ·have e1:=zDX h (s:=s) (by omega);unfold zx at e1;rw [decide_eq_true (show s.length≤2*6+2 from h1),Bool.true_and];by_cases h2:chk s=0
  ·rw [h2] at e1;obtain ⟨hR,_⟩:=zaX h2;have kr:=za2 h2 (Nat.le_refl 2400);obtain ⟨e2,e3,e4⟩:=zzn h kr (by omega);rw [←hR] at e2 e4;have l1:=zjL kr.1;have l2:=zjL kr.2;rw [Int.natAbs_natCast] at l2;rw [decide_eq_true h2,Bool.true_and];by_cases h3:(zm (zg s).num.natAbs).length≤6
   ·rw [decide_eq_true h3,Bool.true_and];by_cases h4:(zm (zg s).den).length≤6
    ·rw [decide_eq_true h4]
     simp only [go_sem,reduceEqDiff,zoZ,zf (n:=12) (by decide) (by decide),zf (n:=14) (by decide) (by decide),Int.reduceMul,Int.reduceAdd,decide_true,show (s.length:Int)≤14 by omega,e1,e2,e3,e4,show ((zm (zg s).num.natAbs).length:Int)≤6 by omega,show ((zm (zg s).den).length:Int)≤6 by omega]
    ·rw [decide_eq_false h4]
     simp only [go_sem,reduceEqDiff,zoZ,zf (n:=12) (by decide) (by decide),zf (n:=14) (by decide) (by decide),Int.reduceMul,Int.reduceAdd,decide_true,show (s.length:Int)≤14 by omega,e1,e2,e3,e4,show ((zm (zg s).num.natAbs).length:Int)≤6 by omega,show ¬((zm (zg s).den).length:Int)≤6 by omega,decide_false]
   ·rw [decide_eq_false h3,Bool.false_and]
    simp only [go_sem,reduceEqDiff,zoZ,zf (n:=12) (by decide) (by decide),zf (n:=14) (by decide) (by decide),Int.reduceMul,Int.reduceAdd,decide_true,show (s.length:Int)≤14 by omega,e1,e2,e3,show ¬((zm (zg s).num.natAbs).length:Int)≤6 by omega,decide_false]
  ·rw [decide_eq_false h2,Bool.false_and];have h2':¬chk s=0:=h2
   simp only [go_sem,reduceEqDiff,zoZ,zf (n:=12) (by decide) (by decide),zf (n:=14) (by decide) (by decide),Int.reduceMul,Int.reduceAdd,decide_true,show (s.length:Int)≤14 by omega,e1,h2',decide_false]
 ·rw [decide_eq_false (show ¬s.length≤2*6+2 from h1),Bool.false_and]
  simp only [go_sem,reduceEqDiff,zoZ,zf (n:=12) (by decide) (by decide),zf (n:=14) (by decide) (by decide),Int.reduceMul,Int.reduceAdd,show ¬(s.length:Int)≤14 by omega,decide_false]
end
end VE
end
section
namespace VE
open Go (IntKind)
def IsP (v:AV) (a b:Rat):Prop:=∃s1 w1 s2 w2 s3 w3 s4 w4,v= .agg [zh s1,w1,zh s2,w2,zh s3,w3,zh s4,w4]∧Nok s1 w1 a.num∧Nok s2 w2 (a.den:Int)∧Nok s3 w3 b.num∧Nok s4 w4 (b.den:Int)
section
variable {s1 s2 s3 s4:Int} {w1 w2 w3 w4:AV} {l1 l2 l3 l4:List Nat}
theorem zo6 (h1:IsU w1 l1) (h2:IsU w2 l2) (h3:IsU w3 l3) (h4:IsU w4 l4) (hp:Hp) (ct id:Nat) (a b c d e f g h:AV):stC hp ct id 0 8 [.int .i64 s1,w1,.int .i64 s2,w2,.int .i64 s3,w3,.int .i64 s4,w4] (some (.cells true true true 8 [a,b,c,d,e,f,g,h]))=some (.tup [],zac hp id (.cells true true true 8 [.int .i64 s1,w1,.int .i64 s2,w2,.int .i64 s3,w3,.int .i64 s4,w4]),ct):=by
 rw [zl9 (by rfl) (by simp) (by simp [zK,h1.one,h2.one,h3.one,h4.one,znt])];simp [zt,h1.pu,h2.pu,h3.pu,h4.pu,zcp,zpG]
theorem zoQ (h1:IsU w1 l1) (h2:IsU w2 l2) (h3:IsU w3 l3) (h4:IsU w4 l4) (hp:Hp):zaP hp (.agg [zh s1,w1,zh s2,w2,zh s3,w3,zh s4,w4])=some (.agg [zh s1,w1,zh s2,w2,zh s3,w3,zh s4,w4]):=by
 rcases h1 with ⟨rfl,_⟩ | ⟨e,rfl⟩<;>rcases h2 with ⟨rfl,_⟩ | ⟨e',rfl⟩<;>rcases h3 with ⟨rfl,_⟩ | ⟨e,rfl⟩<;>rcases h4 with ⟨rfl,_⟩ | ⟨e',rfl⟩<;>rfl
theorem zjD {tm:Env} {a b c d x y z w:AV} {x' y' z' w':AV} {r:List (Nat×Nat×X)} (h1:zX a=true) (h2:zX b=true) (h3:zX c=true) (h4:zX d=true):zfa tm [x',y',z',w',x,y,z,w] 0 4 [a,b,c,d] r=fill tm [a,b,c,d,x,y,z,w] r:=by
 rw [zhD (by rfl) (by simp) (by simp [zK,h1,h2,h3,h4])];rfl
theorem zjP {tm:Env} {a b c d x y z w:AV} {x' y' z' w':AV} {r:List (Nat×Nat×X)} (h1:zX a=true) (h2:zX b=true) (h3:zX c=true) (h4:zX d=true):zfa tm [x,y,z,w,x',y',z',w'] 4 4 [a,b,c,d] r=fill tm [x,y,z,w,a,b,c,d] r:=by
 rw [zhD (by rfl) (by simp) (by simp [zK,h1,h2,h3,h4])];rfl
theorem zBa {tm:Env} {a b x y z:AV} {r:List (Nat×Nat×X)} (h1:zX a=true) (h2:zX b=true):zfa tm [x,y,z] 0 2 [a,b] r=fill tm [a,b,z] r:=by
 rw [zhD (by rfl) (by simp) (by simp [zK,h1,h2])];rfl
theorem zja (a b c d e f g h:AV):ld1 8 true [a,b,c,d,e,f,g,h]=some (.agg [a,b,c,d,e,f,g,h]):=rfl
theorem zcr (a b c d:AV) (r:List AV):ld1 4 true (a::b::c::d::r)=some (.agg [a,b,c,d]):=rfl
theorem zbk (a b c:AV) (r:List AV):ld1 3 true (a::b::c::r)=some (.agg [a,b,c]):=rfl
theorem zhG (a b c d e f g h:AV):List.drop 4 [a,b,c,d,e,f,g,h]=[e,f,g,h]:=rfl
theorem zcf (a b c:AV):List.drop 2 [a,b,c]=[c]:=rfl
end
structure Sp (P:zQ) (L:Lib):Prop extends Ck P L where
 h31:Has P L 31 c31
 h33:Has P L 33 c33
 h53:Has P L 53 c53
 h54:Has P L 54 c54
 h60:Has P L 60 c60
 h61:Has P L 61 c61
 h63:Has P L 63 c63
 h64:Has P L 64 c64
 h65:Has P L 65 c65
 h68:Has P L 68 c68
 h72:Has P L 72 c72
 h75:Has P L 75 c75
 h112:Has P L 112 zFF
 h113:Has P L 113 zyI
 h114:Has P L 114 zFE
section
variable {P:zQ} {L:Lib}
theorem m53 (h:Sp P L) {x y:List Nat} (hx:x.length≤1000000000) (hy:y.length≤1000000000):zx P L 53 [plT x y] (zh (zM [chk x,chk y])):=by
 have e1:=m86 h.toCk hx;have e2:=m86 h.toCk hy;have e3:=s33 h.h33 (za8 true [chk x,chk y]) (by simp);simp only [List.length_cons,List.length_nil,Nat.zero_add,reduceAdd,List.map_cons,List.map_nil] at e3;unfold zx at e1 e2 ⊢;rw [zd h.h53];simp only [go_sem,reduceEqDiff,reduceAdd,reduceLT,reduceLeDiff,Nat.mul_one,c53,zi,zk,Nat.zero_add,zag,e1,e2,e3]
theorem zn1 (h:Sp P L) {s:List Nat} (h0:chk s=0):∃r,zx P L 62 [.str s] r∧IsQ r (zg s):=by
 obtain ⟨hR,_⟩:=zaX h0;have kr:=za2 h0 (Nat.le_refl 2400);have hl:=zeR kr;obtain ⟨r,e,hr⟩:=m62 h.toTx (a:=zg s) (by omega);rw [←hR] at e;exact ⟨r,e,hr⟩
theorem m61 (h:Sp P L) {s:List Nat} (hl:s.length≤1000000000) (m:Int):zx P L 61 [.str s,zh m] (zh (zeh s m)):=by
 have e1:=m86 h.toCk hl;unfold zx at e1 ⊢;rw [zd h.h61];unfold zeh;by_cases h0:chk s=0
 ·obtain ⟨r,e2,hr⟩:=zn1 h h0;have e3:=zKH h.toFr' hr;obtain ⟨s1,w1,s2,w2,rfl,h1,h2⟩:=hr;obtain ⟨l1,u1⟩:=h1.isU;obtain ⟨l2,u2⟩:=h2.isU;rw [h0] at e1;rw [if_pos h0];have e4:=fun b=>s31 h.h31 b 3
  unfold zx at e2 e3 e4;by_cases hm:sgn (zg s).num<m
  ·rw [if_pos hm];have e5:=e4 true;simp only [if_true] at e5;simp only [go_sem,reduceEqDiff,c61,e1,decide_true,Bool.not_true,e2,zo,zj,u1.frz,u2.frz,e3,hm,e5]
  ·rw [if_neg hm];have e5:=e4 false;simp only [Bool.false_eq_true,if_false] at e5;simp only [go_sem,reduceEqDiff,c61,e1,decide_true,Bool.not_true,e2,zo,zj,u1.frz,u2.frz,e3,hm,decide_false,e5]
 ·rw [if_neg h0];simp only [go_sem,reduceEqDiff,c61,e1,h0,decide_false,Bool.not_false]
theorem m60 (h:Sp P L) {x y s:List Nat} (hx:x.length≤1000000000) (hy:y.length≤1000000000) (hs:s.length≤1000000000):zx P L 60 [stT x y s] (zh (zM [zM [chk x,chk y],zeh s 0])):=by
 have e1:=m53 h hx hy;have e2:=m61 h hs 0;have e3:=s33 h.h33 (za8 true [zM [chk x,chk y],zeh s 0]) (by simp);simp only [List.length_cons,List.length_nil,Nat.zero_add,reduceAdd,List.map_cons,List.map_nil] at e3;unfold zx at e1 e2 ⊢;rw [zd h.h60];simp only [go_sem,reduceEqDiff,reduceAdd,reduceLT,reduceLeDiff,Nat.mul_one,c60,zj,zi,zk,Nat.zero_add,za0,e1,e2,zcf,e3]
theorem zGN (a b c d e f:List Nat):zex (.ag [2,2,2]) (stT a b c) (stT d e f)=some (eqL a d&&(eqL b e&&eqL c f)):=by
 show z7 [2,2,2] [.str a,.str b,.str c] [.str d,.str e,.str f]=_
 simp only [z7];cases eqL a d<;>cases eqL b e<;>cases eqL c f<;>rfl
theorem zd9 (a:List Nat):eqL a a=true:=zjA rfl
theorem m68 (h:Sp P L) (x y s:List Nat):zx P L 68 [stT x y s] (.bool (eqL s [48])):=by
 unfold zx;rw [zd h.h68];simp only [go_sem,reduceEqDiff,reduceAdd,reduceLeDiff,c68,zi,zk,Nat.zero_add,za0,zbk,zBa,zGN,zai,zd9,Bool.true_and]
theorem m54 (h:Sp P L) {x y:List Nat} (hx:chk x=0) (hy:chk y=0):∃r,zx P L 54 [plT x y] r∧IsP r (zg x) (zg y):=by
 obtain ⟨p,e1,hp⟩:=zn1 h hx;obtain ⟨q,e2,hq⟩:=zn1 h hy;obtain ⟨s1,w1,s2,w2,rfl,h1,h2⟩:=hp;obtain ⟨s3,w3,s4,w4,rfl,h3,h4⟩:=hq;obtain ⟨l1,u1⟩:=h1.isU;obtain ⟨l2,u2⟩:=h2.isU;obtain ⟨l3,u3⟩:=h3.isU;obtain ⟨l4,u4⟩:=h4.isU;refine ⟨_,?_,s1,w1,s2,w2,s3,w3,s4,w4,rfl,h1,h2,h3,h4⟩;unfold zx at e1 e2 ⊢;rw [zd h.h54];simp only [go_sem,reduceEqDiff,reduceAdd,c54,zi,zk,Nat.zero_add,zag,e1,e2,zo,u1.one,u2.one,u3.one,u4.one,zjD,zjP,zo6 u1 u2 u3 u4,zB,zad,List.drop_zero,zja,zoQ u1 u2 u3 u4]
theorem m75 (h:Sp P L) {v w:AV} {a b t:Rat} {K:Nat} (hv:IsP v a b) (hw:IsQ w t) (ka:Hq K a) (kb:Hq K b) (kt:Hq K t) (hK:K≤10000000000):∃r,zx P L 75 [v,w] r∧IsP r (a*t) (b*t):=by
 obtain ⟨s1,w1,s2,w2,s3,w3,s4,w4,rfl,h1,h2,h3,h4⟩:=hv;obtain ⟨p,e1,hp⟩:=m49 h.toFr' ⟨s1,w1,s2,w2,rfl,h1,h2⟩ hw ka kt hK;obtain ⟨q,e2,hq⟩:=m49 h.toFr' ⟨s3,w3,s4,w4,rfl,h3,h4⟩ hw kb kt hK;obtain ⟨s5,w5,s6,w6,rfl,h5,h6⟩:=hw;obtain ⟨x1,y1,x2,y2,rfl,g1,g2⟩:=hp;obtain ⟨x3,y3,x4,y4,rfl,g3,g4⟩:=hq;obtain ⟨l1,u1⟩:=h1.isU;obtain ⟨l2,u2⟩:=h2.isU;obtain ⟨l3,u3⟩:=h3.isU;obtain ⟨l4,u4⟩:=h4.isU;obtain ⟨l5,u5⟩:=h5.isU;obtain ⟨l6,u6⟩:=h6.isU;obtain ⟨m1,v1⟩:=g1.isU;obtain ⟨m2,v2⟩:=g2.isU;obtain ⟨m3,v3⟩:=g3.isU;obtain ⟨m4,v4⟩:=g4.isU;refine ⟨_,?_,x1,y1,x2,y2,x3,y3,x4,y4,rfl,g1,g2,g3,g4⟩;unfold zx at e1 e2 ⊢;rw [zd h.h75]
 simp only [go_sem,reduceEqDiff,reduceAdd,c75,zi,zk,Nat.zero_add,zhG,zcr,zj,u1.pu,u1.frz,u1.one,u2.pu,u2.frz,u2.one,u3.pu,u3.frz,u3.one,u4.pu,u4.frz,u4.one,u5.pu,u5.frz,u5.one,u6.pu,u6.frz,u6.one,v1.one,v2.one,v3.one,v4.one,e1,e2,zo,zjD,zjP,zo6 v1 v2 v3 v4,zB,zad,List.drop_zero,zja,zoQ v1 v2 v3 v4]
theorem zJw (h:Sp P L) {v w:AV} {a b c d:Rat} {K:Nat} (hv:IsP v a b) (hw:IsP w c d) (ka:Hq K a) (kb:Hq K b) (kc:Hq K c) (kd:Hq K d) (hK:K≤10000000000):∃r,zx P L 112 [v,w] r∧IsP r (a+c) (b+d):=by
 obtain ⟨s1,w1,s2,w2,s3,w3,s4,w4,rfl,h1,h2,h3,h4⟩:=hv;obtain ⟨s5,w5,s6,w6,s7,w7,s8,w8,rfl,h5,h6,h7,h8⟩:=hw;obtain ⟨p,e1,hp⟩:=m74 h.toFr' ⟨s1,w1,s2,w2,rfl,h1,h2⟩ ⟨s5,w5,s6,w6,rfl,h5,h6⟩ ka kc hK;obtain ⟨q,e2,hq⟩:=m74 h.toFr' ⟨s3,w3,s4,w4,rfl,h3,h4⟩ ⟨s7,w7,s8,w8,rfl,h7,h8⟩ kb kd hK;obtain ⟨x1,y1,x2,y2,rfl,g1,g2⟩:=hp;obtain ⟨x3,y3,x4,y4,rfl,g3,g4⟩:=hq;obtain ⟨l1,u1⟩:=h1.isU;obtain ⟨l2,u2⟩:=h2.isU;obtain ⟨l3,u3⟩:=h3.isU;obtain ⟨l4,u4⟩:=h4.isU;obtain ⟨l5,u5⟩:=h5.isU;obtain ⟨l6,u6⟩:=h6.isU;obtain ⟨l7,u7⟩:=h7.isU;obtain ⟨l8,u8⟩:=h8.isU;obtain ⟨m1,v1⟩:=g1.isU;obtain ⟨m2,v2⟩:=g2.isU;obtain ⟨m3,v3⟩:=g3.isU;obtain ⟨m4,v4⟩:=g4.isU;refine ⟨_,?_,x1,y1,x2,y2,x3,y3,x4,y4,rfl,g1,g2,g3,g4⟩;unfold zx at e1 e2 ⊢;rw [zd h.h112]
 simp only [go_sem,reduceEqDiff,reduceAdd,zFF,zi,zk,Nat.zero_add,zhG,zcr,zj,u1.pu,u1.frz,u1.one,u2.pu,u2.frz,u2.one,u3.pu,u3.frz,u3.one,u4.pu,u4.frz,u4.one,u5.pu,u5.frz,u5.one,u6.pu,u6.frz,u6.one,u7.pu,u7.frz,u7.one,u8.pu,u8.frz,u8.one,v1.one,v2.one,v3.one,v4.one,e1,e2,zo,zjD,zjP,zo6 v1 v2 v3 v4,zB,zad,List.drop_zero,zja,zoQ v1 v2 v3 v4]
theorem m72 (h:Sp P L) {v w:AV} {a b c d:Rat} {K:Nat} (hv:IsP v a b) (hw:IsP w c d) (ka:Hq K a) (kb:Hq K b) (kc:Hq K c) (kd:Hq K d) (hK:K≤10000000000):∃r,zx P L 72 [v,w] r∧IsP r (a-c) (b-d):=by
 obtain ⟨s1,w1,s2,w2,s3,w3,s4,w4,rfl,h1,h2,h3,h4⟩:=hv;obtain ⟨s5,w5,s6,w6,s7,w7,s8,w8,rfl,h5,h6,h7,h8⟩:=hw;obtain ⟨p,e1,hp⟩:=m50 h.toFr' ⟨s1,w1,s2,w2,rfl,h1,h2⟩ ⟨s5,w5,s6,w6,rfl,h5,h6⟩ ka kc hK;obtain ⟨q,e2,hq⟩:=m50 h.toFr' ⟨s3,w3,s4,w4,rfl,h3,h4⟩ ⟨s7,w7,s8,w8,rfl,h7,h8⟩ kb kd hK;obtain ⟨x1,y1,x2,y2,rfl,g1,g2⟩:=hp;obtain ⟨x3,y3,x4,y4,rfl,g3,g4⟩:=hq;obtain ⟨l1,u1⟩:=h1.isU;obtain ⟨l2,u2⟩:=h2.isU;obtain ⟨l3,u3⟩:=h3.isU;obtain ⟨l4,u4⟩:=h4.isU;obtain ⟨l5,u5⟩:=h5.isU;obtain ⟨l6,u6⟩:=h6.isU;obtain ⟨l7,u7⟩:=h7.isU;obtain ⟨l8,u8⟩:=h8.isU;obtain ⟨m1,v1⟩:=g1.isU;obtain ⟨m2,v2⟩:=g2.isU;obtain ⟨m3,v3⟩:=g3.isU;obtain ⟨m4,v4⟩:=g4.isU;refine ⟨_,?_,x1,y1,x2,y2,x3,y3,x4,y4,rfl,g1,g2,g3,g4⟩;unfold zx at e1 e2 ⊢;rw [zd h.h72]
 simp only [go_sem,reduceEqDiff,reduceAdd,c72,zi,zk,Nat.zero_add,zhG,zcr,zj,u1.pu,u1.frz,u1.one,u2.pu,u2.frz,u2.one,u3.pu,u3.frz,u3.one,u4.pu,u4.frz,u4.one,u5.pu,u5.frz,u5.one,u6.pu,u6.frz,u6.one,u7.pu,u7.frz,u7.one,u8.pu,u8.frz,u8.one,v1.one,v2.one,v3.one,v4.one,e1,e2,zo,zjD,zjP,zo6 v1 v2 v3 v4,zB,zad,List.drop_zero,zja,zoQ v1 v2 v3 v4]
theorem zKf (h:Sp P L) {v:AV} {a b:Rat} {K:Nat} (hv:IsP v a b) (ka:Hq K a) (kb:Hq K b) (hK:K≤4000000000):zx P L 113 [v] (.bool (LG a||LG b)):=by
 obtain ⟨s1,w1,s2,w2,s3,w3,s4,w4,rfl,h1,h2,h3,h4⟩:=hv;have e1:=zGP h.toTx ⟨s1,w1,s2,w2,rfl,h1,h2⟩ ka hK;have e2:=zGP h.toTx ⟨s3,w3,s4,w4,rfl,h3,h4⟩ kb hK;obtain ⟨l1,u1⟩:=h1.isU;obtain ⟨l2,u2⟩:=h2.isU;obtain ⟨l3,u3⟩:=h3.isU;obtain ⟨l4,u4⟩:=h4.isU;unfold zx at e1 e2 ⊢;rw [zd h.h113]
 cases hb:LG a with
 | true=>
  rw [hb] at e1;simp only [go_sem,reduceEqDiff,reduceAdd,zyI,zi,zk,Nat.zero_add,zcr,zj,u1.pu,u1.frz,u1.one,u2.pu,u2.frz,u2.one,u3.pu,u3.one,u4.pu,u4.one,e1];rfl
 | false=>
  rw [hb] at e1;simp only [go_sem,reduceEqDiff,reduceAdd,zyI,zi,zk,Nat.zero_add,zhG,zcr,zj,u1.pu,u1.frz,u1.one,u2.pu,u2.frz,u2.one,u3.pu,u3.frz,u3.one,u4.pu,u4.frz,u4.one,e1,e2];rfl
theorem zJy (h:Sp P L) {v:AV} {a b:Rat} {K:Nat} (hv:IsP v a b) (ka:Hq K a) (kb:Hq K b) (hK:K≤4000000000):zx P L 114 [v] (plV a b):=by
 obtain ⟨s1,w1,s2,w2,s3,w3,s4,w4,rfl,h1,h2,h3,h4⟩:=hv;have e1:=m46 h.toTx ⟨s1,w1,s2,w2,rfl,h1,h2⟩ ka hK;have e2:=m46 h.toTx ⟨s3,w3,s4,w4,rfl,h3,h4⟩ kb hK;obtain ⟨l1,u1⟩:=h1.isU;obtain ⟨l2,u2⟩:=h2.isU;obtain ⟨l3,u3⟩:=h3.isU;obtain ⟨l4,u4⟩:=h4.isU;unfold zx at e1 e2 ⊢;rw [zd h.h114];simp only [go_sem,reduceEqDiff,reduceAdd,reduceLeDiff,zFE,zi,zk,Nat.zero_add,zhG,zcr,zj,u1.pu,u1.frz,u1.one,u2.pu,u2.frz,u2.one,u3.pu,u3.frz,u3.one,u4.pu,u4.frz,u4.one,e1,e2,zaH];rfl
theorem m65 (h:Sp P L) {v:AV} {a b:Rat} {K:Nat} (hv:IsP v a b) (ka:Hq K a) (kb:Hq K b) (hK:K≤4000000000):zx P L 65 [v] (if (LG a||LG b)=true then .tup [plT [] [],zh 4] else .tup [plV a b,zh 0]):=by
 have e1:=zKf h hv ka kb hK;have e2:=zJy h hv ka kb hK;obtain ⟨s1,w1,s2,w2,s3,w3,s4,w4,rfl,h1,h2,h3,h4⟩:=hv;obtain ⟨l1,u1⟩:=h1.isU;obtain ⟨l2,u2⟩:=h2.isU;obtain ⟨l3,u3⟩:=h3.isU;obtain ⟨l4,u4⟩:=h4.isU;unfold zx at e1 e2 ⊢;rw [zd h.h65]
 cases hb:(LG a||LG b) with
 | true=>
  rw [hb] at e1;rw [if_pos rfl];simp only [go_sem,reduceEqDiff,reduceAdd,c65,zi,Nat.zero_add,zja,zj,u1.pu,u1.frz,u1.one,u2.pu,u2.frz,u2.one,u3.pu,u3.frz,u3.one,u4.pu,u4.frz,u4.one,e1,zaH];rfl
 | false=>
  rw [hb] at e1;rw [if_neg (by decide)];simp only [go_sem,reduceEqDiff,reduceAdd,c65,zi,Nat.zero_add,zja,zj,u1.pu,u1.frz,u1.one,u2.pu,u2.frz,u2.one,u3.pu,u3.frz,u3.one,u4.pu,u4.frz,u4.one,e1,e2,zo,zaH];rfl
end
end VE
end
