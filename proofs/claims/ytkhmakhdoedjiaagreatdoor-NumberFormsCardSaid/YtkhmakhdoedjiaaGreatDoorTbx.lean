import Derived.Test.YtkhmakhdoedjiaaGreatDoorTbw
import Derived.Test.YtkhmakhdoedjiaaGreatDoorTbv
import Derived.Test.YtkhmakhdoedjiaaGreatDoorTbe
import Derived.Test.YtkhmakhdoedjiaaGreatDoorTat
import Derived.Test.YtkhmakhdoedjiaaGreatDoorTau
set_option linter.all false
set_option maxRecDepth 100000
open Nat (reduceAdd reduceEqDiff reduceLeDiff)
section
namespace VE
open Go (IntKind)
def LN (z:Int):Bool:=decide (600<(zo z.natAbs).length)
def LG (r:Rat):Bool:=LN r.num||LN (r.den:Int)
theorem zo2 {m B k:Nat} (hB:B≤3*k) (hk:0<k) (h:m<2^B):(zo m).length≤k:=by
 obtain ⟨j,rfl⟩:∃j,k=j+1:=⟨k-1,by omega⟩;refine zb7 (Nat.lt_of_lt_of_le h (Nat.le_trans (Nat.pow_le_pow_right (by decide) hB) ?_));rw [Nat.pow_mul];exact Nat.pow_le_pow_left (by decide) _
theorem zmy:∀f n:Nat,zbM f n≤f
 | 0,_=>Nat.le_refl _
 | f+1,n=>by
  unfold zbM
  cases Nat.beq n 0 with
  | true=>exact Nat.zero_le _
  | false=>have:=zmy f (n/2);simp only [cond_false];omega
theorem zKX {P:zN} {L:Lib} {f:Run} (h:L.pure 175=some zkn) {x:Nat} (hx:x<18446744073709551616):zk P L f 175 [uc x]=some (zh (zbM 64 x:Nat)):=by
 rw [zaA h];show (bif Nat.blt x 18446744073709551616 then _ else none)=_
 rw [zcP hx];rfl
theorem zBO {V n top low:Nat} (hn:0<n) (h0:0<top) (ht:top<18446744073709551616) (hV:V=low+18446744073709551616^(n-1)*top) (hl:low<18446744073709551616^(n-1)):V<2^(64*(n-1)+zbM 64 top):=by
 obtain ⟨l1,l2,l3⟩:=zkK h0 ht;have hle:=zmy 64 top;have h1:top<2^zbM 64 top:=by
  have e:(18446744073709551616:Nat)=2^zbM 64 top*2^(64-zbM 64 top):=by rw [←Nat.pow_add,show zbM 64 top+(64-zbM 64 top)=64 by omega]
  rw [e] at l3;exact Nat.lt_of_mul_lt_mul_right l3
 have h2:V<18446744073709551616^(n-1)*(top+1):=by rw [hV,Nat.mul_add,Nat.mul_one];omega
 have h3:=Nat.mul_le_mul_left (18446744073709551616^(n-1)) (show top+1≤2^zbM 64 top from h1);rw [Nat.pow_add,Nat.pow_mul];exact Nat.lt_of_lt_of_le h2 h3
section
variable {P:zN} {L:Lib}
theorem zP8 (h:Tx P L) {v:AV} {z:Int} {K:Nat} (hv:IsN v z) (hz:Bd K z) (hK:K≤4000000000):∃B:Nat,zK P L 172 [v] (zh B)∧z.natAbs<2^B∧B≤300000000000:=by
 obtain ⟨s,w,rfl,hn⟩:=hv;obtain ⟨l,u⟩:=hn.isU;obtain ⟨r,e1,hr⟩:=zmu h.toNu hn;obtain ⟨ws,hw,g,nz',hb⟩:=hr;have hl:ws.length≤4000000000:=Nat.le_trans (zhN nz' hb (Nat.lt_of_lt_of_le hz (zfg K))) hK;unfold zK at e1 ⊢;by_cases h0:ws=[]
 ·subst h0;have hz0:z.natAbs=0:=by rw [←hb];rfl
  refine ⟨0,?_,by rw [hz0];decide,by omega⟩
  rw [zf h.h172];simp only [go_sem,reduceEqDiff,reduceAdd,zBA,zu,z6,zG,u.pu,u.frz,u.one,e1,hw.len,List.length_nil,show ((0:Nat):Int)=0 from rfl,decide_true]
 ·have hp:0<ws.length:=List.length_pos_iff.2 h0;have hlast:=zhm nz' h0;have hlW:=zaZ (show 0<18446744073709551616 by decide) g (ws.length-1);have ei:=hw.ixa (i:=ws.length-1) (by omega);have htk:=zaW (b:=18446744073709551616) (l:=ws) (ws.length-1);have hlow:=zd4 (zef g (ws.length-1));rw [List.length_take,Nat.min_eq_left (by omega)] at hlow;rw [show ws.length-1+1=ws.length by omega,List.take_of_length_le (Nat.le_refl _)] at htk;generalize ws.getD (ws.length-1) 0=top at*
  have e2:=zKX (P:=P) (f:=D P L) h.h175 hlW;have hle:=zmy 64 top;have hbits:=zBO hp (Nat.pos_of_ne_zero hlast) hlW htk hlow;rw [hb] at hbits;refine ⟨64*(ws.length-1)+zbM 64 top,?_,hbits,by omega⟩;rw [zf h.h172]
  simp only [go_sem,reduceEqDiff,reduceAdd,zBA,zu,z6,zG,u.pu,u.frz,u.one,e1,hw.len,show ¬(ws.length:Int)=0 by omega,show (ws.length:Int)-1=((ws.length-1:Nat):Int) by omega,zy (n:=ws.length-1) (by omega),show (64:Int)*((ws.length-1:Nat):Int)=((64*(ws.length-1):Nat):Int) by omega,zy (n:=64*(ws.length-1)) (by omega),ei,e2,show ((64*(ws.length-1):Nat):Int)+((zbM 64 top:Nat):Int)=((64*(ws.length-1)+zbM 64 top:Nat):Int) from rfl,zy (n:=64*(ws.length-1)+zbM 64 top) (by omega)]
theorem zvr (z:Int):(if zbz [45] (zW z)=true then (zW z).drop 1 else zW z)=zo z.natAbs:=by
 by_cases h:z<0
 ·rw [zby h];rfl
 ·obtain ⟨m,rfl⟩:∃m:Nat,z=m:=⟨z.toNat,by omega⟩;rw [za7];obtain ⟨b,r,hb,h1,_⟩:=zeG m;rw [Int.natAbs_natCast,hb,zh0 h1];rfl
theorem zNj (h:Tx P L) {v:AV} {z:Int} {K:Nat} (hv:IsN v z) (hz:Bd K z) (hK:K≤4000000000):zK P L 151 [v] (.bool (LN z)):=by
 obtain ⟨B,e1,hB,hBb⟩:=zP8 h hv hz hK;have e2:=m99 h hv hz hK;obtain ⟨s,w,rfl,hn⟩:=hv;obtain ⟨l,u⟩:=hn.isU;have e3:zk P L (D P L) 153 [.str (zW z),.str [45]]=some (.str (zo z.natAbs)):=by
  rw [zaA h.h153,←zvr];show some (AV.str (bif zbz [45] (zW z) then (zW z).drop 1 else zW z))=_
  cases zbz [45] (zW z)<;>rfl
 unfold zK at e1 e2 ⊢;rw [zf h.h151];unfold LN;by_cases h1:1800<B
 ·simp only [go_sem,reduceEqDiff,reduceAdd,zAq,zu,z6,zG,u.pu,u.frz,u.one,e1,show (1800:Int)<(B:Int) by omega,decide_true,e2,e3];by_cases h2:600<(zo z.natAbs).length
  ·rw [decide_eq_true h2,decide_eq_true (by omega)]
  ·rw [decide_eq_false h2,decide_eq_false (by omega)]
 ·have h2:=zo2 (k:=600) (by omega) (by decide) hB;rw [decide_eq_false (by omega)];simp only [go_sem,reduceEqDiff,reduceAdd,zAq,zu,z6,zG,u.pu,u.frz,u.one,e1,show ¬(1800:Int)<(B:Int) by omega,decide_false]
theorem zP4 (h:Tx P L) {v:AV} {a:Rat} {K:Nat} (hv:IsQ v a) (ka:Hq K a) (hK:K≤4000000000):zK P L 107 [v] (.bool (LG a)):=by
 obtain ⟨s1,w1,s2,w2,rfl,h1,h2⟩:=hv;have e1:=zNj h ⟨s1,w1,rfl,h1⟩ ka.1 hK;have e2:=zNj h ⟨s2,w2,rfl,h2⟩ ka.2 hK;obtain ⟨l1,u1⟩:=h1.isU;obtain ⟨l2,u2⟩:=h2.isU;unfold zK at e1 e2 ⊢;rw [zf h.h107];unfold LG
 cases hb:LN a.num with
 | true=>
  rw [hb] at e1;simp only [go_sem,reduceEqDiff,reduceAdd,zBz,zu,zI,Nat.zero_add,z6,zG,u1.pu,u1.frz,u1.one,u2.pu,u2.one,e1];rfl
 | false=>
  rw [hb] at e1;simp only [go_sem,reduceEqDiff,reduceAdd,zBz,zu,zI,Nat.zero_add,show List.drop 2 [zh s1,w1,zh s2,w2]=[zh s2,w2] from rfl,z6,zG,u1.pu,u1.frz,u1.one,u2.pu,u2.frz,u2.one,e1,e2];rfl
end
end VE
end
section
namespace VE
open Go (IntKind)
def IsT (v:AV) (l:List (List Nat)):Prop:=IsL v (l.map AV.str)
section
variable {v:AV} {l:List (List Nat)}
theorem IsT.len (h:IsT v l) {hp:Hp}:zb8 hp 1 v=some (.int .i64 (l.length:Nat)):=by
 have:=IsL.len (hp:=hp) h
 rwa [List.length_map] at this
theorem IsT.pu (h:IsT v l):zx v=true:=IsL.pu h
theorem IsT.frz (h:IsT v l) (n:Nat) {hp:Hp}:zaf (n+1) hp v=some (v,hp):=IsL.frz h n
theorem IsT.shut (h:IsT v l):VE.shut v=v:=IsL.shut h
theorem IsT.shut1 (h:IsT v l):VE.shut1 v=v:=IsL.shut1 h
theorem IsT.res (h:IsT v l) {hp:Hp}:zaL hp v=some v:=IsL.res h
theorem IsT.one (h:IsT v l):z9 v=true:=IsL.one h
theorem IsT.cells (h:IsT v l):cellsOf v=[v]:=IsL.cells h
theorem IsT.ixa (h:IsT v l) {i:Nat} (hi:i<l.length):zdh 1 i v=some (.vptr (.str l[i]::(l.map AV.str).drop (i+1))):=by
 have:=IsL.ixa h (i:=i) (by simpa using hi)
 rw [this];simp
end
section
variable {P:zN} {L:Lib}
theorem zBT (h:Rm P L) {a:Rat} {K:Nat} (ka:Hq K a) (hK:K≤4000000000):zk P L (D P L) 284 [.str (RT a)]=some (.str (zW a.num))∧zk P L (D P L) 285 [.str (zW a.num)]=some (.str (zo a.num.natAbs))∧zk P L (D P L) 286 [.str (RT a)]=some (.str (zo a.den)):=by
 have hl:=zo4 ka;have e0:=ztp h.h272 (s:=RT a) (by omega);have hns:=zgk a.num;have hli:=zdL ka.1;have hcut:zL (RT a)=(zW a.num).length∧(RT a).take (zW a.num).length=zW a.num:=by
  unfold RT;by_cases hd:a.den=1
  ·rw [if_pos hd,List.append_nil]
   have:=zcr a.num []
   rw [List.append_nil] at this;exact ⟨by rw [this];simp [zL],List.take_length⟩
  ·rw [if_neg hd];exact ⟨by rw [zcr];simp [zL],List.take_left⟩
 obtain ⟨hc1,hc2⟩:=hcut;rw [hc1] at e0;have hlen:(zW a.num).length≤(RT a).length:=by unfold RT;simp
 have e1:zk P L (D P L) 284 [.str (RT a)]=some (.str (zW a.num)):=by
  unfold zK at e0;rw [zf h.h284]
  have:=znW (s:=RT a) hlen
  simp only [go_sem,reduceEqDiff,zFg,e0,zau,zay,zae,this,hc2]
 have hT:zW a.num=TT a.num 1:=by unfold TT;simp
 have e2:zk P L (D P L) 285 [.str (zW a.num)]=some (.str (zo a.num.natAbs)):=by
  have e:=zNU h (n:=a.num) (d:=1) (by rw [←hT];omega) (fun _=>rfl);rw [←hT] at e;unfold zK at e;rw [zf h.h285];by_cases h0:a.num<0
  ·have es:sgn a.num= -1:=by unfold sgn;rw [if_pos h0]
   rw [es] at e;rw [zby h0] at e ⊢;have hc:=zhw (s:=45::zo a.num.natAbs) (k:=1) (by simp);simp only [List.drop_succ_cons,List.drop_zero,List.length_cons] at hc;simp only [go_sem,reduceEqDiff,zCy,e,show (-1:Int)<0 by decide,zau,zay,zae,hc]
  ·have es:¬sgn a.num<0:=by unfold sgn;rw [if_neg h0];split<;>decide
   have hi:zW a.num=zo a.num.natAbs:=by
    obtain ⟨m,hm⟩:∃m:Nat,a.num=m:=⟨a.num.toNat,by omega⟩;rw [hm,za7,Int.natAbs_natCast]
   simp only [go_sem,reduceEqDiff,zCy,e,es];rw [hi]
 have e3:zk P L (D P L) 286 [.str (RT a)]=some (.str (zo a.den)):=by
  unfold zK at e0;rw [zf h.h286];by_cases hd:a.den=1
  ·have hR:(RT a).length=(zW a.num).length:=by unfold RT;rw [if_pos hd];simp
   rw [hd,show zo 1=[49] by decide];simp only [go_sem,reduceEqDiff,zCS,e0,show ((zW a.num).length:Int)=((RT a).length:Int) by omega,decide_true]
  ·have hR:RT a=(zW a.num++[47])++zo a.den:=by unfold RT;rw [if_neg hd];simp
   have hRl:(RT a).length=(zW a.num).length+1+(zo a.den).length:=by rw [hR];simp;omega
   have hp:=zdd a.den;have hc:=zhw (s:=RT a) (k:=(zW a.num).length+1) (by omega);have hdr:(RT a).drop ((zW a.num).length+1)=zo a.den:=by
    rw [hR,show (zW a.num).length+1=(zW a.num++[47]).length by simp,List.drop_left]
   rw [hdr] at hc
   simp only [go_sem,reduceEqDiff,zCS,e0,show ¬((zW a.num).length:Int)=((RT a).length:Int) by omega,show ((zW a.num).length:Int)+1=(((zW a.num).length+1:Nat):Int) from rfl,zy (n:=(zW a.num).length+1) (by omega),zau,zay,zae,hc]
 exact ⟨e1,e2,e3⟩
theorem zO5 (h:Rl P L) {a:Rat} {K:Nat} (ka:Hq K a) (hK:K≤4000000000):zK P L 269 [.str (RT a)] (zh (if LG a=true then 4 else 0)):=by
 obtain ⟨e1,e2,e3⟩:=zBT h.toRm ka hK;have hn:=zjd ka.1;have hd:=zjd ka.2;rw [Int.natAbs_natCast] at hd;unfold zK;rw [zf h.h269];unfold LG LN;rw [Int.natAbs_natCast];by_cases h1:600<(zo a.num.natAbs).length
 ·rw [decide_eq_true h1,Bool.true_or,if_pos rfl];simp only [go_sem,reduceEqDiff,zy3,e1,e2,show (600:Int)<((zo a.num.natAbs).length:Int) by omega,decide_true]
 ·by_cases h2:600<(zo a.den).length
  ·rw [decide_eq_true h2,Bool.or_true,if_pos rfl];simp only [go_sem,reduceEqDiff,zy3,e1,e2,show ¬(600:Int)<((zo a.num.natAbs).length:Int) by omega,decide_false,e3,show (600:Int)<((zo a.den).length:Int) by omega]
  ·rw [decide_eq_false h1,decide_eq_false h2,Bool.or_self,if_neg (by decide)];simp only [go_sem,reduceEqDiff,zy3,e1,e2,show ¬(600:Int)<((zo a.num.natAbs).length:Int) by omega,decide_false,e3,show ¬(600:Int)<((zo a.den).length:Int) by omega]
end
end VE
end
section
namespace VE
open Go (IntKind)
open Classical in
noncomputable def zey (s:List Nat):Rat:=if h:chk s=0 then Classical.choose (zyK h) else 0
theorem zk1 {s:List Nat} (h:chk s=0):s=RT (zey s)∧(zo (zey s).num.natAbs).length≤600∧(zo (zey s).den).length≤600:=by
 unfold zey;rw [dif_pos h];exact Classical.choose_spec (zyK h)
theorem zlV {z:Int} {k M:Nat} (h:(zo z.natAbs).length≤k) (hM:4*k≤M):Bd M z:=by
 have h1:=zjk z.natAbs;have h2:=zg1 (zo z.natAbs).length;have h3:(2:Nat)^(4*(zo z.natAbs).length)≤2^M:=Nat.pow_le_pow_right (by decide) (by omega);exact Nat.lt_of_lt_of_le h1 (Nat.le_trans h2 h3)
theorem zmw {s:List Nat} (h:chk s=0) {M:Nat} (hM:2400≤M):Hq M (zey s):=by
 obtain ⟨_,h1,h2⟩:=zk1 h
 exact ⟨zlV h1 (by omega),zlV (z:=((zey s).den:Int)) (by rw [Int.natAbs_natCast];exact h2) (by omega)⟩
instance (k:Nat) (z:Int):Decidable (Bd k z):=inferInstanceAs (Decidable (z.natAbs<2^k))
section
variable {P:zN} {L:Lib}
end
end VE
end
section
namespace VE
open Go (IntKind)
def IsP (v:AV) (a b:Rat):Prop:=∃s1 w1 s2 w2 s3 w3 s4 w4,v= .agg [zh s1,w1,zh s2,w2,zh s3,w3,zh s4,w4]∧Nok s1 w1 a.num∧Nok s2 w2 (a.den:Int)∧Nok s3 w3 b.num∧Nok s4 w4 (b.den:Int)
section
variable {s1 s2 s3 s4:Int} {w1 w2 w3 w4:AV} {l1 l2 l3 l4:List Nat}
theorem zM1 (h1:IsU w1 l1) (h2:IsU w2 l2) (h3:IsU w3 l3) (h4:IsU w4 l4) (hp:Hp) (ct id:Nat) (a b c d e f g h:AV):stC hp ct id 0 8 [.int .i64 s1,w1,.int .i64 s2,w2,.int .i64 s3,w3,.int .i64 s4,w4] (some (.cells true true true 8 [a,b,c,d,e,f,g,h]))=some (.tup [],z7 hp id (.cells true true true 8 [.int .i64 s1,w1,.int .i64 s2,w2,.int .i64 s3,w3,.int .i64 s4,w4]),ct):=by
 rw [zoo (by rfl) (by simp) (by simp [zH,h1.one,h2.one,h3.one,h4.one,zmJ])];simp [zn,h1.pu,h2.pu,h3.pu,h4.pu,zb6,zpz]
theorem zOf (h1:IsU w1 l1) (h2:IsU w2 l2) (h3:IsU w3 l3) (h4:IsU w4 l4) (hp:Hp):zaL hp (.agg [zh s1,w1,zh s2,w2,zh s3,w3,zh s4,w4])=some (.agg [zh s1,w1,zh s2,w2,zh s3,w3,zh s4,w4]):=by
 rcases h1 with ⟨rfl,_⟩ | ⟨e,rfl⟩<;>rcases h2 with ⟨rfl,_⟩ | ⟨e',rfl⟩<;>rcases h3 with ⟨rfl,_⟩ | ⟨e,rfl⟩<;>rcases h4 with ⟨rfl,_⟩ | ⟨e',rfl⟩<;>rfl
end
section
variable {P:zN} {L:Lib}
theorem zmc (a:List Nat):eqL a a=true:=zjc rfl
end
end VE
end
section
namespace VE
open Go (IntKind)
structure F4 (c1 c2 c3 c4:AV):Prop where
 frz:∀(n:Nat) (hp:Hp),zaf (n+20) hp (.agg [c1,c2,c3,c4])=some (.agg [c1,c2,c3,c4],hp)
 res:∀hp:Hp,zaL hp (.agg [c1,c2,c3,c4])=some (.agg [c1,c2,c3,c4])
 st:∀(hp:Hp) (ct id:Nat) (a b c d:AV),stC hp ct id 0 4 [c1,c2,c3,c4] (some (.cells true true true 4 [a,b,c,d]))=some (.tup [],z7 hp id (.cells true true true 4 [c1,c2,c3,c4]),ct)
 bx:∀ct:Nat,zoc ct 4 [c1,c2,c3,c4]=some (.ptr ct 0,.cells true true true 4 [c1,c2,c3,c4])
 o1:z9 c1=true
 o2:z9 c2=true
 o3:z9 c3=true
 o4:z9 c4=true
 pu:zx (.agg [c1,c2,c3,c4])=true
 z1:∀(n:Nat) (hp:Hp),zaf (n+1) hp c1=some (c1,hp)
 z2:∀(n:Nat) (hp:Hp),zaf (n+1) hp c2=some (c2,hp)
 z3:∀(n:Nat) (hp:Hp),zaf (n+1) hp c3=some (c3,hp)
 z4:∀(n:Nat) (hp:Hp),zaf (n+1) hp c4=some (c4,hp)
structure F8 (c1 c2 c3 c4 c5 c6 c7 c8:AV):Prop where
 frz:∀(n:Nat) (hp:Hp),zaf (n+20) hp (.agg [c1,c2,c3,c4,c5,c6,c7,c8])=some (.agg [c1,c2,c3,c4,c5,c6,c7,c8],hp)
 res:∀hp:Hp,zaL hp (.agg [c1,c2,c3,c4,c5,c6,c7,c8])=some (.agg [c1,c2,c3,c4,c5,c6,c7,c8])
 st:∀(hp:Hp) (ct id:Nat) (a b c d e f g h:AV),stC hp ct id 0 8 [c1,c2,c3,c4,c5,c6,c7,c8] (some (.cells true true true 8 [a,b,c,d,e,f,g,h]))=some (.tup [],z7 hp id (.cells true true true 8 [c1,c2,c3,c4,c5,c6,c7,c8]),ct)
 bx:∀ct:Nat,zoc ct 8 [c1,c2,c3,c4,c5,c6,c7,c8]=some (.ptr ct 0,.cells true true true 8 [c1,c2,c3,c4,c5,c6,c7,c8])
theorem IsQ.gen {v:AV} {a:Rat} (h:IsQ v a):∃c1 c2 c3 c4,v= .agg [c1,c2,c3,c4]∧F4 c1 c2 c3 c4:=by
 obtain ⟨s1,w1,s2,w2,rfl,h1,h2⟩:=h;obtain ⟨l1,u1⟩:=h1.isU;obtain ⟨l2,u2⟩:=h2.isU;refine ⟨_,_,_,_,rfl,fun n hp=>?_,zkg u1 u2,fun hp ct id a b c d=>zjZ u1 u2 hp ct id a b c d,fun ct=>by simp only [go_sem,reduceAdd,zu,u1.pu,u1.one,u2.pu,u2.one],rfl,u1.one,rfl,u2.one,by simp [zx,zn,u1.pu,u2.pu],fun _ _=>rfl,fun n _=>u1.frz n,fun _ _=>rfl,fun n _=>u2.frz n⟩;exact zG _ _ (by simp only [go_sem,u1.frz,u2.frz])
theorem IsP.gen {v:AV} {a b:Rat} (h:IsP v a b):∃c1 c2 c3 c4 c5 c6 c7 c8,v= .agg [c1,c2,c3,c4,c5,c6,c7,c8]∧F8 c1 c2 c3 c4 c5 c6 c7 c8:=by
 obtain ⟨s1,w1,s2,w2,s3,w3,s4,w4,rfl,h1,h2,h3,h4⟩:=h;obtain ⟨l1,u1⟩:=h1.isU;obtain ⟨l2,u2⟩:=h2.isU;obtain ⟨l3,u3⟩:=h3.isU;obtain ⟨l4,u4⟩:=h4.isU;refine ⟨_,_,_,_,_,_,_,_,rfl,fun n hp=>?_,zOf u1 u2 u3 u4,fun hp ct id a b c d e f g h=>zM1 u1 u2 u3 u4 hp ct id a b c d e f g h,fun ct=>by simp only [go_sem,reduceAdd,zu,u1.pu,u1.one,u2.pu,u2.one,u3.pu,u3.one,u4.pu,u4.one]⟩;exact zG _ _ (by simp only [go_sem,u1.frz,u2.frz,u3.frz,u4.frz])
section
variable {P:zN} {L:Lib}
end
end VE
end
section
namespace VE
open Go (IntKind)
section
variable {P:zN} {L:Lib}
theorem zP0 (h:Ck P L) {s:List Nat} (h0:chk s=0):∃r,zK P L 62 [.str s] r∧IsQ r (zey s):=by
 obtain ⟨hR,_⟩:=zk1 h0;have kr:=zmw h0 (Nat.le_refl 2400);have hl:=zo4 kr;obtain ⟨r,e,hr⟩:=m62 h.toTx (a:=zey s) (by omega);rw [←hR] at e;exact ⟨r,e,hr⟩
def zli (a:Rat):AV:=if LG a=true then .tup [.str [],zh 4] else .tup [.str (RT a),zh 0]
end
end VE
end
section
namespace VE
open Go (IntKind)
def zeo (c:Nat):Bool:=(decide (97≤c)&&decide (c≤122))||(decide (65≤c)&&decide (c≤90))
def zd6 (c:Nat):Bool:=(decide (48≤c)&&decide (c≤57))||decide (c=95)
def zbN:Bool→List Nat→Bool
 | _,[]=>true
 | f,c::r=>(zeo c||(!f&&zd6 c))&&zbN false r
def ztc (s:List Nat):Bool:=zbN true s&&(decide (s≠[])&&decide (s.length≤24))
theorem zpV {s:List Nat} {i:Nat} (h:s.getD i 0<128):zcH s i=(s.getD i 0,1):=by
 unfold zcH;simp only [Nat.add_zero];rw [if_pos h]
theorem znn {s:List Nat} {i:Nat} (h:¬s.getD i 0<128):128≤(zcH s i).1:=by
 unfold zcH;simp only [Nat.add_zero];rw [if_neg h];have he:128≤Go.Utf8.runeError:=by decide
 repeat' split
 all_goals first
  | exact he
  | (simp only;omega)
  | (rename_i hq;simp only [Bool.and_eq_true,decide_eq_true_eq,ge_iff_le] at hq;simp only;omega)
section
variable {P:zN} {L:Lib} {f:Run} {tm:Env} {hp:Hp} {ct:Nat}
def zF0 (hp:Hp) (ct:Nat):AV→Res
 | .it id=>
  match zq hp id with
  | some (.si s pos)=>
   bif Nat.blt pos s.length then
    match zcH s pos with
    | (c,wd)=>some (.tup [.bool true,.int .i64 pos,.int .i32 c],z7 hp id (.si s (pos+wd)),ct)
   else some (.tup [.bool false],hp,ct)
  | _=>none
 | _=>none
theorem zgt (x:X):zZ P L f tm hp ct (.nxt x)=zF0 hp ct (zp tm x):=by
 show zV tm hp ct (.nxt x)=_
 rfl
def zN8 (ct:Nat):AV→Option (AV×Obj)
 | .str s=>some (.it ct,.si s 0)
 | _=>none
theorem zy8 (x:X):z5 tm hp ct (.rng x)=zN8 ct (zp tm x):=rfl
theorem zGR (s:List Nat):zN8 ct (.str s)=some (.it ct,.si s 0):=rfl
theorem zly {s:List Nat} {pos c wd:Nat} (h:pos<s.length) (hd:zcH s pos=(c,wd)):zF0 [(0,.si s pos)] 1 (.it 0)=some (.tup [.bool true,.int .i64 pos,.int .i32 c],[(0,.si s (pos+wd))],1):=by
 show (bif Nat.blt pos s.length then _ else _)=_
 rw [zcP h,hd];rfl
theorem zN7 {s:List Nat} {pos:Nat} (h:¬pos<s.length):zF0 [(0,.si s pos)] 1 (.it 0)=some (.tup [.bool false],[(0,.si s pos)],1):=by
 show (bif Nat.blt pos s.length then _ else _)=_
 cases hq:Nat.blt pos s.length with
 | false=>rfl
 | true=>exact absurd (Nat.le_of_ble_eq_true hq) h
theorem zQM (h:Has P L 471 zmL) (c:Nat):zK P L 471 [.int .i32 c] (.bool (zeo c)):=by
 unfold zK zeo;rw [zf h];by_cases h1:97≤c
 ·rw [decide_eq_true h1];by_cases h2:c≤122
  ·rw [decide_eq_true h2];simp only [go_sem,reduceEqDiff,zmL,show (97:Int)≤(c:Int) by omega,show (c:Int)≤122 by omega,decide_true,Bool.and_self,Bool.true_or]
  ·rw [decide_eq_false h2,decide_eq_false (show ¬c≤90 by omega)];by_cases h3:65≤c
   ·simp only [go_sem,reduceEqDiff,zmL,show (97:Int)≤(c:Int) by omega,show ¬(c:Int)≤122 by omega,show (65:Int)≤(c:Int) by omega,show ¬(c:Int)≤90 by omega,decide_true,decide_false,Bool.and_false,Bool.or_self]
   ·omega
 ·rw [decide_eq_false h1,Bool.false_and,Bool.false_or];by_cases h3:65≤c
  ·rw [decide_eq_true h3,Bool.true_and];by_cases h4:c≤90
   ·rw [decide_eq_true h4];simp only [go_sem,reduceEqDiff,zmL,show ¬(97:Int)≤(c:Int) by omega,show (65:Int)≤(c:Int) by omega,show (c:Int)≤90 by omega,decide_true,decide_false]
   ·rw [decide_eq_false h4];simp only [go_sem,reduceEqDiff,zmL,show ¬(97:Int)≤(c:Int) by omega,show (65:Int)≤(c:Int) by omega,show ¬(c:Int)≤90 by omega,decide_true,decide_false]
  ·rw [decide_eq_false h3,Bool.false_and];simp only [go_sem,reduceEqDiff,zmL,show ¬(97:Int)≤(c:Int) by omega,show ¬(65:Int)≤(c:Int) by omega,decide_false]
end
end VE
end
section
namespace VE
open Go (IntKind)
theorem zia {c:Nat} (h:128≤c):zeo c=false:=by
 unfold zeo;rw [decide_eq_false (show ¬c≤122 by omega),decide_eq_false (show ¬c≤90 by omega),Bool.and_false,Bool.and_false];rfl
theorem zuw {c:Nat} (h:128≤c):zd6 c=false:=by
 unfold zd6;rw [decide_eq_false (show ¬c≤57 by omega),decide_eq_false (show ¬c=95 by omega),Bool.and_false];rfl
theorem zjO {s:List Nat} {i:Nat} (h:i<s.length) (f:Bool):zbN f (s.drop i)=((zeo s[i]||(!f&&zd6 s[i]))&&zbN false (s.drop (i+1))):=by
 rw [List.drop_eq_getElem_cons h];rfl
section
variable {P:zN} {L:Lib}
theorem zQ5 (h:Has P L 469 zAc) (h471:Has P L 471 zmL) {s:List Nat} (hs:s.length≤1000000):zK P L 469 [.str s] (.bool (ztc s)):=by
 have key:=zS (P:=P) (L:=L) (live:=[0,6]) (a:=zep)
  (I:=fun k st=>∃pos:Nat,st=⟨[(0,.str s),(6,.it 0)],[(0,.si s pos)],1,0⟩∧pos+k=s.length∧zbN (decide (pos=0)) (s.drop pos)=zbN true s)
  (Q:=fun ex st=>∃tm pos,st=⟨tm,[(0,.si s pos)],1,0⟩∧((ex= .ret∧zc tm 2= .bool false∧zbN true s=false)∨(ex= .exit 0∧zc tm 0= .str s∧zbN true s=true))) ?_
 ·unfold zK ztc;rw [zf h];simp only [go_sem,reduceEqDiff,reduceAdd,zAc,zyl,zy8,zGR];generalize hq:D P L (.loop [0,6] zep) _=q;obtain ⟨ex,st,rfl,tm,pos,rfl,h2⟩:=z8 hq (key s.length) ⟨0,by simp only [go_sem,reduceEqDiff,za]<;>rfl,by omega,by simp⟩
  rcases h2 with ⟨rfl,h2,h3⟩ | ⟨rfl,h2,h3⟩
  ·rw [h3];simp only [go_sem,h2,Bool.false_and]
  ·rw [h3]
   cases s with
   | nil=>
        simp only [go_sem,reduceEqDiff,reduceLeDiff,za,h2,zc7,show eqL [] []=true from rfl,Bool.not_true];rfl
   | cons b r=>
    have hne:eqL (b::r) []=false:=rfl;have hn:decide (b::r≠[])=true:=by simp
    rw [hn];by_cases hl:r.length+1≤24
    ·simp only [go_sem,reduceEqDiff,za,h2,zc7,hne,Bool.not_false,List.length_cons,show ((r.length+1:Nat):Int)≤24 by omega,decide_true,hl]
    ·simp only [go_sem,reduceEqDiff,za,h2,zc7,hne,Bool.not_false,List.length_cons,show ¬((r.length+1:Nat):Int)≤24 by omega,decide_false,hl]
 ·rintro k st ⟨pos,rfl,hk,hn⟩;by_cases hi:pos<s.length
  ·rw [zjO hi] at hn;have hg:s.getD pos 0=s[pos]:=by simp [List.getD_eq_getElem?_getD,hi]
   obtain ⟨c,wd,hd,hcase⟩:∃c wd,zcH s pos=(c,wd)∧((c=s[pos]∧wd=1)∨(128≤c∧128≤s[pos])):=by
    by_cases hlow:s.getD pos 0<128
    ·exact ⟨_,_,zpV hlow,.inl ⟨hg,rfl⟩⟩
    ·exact ⟨_,_,rfl,.inr ⟨znn hlow,by omega⟩⟩
   have e1:=zQM h471 c;unfold zK at e1;have hp0:((pos:Int)=0)↔pos=0:=by omega
   cases hlet:zeo c with
   | true=>
    rcases hcase with ⟨rfl,rfl⟩ | ⟨h1,_⟩
    ·left
     rw [hlet] at e1;rw [hlet,Bool.true_or,Bool.true_and] at hn;simp only [go_sem,reduceEqDiff,zep,zgt,zly hi hd,e1,Bool.not_true];refine ⟨_,k-1,rfl,by omega,pos+1,?_,by omega,by rw [decide_eq_false (by omega)];exact hn⟩
     simp only [go_sem,reduceEqDiff,za]<;>rfl
    ·rw [zia h1] at hlet;cases hlet
   | false=>
    rw [hlet] at e1;by_cases h0:pos=0
    ·right
     have hfalse:zbN true s=false:=by
      rw [←hn,decide_eq_true h0];rcases hcase with ⟨rfl,rfl⟩ | ⟨_,h1⟩
      ·rw [hlet];rfl
      ·rw [zia h1];rfl
     subst h0;simp only [go_sem,reduceEqDiff,zep,zgt,zly hi hd,e1,Bool.not_false,show ((0:Nat):Int)=0 from rfl,decide_true];exact ⟨_,_,rfl,by simp,_,_,rfl,.inl ⟨rfl,by simp only [go_sem],hfalse⟩⟩
    ·have hpz:¬(pos:Int)=0:=by omega
     rw [decide_eq_false h0,Bool.not_false,Bool.true_and] at hn;have stop:zd6 c=false→(c=s[pos]∧wd=1→zbN true s=false)∧(128≤s[pos]→zbN true s=false):=fun hc=>⟨fun ⟨e,_⟩=>by rw [←hn,←e,hlet,hc];rfl,fun hh=>by rw [←hn,zia hh,zuw hh];rfl⟩
     have stop':zd6 c=false→zbN true s=false:=fun hc=>hcase.elim (stop hc).1 (fun hh=>(stop hc).2 hh.2)
     by_cases h95:c=95
     ·rcases hcase with ⟨e,rfl⟩ | ⟨h1,_⟩
      ·left
       have hin:zd6 c=true:=by unfold zd6;rw [decide_eq_true h95,Bool.or_true]
       rw [←e,hin,Bool.or_true,Bool.true_and] at hn;simp only [go_sem,reduceEqDiff,zep,zgt,zly hi hd,e1,Bool.not_false,hpz,decide_false,decide_true,Bool.not_true,eq_true (show (c:Int)=95 by omega)];refine ⟨_,k-1,rfl,by omega,pos+1,?_,by omega,by rw [decide_eq_false (by omega)];exact hn⟩
       simp only [go_sem,reduceEqDiff,za]<;>rfl
      ·omega
     ·have h95':¬(c:Int)=95:=by omega
      by_cases h48:c<48
      ·right
       have hin:zd6 c=false:=by unfold zd6;rw [decide_eq_false h95,decide_eq_false (show ¬48≤c by omega)];rfl
       simp only [go_sem,reduceEqDiff,zep,zgt,zly hi hd,e1,Bool.not_false,hpz,h95',decide_false,decide_true,show (c:Int)<48 by omega];exact ⟨_,_,rfl,by simp,_,_,rfl,.inl ⟨rfl,by simp only [go_sem],stop' hin⟩⟩
      ·by_cases h57:57<c
       ·right
        have hin:zd6 c=false:=by unfold zd6;rw [decide_eq_false h95,decide_eq_false (show ¬c≤57 by omega),Bool.and_false];rfl
        simp only [go_sem,reduceEqDiff,zep,zgt,zly hi hd,e1,Bool.not_false,hpz,h95',decide_false,decide_true,show ¬(c:Int)<48 by omega,show (57:Int)<(c:Int) by omega];exact ⟨_,_,rfl,by simp,_,_,rfl,.inl ⟨rfl,by simp only [go_sem],stop' hin⟩⟩
       ·rcases hcase with ⟨e,rfl⟩ | ⟨h1,_⟩
        ·left
         have hin:zd6 c=true:=by unfold zd6;rw [decide_eq_true (show 48≤c by omega),decide_eq_true (show c≤57 by omega)];rfl
         rw [←e,hin,Bool.or_true,Bool.true_and] at hn;simp only [go_sem,reduceEqDiff,zep,zgt,zly hi hd,e1,Bool.not_false,hpz,h95',decide_false,show ¬(c:Int)<48 by omega,show ¬(57:Int)<(c:Int) by omega];refine ⟨_,k-1,rfl,by omega,pos+1,?_,by omega,by rw [decide_eq_false (by omega)];exact hn⟩
         simp only [go_sem,reduceEqDiff,za]<;>rfl
        ·omega
  ·right
   rw [List.drop_eq_nil_of_le (by omega)] at hn;simp only [go_sem,reduceEqDiff,zep,zgt,zN7 hi];exact ⟨_,_,rfl,by simp,_,_,rfl,.inr ⟨rfl,by simp only [go_sem,reduceEqDiff],by rw [←hn];rfl⟩⟩
end
end VE
end
