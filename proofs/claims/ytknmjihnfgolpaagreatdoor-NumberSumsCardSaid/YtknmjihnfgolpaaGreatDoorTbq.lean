import Derived.Test.YtknmjihnfgolpaaGreatDoorTbp
import Derived.Test.YtknmjihnfgolpaaGreatDoorTbn
import Derived.Test.YtknmjihnfgolpaaGreatDoorTbh
import Derived.Test.YtknmjihnfgolpaaGreatDoorTbo
import Derived.Test.YtknmjihnfgolpaaGreatDoorTao
set_option linter.all false
set_option maxRecDepth 100000
open Nat (reduceAdd reduceEqDiff reduceLT reduceLeDiff reduceMul)
section
namespace VE
open Go (IntKind)
theorem zRf {n:Nat} (h:n<9223372036854775808):binOp .and (.int .i64 (n:Int)) (.int .i64 1)=some (.int .i64 ((n%2:Nat):Int)):=by
 show some (AV.int .i64 (IntKind.wrap .i64 ((BitVec.ofInt 64 (n:Int)&&&BitVec.ofInt 64 1).toNat:Int)))=_
 congr 2
 rw [show BitVec.ofInt 64 (n:Int)=BitVec.ofNat 64 n from BitVec.ofInt_natCast 64 n,show BitVec.ofInt 64 1=BitVec.ofNat 64 1 from rfl];rw [BitVec.toNat_and,BitVec.toNat_ofNat,BitVec.toNat_ofNat,show (1%2^64:Nat)=2^1-1 from rfl,Nat.and_two_pow_sub_one_eq_mod,zB (by omega)]
 congr 1
 omega
theorem zQS (n:Nat):binOp .shr (.int .i64 (n:Int)) (.int .u64 1)=some (.int .i64 ((n/2:Nat):Int)):=by
 rw [zwq];show some (AV.int .i64 ((n:Int).fdiv (2^1)))=_
 rw [Int.fdiv_eq_ediv_of_nonneg _ (by decide)];rfl
theorem Bd.pow {k:Nat} {z:Int} (h:Bd k z):∀e,Bd (k*e+1) (z^e)
 | 0=>by rw [Int.pow_zero,Nat.mul_zero];unfold Bd;decide
 | e+1=>by
  have ih:=Bd.pow h e;rw [Int.pow_succ];exact (ih.mul h).mono (by rw [Nat.mul_add,Nat.mul_one];omega)
section
variable {P:zU} {L:Lib}
theorem zJ5 (h:Nu P L) (h100:True) {z:Int} {K k0:Nat} (hz:Bd K z) (hK:K*k0+1≤30000000000) {o1 o2:AV}:
  ∀m st,(∃(k i e:Nat) (s1 s2:Int) (w1 w2:AV),zC [1,2,4,5] st=⟨[(1,zf k),(2,.ptr 0 0),(4,.ptr 1 0),(5,.ptr 2 0)],[(2,.cells true true true 2 [zf s2,w2]),(1,.cells true true true 2 [o1,o2]),(0,.cells true true true 2 [zf s1,w1])],3,0⟩∧Nok s1 w1 (z^i)∧Nok s2 w2 (z^e)∧e+i*k=k0∧(0<k→i≤k0)∧k<9223372036854775808∧k=m)→
   ∃ex st',D P L (.loop [1,2,4,5] zgP) st=some (ex,st')∧∃tm s2 w2 c0,st'=⟨tm,[(2,.cells true true true 2 [zf s2,w2]),(1,.cells true true true 2 [o1,o2]),(0,c0)],3,0⟩∧ex= .exit 0∧zc tm 4= .ptr 1 0∧zc tm 5= .ptr 2 0∧Nok s2 w2 (z^k0):=by
 refine zT (I:=fun m st=>∃(k i e:Nat) (s1 s2:Int) (w1 w2:AV),st=⟨[(1,zf k),(2,.ptr 0 0),(4,.ptr 1 0),(5,.ptr 2 0)],[(2,.cells true true true 2 [zf s2,w2]),(1,.cells true true true 2 [o1,o2]),(0,.cells true true true 2 [zf s1,w1])],3,0⟩∧Nok s1 w1 (z^i)∧Nok s2 w2 (z^e)∧e+i*k=k0∧(0<k→i≤k0)∧k<9223372036854775808∧k=m)
  (Q:=fun ex st'=>∃tm s2 w2 c0,st'=⟨tm,[(2,.cells true true true 2 [zf s2,w2]),(1,.cells true true true 2 [o1,o2]),(0,c0)],3,0⟩∧ex= .exit 0∧zc tm 4= .ptr 1 0∧zc tm 5= .ptr 2 0∧Nok s2 w2 (z^k0)) ?_
 rintro m st ⟨k,i,e,s1,s2,w1,w2,rfl,h1,h2,hk,hi,hkb,rfl⟩;obtain ⟨l1,u1⟩:=h1.isU;obtain ⟨l2,u2⟩:=h2.isU;by_cases hk0:k=0
 ·right
  subst hk0;rw [Nat.mul_zero,Nat.add_zero] at hk;subst hk;simp only [go_sem,zgP,show ¬(0:Int)<((0:Nat):Int) by omega];exact ⟨_,_,rfl,by simp,_,s2,w2,_,rfl,rfl,by simp only [go_sem,reduceEqDiff],by simp only [go_sem,reduceEqDiff],h2⟩
 ·left
  have hi':=hi (by omega);have he:e≤k0:=by omega
  have hik:i*1≤i*k:=Nat.mul_le_mul_left i (by omega);have b1:Bd (K*k0+1) (z^i):=(hz.pow i).mono (by have:=Nat.mul_le_mul_left K hi';omega);have b2:Bd (K*k0+1) (z^e):=(hz.pow e).mono (by have:=Nat.mul_le_mul_left K he;omega);have n1:IsN (.agg [zf s1,w1]) (z^i):=⟨s1,w1,rfl,h1⟩;have n2:IsN (.agg [zf s2,w2]) (z^e):=⟨s2,w2,rfl,h2⟩;obtain ⟨p,e1,hp⟩:=zlk h n2 n1 b2 b1 (by omega);obtain ⟨q,e2,hq⟩:=zlk h n1 n1 b1 b1 (by omega);rw [←Int.pow_add] at hp hq;obtain ⟨s3,w3,rfl,h3⟩:=hp;obtain ⟨s4,w4,rfl,h4⟩:=hq;obtain ⟨l3,u3⟩:=h3.isU;obtain ⟨l4,u4⟩:=h4.isU;unfold zF at e1 e2;have hdm:=Nat.div_add_mod k 2;have o1':=zRf (n:=k) hkb;have o2':=zQS k;have hhalf:(i+i)*(k/2)=i*(2*(k/2)):=by rw [←Nat.two_mul,Nat.mul_comm 2 i,Nat.mul_assoc]
  by_cases hodd:k%2=1
  ·rw [hodd] at o1' hdm;have hkk:i*k=i*(2*(k/2))+i:=by
    conv=>lhs;rw [←hdm,Nat.mul_add,Nat.mul_one]
   by_cases hk1:1<k
   ·simp only [go_sem,reduceEqDiff,zgP,show (0:Int)<(k:Int) by omega,o1',show ((1:Nat):Int)=1 from rfl,z9,zx,u1.frz,u2.frz,e1,zD,z9,List.drop_zero,zaU u3,zaU u4,show (1:Int)<(k:Int) by omega,e2,o2']
    exact ⟨_,k/2,rfl,by omega,k/2,i+i,e+i,s4,s3,w4,w3,by simp only [go_sem,reduceEqDiff,reduceAdd,za],h4,h3,by omega,fun h0=>by have:=Nat.mul_le_mul_left (i+i) h0;omega,by omega,rfl⟩
   ·have hone:e+i+i*(k/2)=k0:=by
     have h1:k/2=0:=by omega
     rw [h1] at hkk ⊢;omega
    simp only [go_sem,reduceEqDiff,zgP,show (0:Int)<(k:Int) by omega,o1',show ((1:Nat):Int)=1 from rfl,z9,zx,u1.frz,u2.frz,e1,zD,z9,List.drop_zero,zaU u3,show ¬(1:Int)<(k:Int) by omega,o2'];exact ⟨_,k/2,rfl,by omega,k/2,i,e+i,s1,s3,w1,w3,by simp only [go_sem,reduceEqDiff,reduceAdd,za],h1,h3,hone,fun h0=>by omega,by omega,rfl⟩
  ·have hev:k%2=0:=by omega
   rw [hev] at o1' hdm;have hkk:i*k=i*(2*(k/2)):=by
    conv=>lhs;rw [←hdm,Nat.add_zero]
   simp only [go_sem,reduceEqDiff,zgP,show (0:Int)<(k:Int) by omega,o1',show ((0:Nat):Int)=0 from rfl,Int.reduceEq,z9,zx,u1.frz,zD,z9,List.drop_zero,zaU u4,show (1:Int)<(k:Int) by omega,e2,o2']
   exact ⟨_,k/2,rfl,by omega,k/2,i+i,e,s4,s2,w4,w2,by simp only [go_sem,reduceEqDiff,reduceAdd,za],h4,h2,by omega,fun h0=>by have:=Nat.mul_le_mul_left (i+i) h0;omega,by omega,rfl⟩
theorem zQU (h:Nu P L) (h155:Has P L 155 zBc) {v:AV} {z:Int} {K k:Nat} (hv:IsN v z) (hz:Bd K z) (hK:K*k+1≤30000000000) (hk:k<9223372036854775808):∃r,zF P L 155 [v,zf k] r∧IsN r (z^k):=by
 obtain ⟨o1,o2⟩:=ztS h (z:=1) (by decide) (by decide);obtain ⟨s1,w1,rfl,h1⟩:=hv;obtain ⟨l1,u1⟩:=h1.isU;have un:=zcM;unfold zF at o1;have goal:∃s w,zF P L 155 [.agg [zf s1,w1],zf k] (.agg [zf s,w])∧Nok s w (z^k):=by
  unfold zF;rw [zd h155];simp only [go_sem,reduceEqDiff,reduceAdd,zBc,zo,u1.pu,u1.one,o1,zD,zaU un];generalize hq:D P L (.loop [1,2,4,5] zgP) _=q;obtain ⟨ex,st,rfl,tm,s5,w5,c1,rfl,rfl,t4,t5,h5⟩:=zae hq (zJ5 (P:=P) (L:=L) h trivial hz (k0:=k) hK (o1:= .int .i64 0) (o2:= .nils) k) ⟨k,1,0,s1,1,w1,.nils,by simp only [go_sem,reduceEqDiff,reduceAdd,za],by rw [Int.pow_one];exact h1,.inl ⟨rfl,(Int.pow_zero z).symm,(by rw [Int.pow_zero];decide),(by rw [Int.pow_zero];decide)⟩,by omega,fun h0=>h0,hk,rfl⟩
  obtain ⟨l5,u5⟩:=h5.isU;refine ⟨s5,w5,?_,h5⟩;simp only [go_sem,reduceEqDiff,reduceAdd,za,t4,t5,zL,zas,z9,List.drop_zero,zeo u5,zaU u5]
 obtain ⟨s,w,e,hn⟩:=goal;exact ⟨_,e,s,w,rfl,hn⟩
theorem zfA:∀(l m:List Nat) (a:Nat),za3 (l++m) a=(za3 l a).bind (fun v=>za3 m v)
 | [],m,a=>rfl
 | b::l,m,a=>by
  simp only [List.cons_append,za3]
  cases (Nat.ble 48 b&&Nat.ble b 57) with
  | true=>exact zfA l m _
  | false=>rfl
theorem zy5:∀{l:List Nat} {a v:Nat},za3 l 0=some v→za3 l a=some (a*10^l.length+v):=by
 intro l
 suffices h:∀{l:List Nat} {a b v:Nat},za3 l b=some v→b*10^l.length≤v∧za3 l (a+b)=some (a*10^l.length+v) by
  intro a v hv
  have:=(h (a:=a) hv).2
  simpa using this
 intro l
 induction l with
 | nil=>intro a b v h;simp [za3] at h ⊢;omega
 | cons c l ih=>
  intro a b v h;simp only [za3] at h ⊢
  cases hb:(Nat.ble 48 c&&Nat.ble c 57) with
  | false=>rw [hb] at h;cases h
  | true=>
   rw [hb] at h;simp only [cond_true] at h ⊢;obtain ⟨h1,h2⟩:=ih (a:=10*a) h;rw [show 10*(a+b)+(c-48)=10*a+(10*b+(c-48)) by omega,h2];simp only [List.length_cons,Nat.pow_succ];refine ⟨?_,by rw [Nat.mul_comm 10 a,Nat.mul_assoc a 10,Nat.mul_comm 10 (10^l.length)]⟩;rw [Nat.add_mul] at h1
   have:b*(10^l.length*10)=10*b*10^l.length:=by rw [Nat.mul_comm (10^l.length),←Nat.mul_assoc,Nat.mul_comm b 10]
   omega
theorem zmC:∀{l:List Nat} {v:Nat},za3 l 0=some v→v<10^l.length:=by
 suffices h:∀{l:List Nat} {b v:Nat},za3 l b=some v→v<(b+1)*10^l.length by
  intro l v hv
  have:=h hv
  simpa using this
 intro l
 induction l with
 | nil=>intro b v h;simp [za3] at h ⊢;omega
 | cons c l ih=>
  intro b v h;simp only [za3] at h
  cases hb:(Nat.ble 48 c&&Nat.ble c 57) with
  | false=>rw [hb] at h;cases h
  | true=>
   rw [hb] at h;simp only [Bool.and_eq_true] at hb;have hc:=Nat.le_of_ble_eq_true hb.2;have h1:=ih h;simp only [List.length_cons,Nat.pow_succ];have h2:=Nat.mul_le_mul_right (10^l.length) (show 10*b+(c-48)+1≤10*(b+1) by omega)
   have:10*(b+1)*10^l.length=(b+1)*(10^l.length*10):=by rw [Nat.mul_comm 10,Nat.mul_assoc,Nat.mul_comm 10]
   omega
theorem zBW (h154:L.pure 154=some zn0) {f:Run} {s:List Nat} {v:Nat} (h0:0<s.length) (h1:s.length≤18) (hv:za3 s 0=some v):zj P L f 154 [.str s]=some (.tup [.int .i64 v,.undef]):=by
 rw [zaI h154];show (bif Nat.blt 0 s.length&&Nat.ble s.length 18 then (match za3 s 0 with | some n=>some (AV.tup [.int .i64 n,.undef]) | none=>none) else none)=_
 rw [zdo h0,Nat.ble_eq_true_of_le h1,hv];rfl
end
end VE
end
section
namespace VE
open Go (IntKind)
theorem zlM:∀j:Nat,zdP [48] j++[48]=[48]++zdP [48] j
 | 0=>rfl
 | j+1=>by
  show ([48]++zdP [48] j)++[48]=[48]++([48]++zdP [48] j)
  rw [List.append_assoc,zlM j]
theorem zeF:∀j:Nat,(zdP [48] j).length=j
 | 0=>rfl
 | j+1=>by show ([48]++zdP [48] j).length=_;rw [List.length_append,zeF j];simp;omega
theorem zut:∀(k n:Nat),n<10^k→0<k→zeg k n=zdP [48] (k-(zn n).length)++zn n:=by
 intro k
 induction k with
 | zero=>intro n _ h;omega
 | succ k ih=>
  intro n hn _;rw [zeg];by_cases h10:n<10
  ·rw [za8 h10,Nat.mod_eq_of_lt h10]
   cases k with
   | zero=>rfl
   | succ k=>
    rw [ih (n/10) (by rw [Nat.div_eq_of_lt h10];exact Nat.pow_pos (by decide)) (by omega),Nat.div_eq_of_lt h10]
    rw [show zn 0=[48] by decide];simp only [List.length_cons,List.length_nil,Nat.zero_add,Nat.add_sub_cancel];rw [zlM];rfl
  ·have hk:0<k:=by
    rcases Nat.eq_zero_or_pos k with h0 | h0
    ·subst h0;simp at hn;omega
    ·exact h0
   rw [ih (n/10) (by rw [Nat.pow_succ] at hn;omega) hk,zb4 h10,List.append_assoc,List.length_append];simp only [List.length_cons,List.length_nil,Nat.zero_add];rw [show k+1-((zn (n/10)).length+1)=k-(zn (n/10)).length by omega]
theorem zvl {m d r:Nat} (hd:d=m/1000000000000000000) (hr:r=m%1000000000000000000):(0<d→zn m=zn d++(zdP [48] (18-(zn r).length)++zn r))∧(d=0→zn m=zn r):=by
 have hrb:r<10^18:=by rw [hr];exact Nat.mod_lt _ (by decide)
 constructor
 ·intro h0;rw [←zut 18 r hrb (by decide),←zhH 18 d r h0 hrb]
  congr 1
  have:=Nat.div_add_mod m 1000000000000000000
  rw [←hd,←hr] at this;omega
 ·intro h0
  congr 1
  omega
section
variable {P:zU} {L:Lib}
theorem zLJ {f:Run} (h:L.pure 138=some zbC) {n:Nat} (hn:n<18446744073709551616):zj P L f 138 [uc n,zf 10]=some (.str (zn n)):=by
 rw [zaI h];show (bif Nat.blt n 18446744073709551616 then some (AV.str (zn n)) else none)=_
 rw [zdo hn];rfl
theorem zo7 {f:Run} (h:L.pure 139=some zek) {n:Nat} (hn:n≤100):zj P L f 139 [.str [48],zf (n:Nat)]=some (.str (zdP [48] n)):=by
 rw [zaI h];show (bif Nat.ble n 1099511627776&&Nat.ble (1*n) 1099511627776 then some (AV.str (zdP [48] n)) else none)=_
 rw [Nat.ble_eq_true_of_le (by omega),Nat.ble_eq_true_of_le (by omega)];rfl
theorem zIj (h:Wd P L) (h138:L.pure 138=some zbC) (h139:L.pure 139=some zek) {neg:Bool} {M K:Nat} (hM0:0<M) (hK:K≤4000000000) (hlen:(zn M).length≤300000000000):
  ∀k s,(∃(m:Nat) (w:AV) (ps:List (List Nat)) (fl:Bool),m=k∧WN w m∧m<18446744073709551616^K∧zn M=(if m=0 then [] else zn m)++ps.reverse.flatten∧((ps=[]→m=M)∧18*ps.length≤(zn M).length+18)∧(m≠0→18*ps.length+(zn m).length=(zn M).length)∧
    ((ps=[]∧zC [3,4,5,6] s=⟨[(3,.bool neg),(4,w),(5,.osl 0 0 1),(6,.nils)],[(0,.cells fl true true 1 [uc 1000000000000000000])],1,0⟩)∨
    (ps≠[]∧zC [3,4,5,6] s=⟨[(3,.bool neg),(4,w),(5,.osl 0 0 1),(6,.osl 1 0 ps.length)],[(1,.cells true true false 1 (ps.map .str)),(0,.cells fl true true 1 [uc 1000000000000000000])],2,0⟩)))→
   ∃ex s',D P L (.loop [3,4,5,6] zfs) s=some (ex,s')∧∃tm ps fl,ex= .exit 0∧ps≠[]∧ps.length≤300000000000∧zn M=ps.reverse.flatten∧zc tm 3= .bool neg∧zc tm 6= .osl 1 0 ps.length∧s'=⟨tm,[(1,.cells true true false 1 (ps.map .str)),(0,.cells fl true true 1 [uc 1000000000000000000])],2,0⟩:=by
 refine zT (I:=fun k s=>∃(m:Nat) (w:AV) (ps:List (List Nat)) (fl:Bool),m=k∧WN w m∧m<18446744073709551616^K∧zn M=(if m=0 then [] else zn m)++ps.reverse.flatten∧((ps=[]→m=M)∧18*ps.length≤(zn M).length+18)∧(m≠0→18*ps.length+(zn m).length=(zn M).length)∧
    ((ps=[]∧s=⟨[(3,.bool neg),(4,w),(5,.osl 0 0 1),(6,.nils)],[(0,.cells fl true true 1 [uc 1000000000000000000])],1,0⟩)∨
    (ps≠[]∧s=⟨[(3,.bool neg),(4,w),(5,.osl 0 0 1),(6,.osl 1 0 ps.length)],[(1,.cells true true false 1 (ps.map .str)),(0,.cells fl true true 1 [uc 1000000000000000000])],2,0⟩))) (Q:=fun ex s'=>∃tm ps fl,ex= .exit 0∧ps≠[]∧ps.length≤300000000000∧zn M=ps.reverse.flatten∧zc tm 3= .bool neg∧zc tm 6= .osl 1 0 ps.length∧s'=⟨tm,[(1,.cells true true false 1 (ps.map .str)),(0,.cells fl true true 1 [uc 1000000000000000000])],2,0⟩) ?_
 rintro k s ⟨m,w,ps,fl,rfl,hw,hmK,htx,hps0,hpl,hs⟩;obtain ⟨lw,uw,gw,nw,vw⟩:=hw;by_cases hm:m=0
 ·right
  have hl0:lw=[]:=List.eq_nil_of_length_eq_zero (Nat.le_zero.1 (zir (K:=0) nw vw (by rw [hm];decide)))
  subst hl0;rw [if_pos hm,List.nil_append] at htx;have hne:ps≠[]:=fun e=>by have:=hps0.1 e;omega
  have hpb:ps.length≤300000000000:=by have:=hps0.2;omega
  rcases hs with ⟨h0,_⟩ | ⟨_,rfl⟩
  ·exact absurd h0 hne
  ·simp only [go_sem,reduceEqDiff,zfs,uw.len,List.length_nil,show ¬(0:Int)<((0:Nat):Int) by omega];exact ⟨_,_,rfl,by simp,_,ps,fl,rfl,hne,hpb,htx,by simp only [go_sem,reduceEqDiff],by simp only [go_sem,reduceEqDiff],rfl⟩
 ·left
  have hw:WN w m:=⟨lw,uw,gw,nw,vw⟩;have hB:WN (.vsl true 1 [uc 1000000000000000000]) 1000000000000000000:=⟨[1000000000000000000],zbY true [1000000000000000000],lo_one.2 (by decide),by decide,by simp [bv]⟩;obtain ⟨q,r,e1,hq,hr⟩:=zOj h hw hB (K:=K+1) (by decide) (Nat.lt_of_lt_of_le hmK (Nat.pow_le_pow_right (by decide) (by omega))) (by rw [Nat.pow_succ];have:=Nat.pow_pos (n:=K) (show 0<18446744073709551616 by decide);omega) (by omega)
  obtain ⟨t1,t2⟩:=zvl (m:=m) rfl rfl;have hdm:=Nat.div_add_mod m 1000000000000000000;have hrB:=Nat.mod_lt m (show 0<1000000000000000000 by decide);obtain ⟨d,hd⟩:∃d,d=m/1000000000000000000:=⟨_,rfl⟩;obtain ⟨x,hx⟩:∃x,x=m%1000000000000000000:=⟨_,rfl⟩;rw [←hd] at hq t1 t2 hdm;rw [←hx] at hr t1 t2 hdm hrB;obtain ⟨lq,uq,gq,nq,vq⟩:=hq;obtain ⟨lr,ur,gr,nr,vr⟩:=hr;have hxl:(zn x).length≤18:=zcm (k:=17) (by omega);have hxp:=zbK x;have hlr:(lr=[]∧x=0)∨lr=[x]:=by
   have h1:lr.length≤1:=zir (K:=1) nr vr (by rw [Nat.pow_one];omega)
   cases lr with
   | nil=>exact .inl ⟨rfl,by rw [←vr];rfl⟩
   | cons a l=>
    cases l with
    | nil=>rw [zfg] at vr;exact .inr (by rw [vr])
    | cons b l=>simp at h1
  have hlq:(lq=[]∧d=0)∨(0<lq.length∧0<d):=by
   cases lq with
   | nil=>exact .inl ⟨rfl,by rw [←vq];rfl⟩
   | cons a l=>
    refine .inr ⟨by simp,?_⟩;rcases Nat.eq_zero_or_pos d with h0 | h0
    ·have:=zir (K:=0) nq vq (by rw [h0];decide)
     simp at this
    ·exact h0
  unfold zF at e1;have hwl:(0:Int)<(lw.length:Int):=by
   have:lw≠[]:=fun e=>by subst e;simp [bv] at vw;omega
   have:=List.length_pos_iff.2 this
   omega
  have hm18:=hpl hm;have hmp:=zbK m;have new:∀t:List Nat,zn m=(if d=0 then [] else zn d)++t→(d≠0→t.length=18)→
    zn M=(if d=0 then [] else zn d)++(ps++[t]).reverse.flatten∧((ps++[t]=[]→d=M)∧18*(ps++[t]).length≤(zn M).length+18)∧(d≠0→18*(ps++[t]).length+(zn d).length=(zn M).length):=fun t h1 h2=>by
   rw [if_neg hm,h1] at htx;refine ⟨by rw [htx];simp,⟨by simp,by simp only [List.length_append,List.length_cons,List.length_nil];omega⟩,fun h0=>?_⟩
   have h3:=congrArg List.length h1;rw [if_neg h0,List.length_append,h2 h0] at h3;simp only [List.length_append,List.length_cons,List.length_nil];omega
  have hdm':d<m:=by omega
  have hwq:WN q d:=⟨lq,uq,gq,nq,vq⟩;have hix:lr=[x]→zdl 1 0 r=some (.vptr (.int .u64 x::([]:List AV))):=fun e=>by
   subst e
   have:=ur.ixa (i:=0) (by simp)
   simpa using this
  have f1:=zLJ (P:=P) (f:=D P L) h138 (n:=x) (by omega);have f2:=zo7 (P:=P) (f:=D P L) h139 (n:=18-(zn x).length) (by omega);have esub:(18:Int)-((zn x).length:Int)=((18-(zn x).length:Nat):Int):=by omega
  have hz18:18*ps.length≤300000000000:=by omega
  have zl:(zdP [48] (18-(zn x).length)++zn x).length=18:=by rw [List.length_append,zeF];omega
  obtain ⟨z,hz⟩:∃z,z=zn x:=⟨_,rfl⟩;have h48:x=0→z=[48]:=fun e=>by rw [hz,e];decide
  rw [←hz] at f1 f2 esub hxl hxp zl t1 t2;cases fl
  all_goals
   rcases hlq with ⟨rfl,hd0⟩ | ⟨hql,hd0⟩
   ·obtain ⟨n1,n2,n3⟩:=new z (by rw [if_pos hd0,List.nil_append];exact t2 hd0) (fun h=>absurd hd0 h)
    rcases hlr with ⟨rfl,hx0⟩ | rfl
    ·have hz0:=h48 hx0;clear hz;subst hz0;rcases hs with ⟨hps,rfl⟩ | ⟨hps,rfl⟩
     ·subst hps;simp only [go_sem,reduceEqDiff,reduceAdd,reduceMul,reduceLT,reduceLeDiff,Nat.mul_one,zfs,uw.len,uw.frz,uq.len,uq.shut1,ur.len,ur.shut1,hwl,e1,List.length_nil,List.length_nil,show ¬(0:Int)<((0:Nat):Int) by omega,zby];refine ⟨_,d,rfl,hdm',d,q,[]++[[48]],false,rfl,hwq,by omega,n1,n2,n3,.inr ⟨by simp,?_⟩⟩;simp only [go_sem,reduceEqDiff,reduceAdd,za,zb uq.pu,ze _ uq.pu]<;>rfl
     ·simp only [go_sem,reduceEqDiff,reduceAdd,reduceLT,reduceLeDiff,Nat.mul_one,zfs,uw.len,uw.frz,uq.len,uq.shut1,ur.len,ur.shut1,hwl,e1,List.length_nil,List.length_nil,show ¬(0:Int)<((0:Nat):Int) by omega]
      rw [zbZ (ex:=false) (pu:=true) (cs:=ps.map .str) (by simp only [go_sem,reduceEqDiff]) (by simp) (by omega) (by omega) (by decide) (by simp only [go_sem])];simp only [go_sem,reduceEqDiff,reduceAdd];refine ⟨_,d,rfl,hdm',d,q,ps++[[48]],false,rfl,hwq,by omega,n1,n2,n3,.inr ⟨by simp,?_⟩⟩;rw [List.map_append,List.length_append];simp only [go_sem,reduceEqDiff,reduceAdd,za,zb uq.pu,ze _ uq.pu]<;>rfl
    ·rcases hs with ⟨hps,rfl⟩ | ⟨hps,rfl⟩
     ·subst hps;simp only [go_sem,reduceEqDiff,reduceAdd,reduceMul,reduceLT,reduceLeDiff,Nat.mul_one,zfs,uw.len,uw.frz,uq.len,uq.shut1,ur.len,ur.shut1,hwl,e1,List.length_cons,List.length_nil,Nat.zero_add,show (0:Int)<((1:Nat):Int) by omega,hix rfl,f1,List.length_nil,show ¬(0:Int)<((0:Nat):Int) by omega,zby];refine ⟨_,d,rfl,hdm',d,q,[]++[z],false,rfl,hwq,by omega,n1,n2,n3,.inr ⟨by simp,?_⟩⟩;simp only [go_sem,reduceEqDiff,reduceAdd,za,zb uq.pu,ze _ uq.pu]<;>rfl
     ·simp only [go_sem,reduceEqDiff,reduceAdd,reduceLT,reduceLeDiff,Nat.mul_one,zfs,uw.len,uw.frz,uq.len,uq.shut1,ur.len,ur.shut1,hwl,e1,List.length_cons,List.length_nil,Nat.zero_add,show (0:Int)<((1:Nat):Int) by omega,hix rfl,f1,List.length_nil,show ¬(0:Int)<((0:Nat):Int) by omega]
      rw [zbZ (ex:=false) (pu:=true) (cs:=ps.map .str) (by simp only [go_sem,reduceEqDiff]) (by simp) (by omega) (by omega) (by decide) (by simp only [go_sem])];simp only [go_sem,reduceEqDiff,reduceAdd];refine ⟨_,d,rfl,hdm',d,q,ps++[z],false,rfl,hwq,by omega,n1,n2,n3,.inr ⟨by simp,?_⟩⟩;rw [List.map_append,List.length_append];simp only [go_sem,reduceEqDiff,reduceAdd,za,zb uq.pu,ze _ uq.pu]<;>rfl
   ·obtain ⟨n1,n2,n3⟩:=new (zdP [48] (18-z.length)++z) (by rw [if_neg (by omega)];exact t1 hd0) (fun _=>zl)
    rcases hlr with ⟨rfl,hx0⟩ | rfl
    ·have hz0:=h48 hx0;clear hz;subst hz0;rcases hs with ⟨hps,rfl⟩ | ⟨hps,rfl⟩
     ·subst hps
      simp only [go_sem,reduceEqDiff,reduceAdd,reduceMul,reduceLT,reduceLeDiff,Nat.mul_one,zfs,uw.len,uw.frz,uq.len,uq.shut1,ur.len,ur.shut1,hwl,e1,List.length_nil,show ¬(0:Int)<((0:Nat):Int) by omega,show (0:Int)<(lq.length:Int) by omega,show (18:Int)-((1:Nat):Int)=((17:Nat):Int) from rfl,zB (n:=17) (by omega),zo7 (P:=P) (f:=D P L) h139 (n:=17) (by omega),zaF (a:=zdP [48] 17) (b:=[48]) (by rw [zeF];decide),zby]
      refine ⟨_,d,rfl,hdm',d,q,[]++[zdP [48] 17++[48]],false,rfl,hwq,by omega,n1,n2,n3,.inr ⟨by simp,?_⟩⟩;simp only [go_sem,reduceEqDiff,reduceAdd,za,zb uq.pu,ze _ uq.pu]<;>rfl
     ·simp only [go_sem,reduceEqDiff,reduceAdd,reduceLT,reduceLeDiff,Nat.mul_one,zfs,uw.len,uw.frz,uq.len,uq.shut1,ur.len,ur.shut1,hwl,e1,List.length_nil,show ¬(0:Int)<((0:Nat):Int) by omega,show (0:Int)<(lq.length:Int) by omega,show (18:Int)-((1:Nat):Int)=((17:Nat):Int) from rfl,zB (n:=17) (by omega),zo7 (P:=P) (f:=D P L) h139 (n:=17) (by omega),zaF (a:=zdP [48] 17) (b:=[48]) (by rw [zeF];decide)]
      rw [zbZ (ex:=false) (pu:=true) (cs:=ps.map .str) (by simp only [go_sem,reduceEqDiff]) (by simp) (by omega) (by omega) (by decide) (by simp only [go_sem])];simp only [go_sem,reduceEqDiff,reduceAdd];refine ⟨_,d,rfl,hdm',d,q,ps++[zdP [48] 17++[48]],false,rfl,hwq,by omega,n1,n2,n3,.inr ⟨by simp,?_⟩⟩;rw [List.map_append,List.length_append];simp only [go_sem,reduceEqDiff,reduceAdd,za,zb uq.pu,ze _ uq.pu]<;>rfl
    ·rcases hs with ⟨hps,rfl⟩ | ⟨hps,rfl⟩
     ·subst hps
      simp only [go_sem,reduceEqDiff,reduceAdd,reduceMul,reduceLT,reduceLeDiff,Nat.mul_one,zfs,uw.len,uw.frz,uq.len,uq.shut1,ur.len,ur.shut1,hwl,e1,List.length_cons,List.length_nil,Nat.zero_add,show (0:Int)<((1:Nat):Int) by omega,hix rfl,f1,show (0:Int)<(lq.length:Int) by omega,esub,zB (n:=18-z.length) (by omega),f2,zaF (a:=zdP [48] (18-z.length)) (b:=z) (by rw [zeF];omega),zby];refine ⟨_,d,rfl,hdm',d,q,[]++[zdP [48] (18-z.length)++z],false,rfl,hwq,by omega,n1,n2,n3,.inr ⟨by simp,?_⟩⟩;simp only [go_sem,reduceEqDiff,reduceAdd,za,zb uq.pu,ze _ uq.pu]<;>rfl
     ·simp only [go_sem,reduceEqDiff,reduceAdd,reduceLT,reduceLeDiff,Nat.mul_one,zfs,uw.len,uw.frz,uq.len,uq.shut1,ur.len,ur.shut1,hwl,e1,List.length_cons,List.length_nil,Nat.zero_add,show (0:Int)<((1:Nat):Int) by omega,hix rfl,f1,show (0:Int)<(lq.length:Int) by omega,esub,zB (n:=18-z.length) (by omega),f2,zaF (a:=zdP [48] (18-z.length)) (b:=z) (by rw [zeF];omega)]
      rw [zbZ (ex:=false) (pu:=true) (cs:=ps.map .str) (by simp only [go_sem,reduceEqDiff]) (by simp) (by omega) (by omega) (by decide) (by simp only [go_sem])];simp only [go_sem,reduceEqDiff,reduceAdd];refine ⟨_,d,rfl,hdm',d,q,ps++[zdP [48] (18-z.length)++z],false,rfl,hwq,by omega,n1,n2,n3,.inr ⟨by simp,?_⟩⟩;rw [List.map_append,List.length_append];simp only [go_sem,reduceEqDiff,reduceAdd,za,zb uq.pu,ze _ uq.pu]<;>rfl
end
end VE
end
section
namespace VE
open Go (IntKind)
def zys:Nat→VC→VC
 | 0,c=>zar c
 | n+1,c=> .seq (zar c) (zys n (zu c))
end VE
end
section
namespace VE
open Go (IntKind)
section
variable {P:zU} {L:Lib}
theorem zp9 (h:Nu P L) (h138:L.pure 138=some zbC) (h139:L.pure 139=some zek) {s z:Int} {e:Bool} {l:List Nat} (hn:Nok s (.vsl e l.length (l.map uc)) z) {K:Nat} (hz0:0<z.natAbs) (hzK:z.natAbs<18446744073709551616^K) (hK:K≤4000000000) (hlen:(zn z.natAbs).length≤300000000000):
  ∃ps:List (List Nat),ps≠[]∧ps.length≤300000000000∧zn z.natAbs=ps.reverse.flatten∧D P L (zys 5 c99.body) ⟨[(0,.agg [zf s,.vsl e l.length (l.map uc)])],[],0,0⟩=some (.normal,⟨[(3,.bool (decide (z<0))),(6,.osl 0 0 ps.length)],[(0,.cells true true false 1 (ps.map .str))],1,0⟩):=by
 obtain ⟨r,e1,hr⟩:=zmD h hn;have hr':=hr;obtain ⟨lr,ur,gr,nr,vr⟩:=hr;unfold zF at e1;simp only [go_sem,reduceEqDiff,reduceAdd,reduceLeDiff,Nat.mul_one,c99,zys,zar,zu,zo,zE,Nat.zero_add,zau,zc8,zam,z9,zx,e1];generalize hqq:D P L (.loop [3,4,5,6] zfs) _=qq;obtain ⟨ex,st,rfl,tm,ps,fl,rfl,hne,hpb,htx,t3,t6,rfl⟩:=zae hqq (zIj (P:=P) (L:=L) h.toWd h138 h139 (neg:=decide (z<0)) (M:=z.natAbs) (K:=K) hz0 hK hlen z.natAbs) ⟨z.natAbs,shut1 r,[],true,rfl,hr',hzK,by rw [if_neg (by omega)];simp,⟨fun _=>rfl,by simp⟩,fun _=>by simp,.inl ⟨rfl,by
  simp only [go_sem,reduceEqDiff,reduceAdd,za,zb ur.pu,ze _ ur.pu]<;>rfl⟩⟩
 refine ⟨ps,hne,hpb,htx,?_⟩;simp only [go_sem,reduceAdd,za,t3,t6]
end
end VE
end
section
namespace VE
open Go
variable {Λ:Link}
def dropC:Nat→Code→Code
 | 0,.seq _ b=>b
 | n+1,.seq _ b=>dropC n b
 | _,c=>c
def zDD:Nat→Code→Prop
 | 0,.seq _ _=>True
 | n+1,.seq _ b=>zDD n b
 | _,_=>False
theorem znO (hΛ:zaB Λ) {h:Nat} {c:Code} {l k:Nat} {s:St} {ex:Ex} {s':St} (hv:D Λ.prog Λ.lib (comp Λ.P (Λ.hint h) c l k).1 s=some (ex,s')):ziz Λ h c s ex s':=by
 obtain ⟨n,hn⟩:=zEw hv
 cases n with
 | zero=>rw [zhz] at hn;cases hn
 | succ n=>
  rw [zf3] at hn;exact zrW hΛ n (fun k _=>ziy hΛ k) h c l k n (Nat.le_refl _) s ex s' hn
theorem zyk (hΛ:zaB Λ) {h:Nat} {ro:Option Nat} {lo:Nat} {Q:Exit→Act→World→Prop}:∀(n:Nat) (c:Code) (l k:Nat),zDD n c→∀(s s1:St),D Λ.prog Λ.lib (zys n (comp Λ.P (Λ.hint h) c l k).1) s=some (.normal,s1)→
  ∀(m:Mp) (S:Nat→Prop) (w:World) (a:Act),zeZ ro w→zaK Λ m S w s.tm a.tmps→zS Λ m S w s.hp s.ct→s.base≤s.ct→(Λ.hint h).n≤a.tmps.size→Λ.w0.heap.size≤lo→lo≤w.heap.size→zeI lo S w a.defers→
  (∀a' w',Post Λ m S w s .normal s1 a.tmps.size lo .normal a' w'→(dropC n c).wpIn (WF ro) 0 Λ.P Q a' w')→c.wpIn (WF ro) 0 Λ.P Q a w
 | n,c,l,k,hc,s,s1,hv=>by
  intro m S w a hro ht hh hb hn hlo hlw hmk hQ
  cases c with
  | seq x y=>
   have e:(comp Λ.P (Λ.hint h) (.seq x y) l k).1= .seq (comp Λ.P (Λ.hint h) x l k).1 (comp Λ.P (Λ.hint h) y (comp Λ.P (Λ.hint h) x l k).2.1 (comp Λ.P (Λ.hint h) x l k).2.2).1:=rfl;rw [e] at hv
   cases n with
   | zero=>
    refine wpIn_seq (wpIn_mono (znO hΛ (show D Λ.prog Λ.lib (comp Λ.P (Λ.hint h) x l k).1 s=some (.normal,s1) from hv) ro lo m S w a hro ht hh hb hn hlo hlw hmk) ?_);rintro e a' w' hp;have he:e= .normal:=hp.1;subst he;exact hQ a' w' hp
   | succ n=>
    have hv':D Λ.prog Λ.lib (.seq (comp Λ.P (Λ.hint h) x l k).1 (zys n (comp Λ.P (Λ.hint h) y (comp Λ.P (Λ.hint h) x l k).2.1 (comp Λ.P (Λ.hint h) x l k).2.2).1)) s=some (.normal,s1):=hv;rw [zd8] at hv'
    cases hx:D Λ.prog Λ.lib (comp Λ.P (Λ.hint h) x l k).1 s with
    | none=>rw [hx] at hv';cases hv'
    | some q=>
     obtain ⟨ex,st⟩:=q;rw [hx] at hv'
     cases ex with
     | ret=>exact absurd hv' (by intro h;cases h)
     | exit id=>exact absurd hv' (by intro h;cases h)
     | normal=>
      rw [zaL] at hv';refine wpIn_seq (wpIn_mono (znO hΛ hx ro lo m S w a hro ht hh hb hn hlo hlw hmk) ?_);rintro e a' w' ⟨rfl,m',S',k1,k2,k3,k4,k5,k6,k7⟩;refine zyk hΛ n y _ _ hc st s1 hv' m' S' w' a' (zf8 k5 hro) k1 k2 (by omega) (by omega) hlo (Nat.le_trans hlw k5.size) k7 ?_;rintro a2 w2 ⟨_,m2,S2,g1,g2,g3,g4,g5,g6,g7⟩;exact hQ a2 w2 ⟨rfl,m2,S2,g1,g2,by omega,by omega,k5.trans (by rw [←k3];exact g5),by omega,g7⟩
  | _=>cases n<;>exact hc.elim
theorem zEr (hΛ:zaB Λ) {n:Nat} {F:Fnc} (hF:Λ.prog n=some F) {fn:Func} {c:Code} (hfn:Λ.P.funcs[Λ.fid n]? =some fn) (hbo:fn.body=some c) {hp:Hp} {ct:Nat} {vals:List AV} {s:St}
  (hc:(comp Λ.P (Λ.hint n) c 0 0).1=F.body→∀m S w a,zaK Λ m S w (zai 0 vals) a.tmps→zS Λ m S w hp ct→(Λ.hint n).n≤a.tmps.size→a.tmps.size=max fn.ntmps vals.length→Λ.w0.heap.size≤w.heap.size→a.defers=[]→
   c.wpIn (WF none) 0 Λ.P (Post Λ m S w ⟨zai 0 vals,hp,ct,ct⟩ .ret s a.tmps.size w.heap.size) a w) {v:AV} (hr:zax s F.res=some v):ziR Λ n hp ct vals v s.hp s.ct:=by
 intro m S w args hh hargs;obtain ⟨fn',q1,q2,q3⟩:=hΛ.prog n F hF;rw [hfn] at q1;cases q1;obtain ⟨c',q4,q5,q6,q7⟩:=zfQ q2;rw [hbo] at q4;cases q4;refine .inl ⟨zhC hfn (by rw [hbo];rfl) q3,?_⟩
 have hlen:vals.length=args.size:=by have:=(zaE _ _ hargs).symm;simpa using this
 have hw:=hc q5.symm m S w {tmps:=args++Array.replicate (fn.ntmps-args.size) undef,defers:=[]} (zlZ _ hargs) hh (by simp;omega) (by simp;omega) hh.goodS rfl
 refine callsIn_of_wp_marks (F:=Go.Fence.wide) hfn hbo trivial (wpIn_mono hw ?_);rintro e a' w' ⟨rfl,m',S',k1,k2,k3,k4,k5,k6,rs,k7,k8,k9⟩;show LeavesInM Go.Fence.wide 0 Λ.P fn a'.tmps (zcQ Λ m S w hp ct v s.hp s.ct) a'.defers .returning w'
 rw [k7];exact zif q6 hr k4 rs w' k8 k9 hh.goodS k2 k1 k5
theorem zyB (hΛ:zaB Λ) {n:Nat} {F:Fnc} (hF:Λ.prog n=some F) {fn:Func} {c:Code} (hfn:Λ.P.funcs[Λ.fid n]? =some fn) (hbo:fn.body=some c) {vals:List AV} {s:St}
  (hc:(comp Λ.P (Λ.hint n) c 0 0).1=F.body→∀m S w a,zaK Λ m S w (zai 0 vals) a.tmps→zS Λ m S w [] 0→(Λ.hint n).n≤a.tmps.size→a.tmps.size=max fn.ntmps vals.length→Λ.w0.heap.size≤w.heap.size→a.defers=[]→
   c.wpIn (WF none) 0 Λ.P (Post Λ m S w ⟨zai 0 vals,[],0,0⟩ .ret s a.tmps.size w.heap.size) a w) {v r:AV} (hv:zax s F.res=some v) (hr:zaR s.hp v=some r):PureC Λ n vals r:=
 zfa (zEr hΛ hF hfn hbo hc hv) hr
end VE
end
section
namespace VE
open Go
theorem zjx {fid:Nat→Nat} {m:Mp} {S:Nat→Prop} {w:World} {b:Nat}:∀{ps:List (List Nat)} {o:Nat},zY fid m S w (ps.map .str) b o→
  ∃ts:List ByteArray,(ts.map fun t=>t.data.toList.map UInt8.toNat)=ps∧∀i (h:i<ts.length),w.cell? ⟨b,o+i,none⟩=some (.string ts[i])
 | [],o,_=>⟨[],rfl,fun i h=>absurd h (Nat.not_lt_zero i)⟩
 | p::ps,o,h=>by
  simp only [List.map_cons,zY] at h;obtain ⟨⟨u,h1,h2⟩,h3⟩:=h;simp only [zm] at h2;obtain ⟨t,rfl,ht⟩:=h2;obtain ⟨ts,k1,k2⟩:=zjx h3;refine ⟨t::ts,by rw [List.map_cons,ht,k1],fun i hi=>?_⟩
  cases i with
  | zero=>exact h1
  | succ i=>
   have:=k2 i (by simpa using hi)
   rw [show o+(i+1)=o+1+i by omega];exact this
def zh2 (ts:List ByteArray):List UInt8:=(ts.map fun t=>t.data.toList).flatten
theorem zBF {ts:List ByteArray} {ps:List (List Nat)} (h:(ts.map fun t=>t.data.toList.map UInt8.toNat)=ps):(zh2 ts.reverse).map UInt8.toNat=ps.reverse.flatten:=by
 subst h;unfold zh2;rw [List.map_flatten,List.map_map,←List.map_reverse];rfl
theorem zC0 {ts:List ByteArray} {ps:List (List Nat)} (h:(ts.map fun t=>t.data.toList.map UInt8.toNat)=ps):(ts.map (·.size)).sum=ps.reverse.flatten.length:=by
 subst h;rw [List.length_flatten,List.map_reverse,List.sum_reverse,List.map_map]
 congr 1
 refine List.map_congr_left fun t _=>?_
 show t.data.size=_
 simp
def StrTail (P:Program) (c:Code):Prop:=∀(Q:Exit→Act→World→Prop) (a:Act) (w:World) (neg:Bool) (ts:List ByteArray) (b o cc:Nat),a.tmps.size=69→a.tmps.getD 3 undef= .bool neg→a.tmps.getD 6 undef= .slice (some ⟨b,o,none⟩) ts.length cc→
  (∀i (h:i<ts.length),w.cell? ⟨b,o+i,none⟩=some (.string ts[i]))→(ts.map (·.size)).sum+1≤140737488355328→ts.length≤cc→ts.length<9223372036854775808→
  (∀a' w',Calm w w'→a'.tmps.size=69→a'.defers=a.defers→a'.tmps.getD 2 undef= .string ⟨((if neg then [45] else [])++zh2 ts.reverse).toArray⟩→Q .ret a' w')→
  (dropC 5 c).wpIn Fence.wide 0 P Q a w
section
variable {Λ:Link}
theorem zpX {n K:Nat} (h:n<18446744073709551616^K):(zn n).length≤20*K+1:=by
 refine zcm (k:=20*K) (Nat.lt_of_lt_of_le h ?_);have h1:(10:Nat)^(20*K)=(10^20)^K:=Nat.pow_mul ..;exact Nat.le_trans (by rw [h1];exact Nat.pow_le_pow_left (by decide) K) (Nat.pow_le_pow_right (by decide) (Nat.le_succ _))
theorem zzi (hΛ:zaB Λ) (hN:Nu Λ.prog Λ.lib) (h138:Λ.lib.pure 138=some zbC) (h139:Λ.lib.pure 139=some zek) (h99:Λ.prog 99=some c99) {fn:Func} {c:Code} (hfn:Λ.P.funcs[Λ.fid 99]? =some fn) (hbo:fn.body=some c) (hnt:fn.ntmps=69)
  (hseq:zDD 5 c) (ht:StrTail Λ.P c) {s z:Int} {e:Bool} {l:List Nat} (hn:Nok s (.vsl e l.length (l.map uc)) z) (hz0:0<z.natAbs) (hK:l.length≤4000000000) (hzK:z.natAbs<18446744073709551616^l.length):
  PureC Λ 99 [.agg [zf s,.vsl e l.length (l.map uc)]] (.str (zW z)):=by
 have hlen:=zpX hzK;obtain ⟨ps,hne,hpb,htx,e1⟩:=zp9 (P:=Λ.prog) (L:=Λ.lib) hN h138 h139 hn hz0 hzK hK (by omega)
 refine zyB hΛ h99 hfn hbo (s:=⟨[(2,.str (zW z))],[(0,.cells true true false 1 (ps.map .str))],1,0⟩) (v:= .str (zW z)) ?_ rfl rfl;intro hcomp m S w a htr hh hnn hsz hgs hds;refine zyk hΛ 5 c 0 0 hseq _ _ (by rw [hcomp];exact e1) m S w a (fun l hl=>by cases hl) htr hh (Nat.le_refl _) hnn hgs (Nat.le_refl _) ⟨[],by rw [hds];rfl,by simp,by simp⟩ ?_
 rintro a' w' ⟨_,m',S',k1,k2,k3,k4,k5,k6,k7⟩;have r3:=k1 3;have r6:=k1 6;have g3:zc [(3,AV.bool (decide (z<0))),(6,.osl 0 0 ps.length)] 3= .bool (decide (z<0)):=rfl;have g6:zc [(3,AV.bool (decide (z<0))),(6,.osl 0 0 ps.length)] 6= .osl 0 0 ps.length:=rfl;rw [g3] at r3;rw [g6] at r6;simp only [zm] at r3 r6;obtain ⟨p,cc,hm,r6,hcc,_⟩:=r6;obtain ⟨p',arr,t,hm',_,_,_,_,_,hra,_⟩:=k2.obj 0 _ p rfl hm;rw [hm] at hm';cases hm';obtain ⟨ts,hts,hcell⟩:=zjx hra;have hl1:ts.length=ps.length:=by rw [←hts,List.length_map]
 have hsum:=zC0 hts;rw [←htx] at hsum;have hcat:=zBF hts;rw [←htx] at hcat;refine ht _ a' w' (decide (z<0)) ts p.b p.o cc ?_ r3 (by rw [hl1];exact r6) hcell (by omega) (by omega) (by omega) ?_
 ·rw [k6,hsz,hnt];simp
 ·intro a2 w2 hc h1 h2 h3;have hh2:=zdW k2 hc (S':=S') (fun _ h=>h) (fun _ h=> .inl h) (fun b hb=>Nat.lt_of_lt_of_le (k2.slt b hb) hc.size);refine ⟨rfl,m',S',?_,hh2,rfl,Nat.zero_le _,k5.trans (zd9 k2 hc (fun _ h=>h) (fun _ h=> .inl h)),?_,?_⟩
  ·intro i;by_cases hi:i=2
   ·subst hi;rw [h3];show zm Λ.fid m' S' w2 (.str (zW z)) _
    simp only [zm];refine ⟨_,rfl,?_⟩;by_cases h0:z<0
    ·rw [zbo h0,decide_eq_true h0];simp only [if_true,List.map_append];rw [hcat];rfl
    ·obtain ⟨n,rfl⟩:∃n:Nat,z=n:=⟨z.toNat,by omega⟩;rw [decide_eq_false h0];simp only [Bool.false_eq_true,if_false,List.nil_append];rw [hcat];rfl
   ·have:zc [(2,AV.str (zW z))] i= .undef:=by
     have hb:Nat.beq 2 i=false:=by
      cases hq:Nat.beq 2 i with
      | false=>rfl
      | true=>exact absurd (Nat.eq_of_beq_eq_true hq).symm hi
     simp only [zc,hb,cond_false]
    show zm Λ.fid m' S' w2 (zc [(2,AV.str (zW z))] i) _
    rw [this];simp only [zm]
  ·rw [h1,hsz,hnt];simp
  ·rw [h2]
   exact zcE k2 (zd9 (base:=0) k2 hc (fun _ h=>h) (fun _ h=> .inl h)) k7
end
end VE
end
