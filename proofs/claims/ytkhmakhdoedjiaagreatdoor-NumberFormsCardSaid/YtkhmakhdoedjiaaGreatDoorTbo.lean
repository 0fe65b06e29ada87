import Derived.Test.YtkhmakhdoedjiaaGreatDoorTbl
import Derived.Test.YtkhmakhdoedjiaaGreatDoorTbn
import Derived.Test.YtkhmakhdoedjiaaGreatDoorTbg
import Derived.Test.YtkhmakhdoedjiaaGreatDoorTbm
import Derived.Test.YtkhmakhdoedjiaaGreatDoorTao
set_option linter.all false
set_option maxRecDepth 100000
open Nat (reduceAdd reduceEqDiff reduceLT reduceLeDiff reduceMul)
section
namespace VE
open Go (IntKind)
theorem zlS:∀j:Nat,zdE [48] j++[48]=[48]++zdE [48] j
 | 0=>rfl
 | j+1=>by
  show ([48]++zdE [48] j)++[48]=[48]++([48]++zdE [48] j)
  rw [List.append_assoc,zlS j]
theorem zeH:∀j:Nat,(zdE [48] j).length=j
 | 0=>rfl
 | j+1=>by show ([48]++zdE [48] j).length=_;rw [List.length_append,zeH j];simp;omega
theorem ztQ:∀(k n:Nat),n<10^k→0<k→zd7 k n=zdE [48] (k-(zo n).length)++zo n:=by
 intro k
 induction k with
 | zero=>intro n _ h;omega
 | succ k ih=>
  intro n hn _;rw [zd7];by_cases h10:n<10
  ·rw [za0 h10,Nat.mod_eq_of_lt h10]
   cases k with
   | zero=>rfl
   | succ k=>
    rw [ih (n/10) (by rw [Nat.div_eq_of_lt h10];exact Nat.pow_pos (by decide)) (by omega),Nat.div_eq_of_lt h10]
    rw [show zo 0=[48] by decide];simp only [List.length_cons,List.length_nil,Nat.zero_add,Nat.add_sub_cancel];rw [zlS];rfl
  ·have hk:0<k:=by
    rcases Nat.eq_zero_or_pos k with h0 | h0
    ·subst h0;simp at hn;omega
    ·exact h0
   rw [ih (n/10) (by rw [Nat.pow_succ] at hn;omega) hk,zbQ h10,List.append_assoc,List.length_append];simp only [List.length_cons,List.length_nil,Nat.zero_add];rw [show k+1-((zo (n/10)).length+1)=k-(zo (n/10)).length by omega]
theorem zuQ {m d r:Nat} (hd:d=m/1000000000000000000) (hr:r=m%1000000000000000000):(0<d→zo m=zo d++(zdE [48] (18-(zo r).length)++zo r))∧(d=0→zo m=zo r):=by
 have hrb:r<10^18:=by rw [hr];exact Nat.mod_lt _ (by decide)
 constructor
 ·intro h0;rw [←ztQ 18 r hrb (by decide),←zhu 18 d r h0 hrb]
  congr 1
  have:=Nat.div_add_mod m 1000000000000000000
  rw [←hd,←hr] at this;omega
 ·intro h0
  congr 1
  omega
section
variable {P:zN} {L:Lib}
theorem zFJ {f:Run} (h:L.pure 138=some zbs) {n:Nat} (hn:n<18446744073709551616):zk P L f 138 [uc n,zh 10]=some (.str (zo n)):=by
 rw [zaA h];show (bif Nat.blt n 18446744073709551616 then some (AV.str (zo n)) else none)=_
 rw [zcP hn];rfl
theorem zo0 {f:Run} (h:L.pure 139=some zee) {n:Nat} (hn:n≤100):zk P L f 139 [.str [48],zh (n:Nat)]=some (.str (zdE [48] n)):=by
 rw [zaA h];show (bif Nat.ble n 1099511627776&&Nat.ble (1*n) 1099511627776 then some (AV.str (zdE [48] n)) else none)=_
 rw [Nat.ble_eq_true_of_le (by omega),Nat.ble_eq_true_of_le (by omega)];rfl
theorem zFT (h:Wd P L) (h138:L.pure 138=some zbs) (h139:L.pure 139=some zee) {neg:Bool} {M K:Nat} (hM0:0<M) (hK:K≤4000000000) (hlen:(zo M).length≤300000000000):
  ∀k s,(∃(m:Nat) (w:AV) (ps:List (List Nat)) (fl:Bool),m=k∧WN w m∧m<18446744073709551616^K∧zo M=(if m=0 then [] else zo m)++ps.reverse.flatten∧((ps=[]→m=M)∧18*ps.length≤(zo M).length+18)∧(m≠0→18*ps.length+(zo m).length=(zo M).length)∧
    ((ps=[]∧zA [3,4,5,6] s=⟨[(3,.bool neg),(4,w),(5,.osl 0 0 1),(6,.nils)],[(0,.cells fl true true 1 [uc 1000000000000000000])],1,0⟩)∨
    (ps≠[]∧zA [3,4,5,6] s=⟨[(3,.bool neg),(4,w),(5,.osl 0 0 1),(6,.osl 1 0 ps.length)],[(1,.cells true true false 1 (ps.map .str)),(0,.cells fl true true 1 [uc 1000000000000000000])],2,0⟩)))→
   ∃ex s',D P L (.loop [3,4,5,6] zfl) s=some (ex,s')∧∃tm ps fl,ex= .exit 0∧ps≠[]∧ps.length≤300000000000∧zo M=ps.reverse.flatten∧zc tm 3= .bool neg∧zc tm 6= .osl 1 0 ps.length∧s'=⟨tm,[(1,.cells true true false 1 (ps.map .str)),(0,.cells fl true true 1 [uc 1000000000000000000])],2,0⟩:=by
 refine zS (I:=fun k s=>∃(m:Nat) (w:AV) (ps:List (List Nat)) (fl:Bool),m=k∧WN w m∧m<18446744073709551616^K∧zo M=(if m=0 then [] else zo m)++ps.reverse.flatten∧((ps=[]→m=M)∧18*ps.length≤(zo M).length+18)∧(m≠0→18*ps.length+(zo m).length=(zo M).length)∧
    ((ps=[]∧s=⟨[(3,.bool neg),(4,w),(5,.osl 0 0 1),(6,.nils)],[(0,.cells fl true true 1 [uc 1000000000000000000])],1,0⟩)∨
    (ps≠[]∧s=⟨[(3,.bool neg),(4,w),(5,.osl 0 0 1),(6,.osl 1 0 ps.length)],[(1,.cells true true false 1 (ps.map .str)),(0,.cells fl true true 1 [uc 1000000000000000000])],2,0⟩))) (Q:=fun ex s'=>∃tm ps fl,ex= .exit 0∧ps≠[]∧ps.length≤300000000000∧zo M=ps.reverse.flatten∧zc tm 3= .bool neg∧zc tm 6= .osl 1 0 ps.length∧s'=⟨tm,[(1,.cells true true false 1 (ps.map .str)),(0,.cells fl true true 1 [uc 1000000000000000000])],2,0⟩) ?_
 rintro k s ⟨m,w,ps,fl,rfl,hw,hmK,htx,hps0,hpl,hs⟩;obtain ⟨lw,uw,gw,nw,vw⟩:=hw;by_cases hm:m=0
 ·right
  have hl0:lw=[]:=List.eq_nil_of_length_eq_zero (Nat.le_zero.1 (zhN (K:=0) nw vw (by rw [hm];decide)))
  subst hl0;rw [if_pos hm,List.nil_append] at htx;have hne:ps≠[]:=fun e=>by have:=hps0.1 e;omega
  have hpb:ps.length≤300000000000:=by have:=hps0.2;omega
  rcases hs with ⟨h0,_⟩ | ⟨_,rfl⟩
  ·exact absurd h0 hne
  ·simp only [go_sem,reduceEqDiff,zfl,uw.len,List.length_nil,show ¬(0:Int)<((0:Nat):Int) by omega];exact ⟨_,_,rfl,by simp,_,ps,fl,rfl,hne,hpb,htx,by simp only [go_sem,reduceEqDiff],by simp only [go_sem,reduceEqDiff],rfl⟩
 ·left
  have hw:WN w m:=⟨lw,uw,gw,nw,vw⟩;have hB:WN (.vsl true 1 [uc 1000000000000000000]) 1000000000000000000:=⟨[1000000000000000000],zbL true [1000000000000000000],lo_one.2 (by decide),by decide,by simp [bv]⟩;obtain ⟨q,r,e1,hq,hr⟩:=zNx h hw hB (K:=K+1) (by decide) (Nat.lt_of_lt_of_le hmK (Nat.pow_le_pow_right (by decide) (by omega))) (by rw [Nat.pow_succ];have:=Nat.pow_pos (n:=K) (show 0<18446744073709551616 by decide);omega) (by omega)
  obtain ⟨t1,t2⟩:=zuQ (m:=m) rfl rfl;have hdm:=Nat.div_add_mod m 1000000000000000000;have hrB:=Nat.mod_lt m (show 0<1000000000000000000 by decide);obtain ⟨d,hd⟩:∃d,d=m/1000000000000000000:=⟨_,rfl⟩;obtain ⟨x,hx⟩:∃x,x=m%1000000000000000000:=⟨_,rfl⟩;rw [←hd] at hq t1 t2 hdm;rw [←hx] at hr t1 t2 hdm hrB;obtain ⟨lq,uq,gq,nq,vq⟩:=hq;obtain ⟨lr,ur,gr,nr,vr⟩:=hr;have hxl:(zo x).length≤18:=zb7 (k:=17) (by omega);have hxp:=zdd x;have hlr:(lr=[]∧x=0)∨lr=[x]:=by
   have h1:lr.length≤1:=zhN (K:=1) nr vr (by rw [Nat.pow_one];omega)
   cases lr with
   | nil=>exact .inl ⟨rfl,by rw [←vr];rfl⟩
   | cons a l=>
    cases l with
    | nil=>rw [zfi] at vr;exact .inr (by rw [vr])
    | cons b l=>simp at h1
  have hlq:(lq=[]∧d=0)∨(0<lq.length∧0<d):=by
   cases lq with
   | nil=>exact .inl ⟨rfl,by rw [←vq];rfl⟩
   | cons a l=>
    refine .inr ⟨by simp,?_⟩;rcases Nat.eq_zero_or_pos d with h0 | h0
    ·have:=zhN (K:=0) nq vq (by rw [h0];decide)
     simp at this
    ·exact h0
  unfold zK at e1;have hwl:(0:Int)<(lw.length:Int):=by
   have:lw≠[]:=fun e=>by subst e;simp [bv] at vw;omega
   have:=List.length_pos_iff.2 this
   omega
  have hm18:=hpl hm;have hmp:=zdd m;have new:∀t:List Nat,zo m=(if d=0 then [] else zo d)++t→(d≠0→t.length=18)→
    zo M=(if d=0 then [] else zo d)++(ps++[t]).reverse.flatten∧((ps++[t]=[]→d=M)∧18*(ps++[t]).length≤(zo M).length+18)∧(d≠0→18*(ps++[t]).length+(zo d).length=(zo M).length):=fun t h1 h2=>by
   rw [if_neg hm,h1] at htx;refine ⟨by rw [htx];simp,⟨by simp,by simp only [List.length_append,List.length_cons,List.length_nil];omega⟩,fun h0=>?_⟩
   have h3:=congrArg List.length h1;rw [if_neg h0,List.length_append,h2 h0] at h3;simp only [List.length_append,List.length_cons,List.length_nil];omega
  have hdm':d<m:=by omega
  have hwq:WN q d:=⟨lq,uq,gq,nq,vq⟩;have hix:lr=[x]→zdh 1 0 r=some (.vptr (.int .u64 x::([]:List AV))):=fun e=>by
   subst e
   have:=ur.ixa (i:=0) (by simp)
   simpa using this
  have f1:=zFJ (P:=P) (f:=D P L) h138 (n:=x) (by omega);have f2:=zo0 (P:=P) (f:=D P L) h139 (n:=18-(zo x).length) (by omega);have esub:(18:Int)-((zo x).length:Int)=((18-(zo x).length:Nat):Int):=by omega
  have hz18:18*ps.length≤300000000000:=by omega
  have zl:(zdE [48] (18-(zo x).length)++zo x).length=18:=by rw [List.length_append,zeH];omega
  obtain ⟨z,hz⟩:∃z,z=zo x:=⟨_,rfl⟩;have h48:x=0→z=[48]:=fun e=>by rw [hz,e];decide
  rw [←hz] at f1 f2 esub hxl hxp zl t1 t2;cases fl
  all_goals
   rcases hlq with ⟨rfl,hd0⟩ | ⟨hql,hd0⟩
   ·obtain ⟨n1,n2,n3⟩:=new z (by rw [if_pos hd0,List.nil_append];exact t2 hd0) (fun h=>absurd hd0 h)
    rcases hlr with ⟨rfl,hx0⟩ | rfl
    ·have hz0:=h48 hx0;clear hz;subst hz0;rcases hs with ⟨hps,rfl⟩ | ⟨hps,rfl⟩
     ·subst hps;simp only [go_sem,reduceEqDiff,reduceAdd,reduceMul,reduceLT,reduceLeDiff,Nat.mul_one,zfl,uw.len,uw.frz,uq.len,uq.shut1,ur.len,ur.shut1,hwl,e1,List.length_nil,List.length_nil,show ¬(0:Int)<((0:Nat):Int) by omega,zbX];refine ⟨_,d,rfl,hdm',d,q,[]++[[48]],false,rfl,hwq,by omega,n1,n2,n3,.inr ⟨by simp,?_⟩⟩;simp only [go_sem,reduceEqDiff,reduceAdd,za,zb uq.pu,zd _ uq.pu]<;>rfl
     ·simp only [go_sem,reduceEqDiff,reduceAdd,reduceLT,reduceLeDiff,Nat.mul_one,zfl,uw.len,uw.frz,uq.len,uq.shut1,ur.len,ur.shut1,hwl,e1,List.length_nil,List.length_nil,show ¬(0:Int)<((0:Nat):Int) by omega]
      rw [zcc (ex:=false) (pu:=true) (cs:=ps.map .str) (by simp only [go_sem,reduceEqDiff]) (by simp) (by omega) (by omega) (by decide) (by simp only [go_sem])];simp only [go_sem,reduceEqDiff,reduceAdd];refine ⟨_,d,rfl,hdm',d,q,ps++[[48]],false,rfl,hwq,by omega,n1,n2,n3,.inr ⟨by simp,?_⟩⟩;rw [List.map_append,List.length_append];simp only [go_sem,reduceEqDiff,reduceAdd,za,zb uq.pu,zd _ uq.pu]<;>rfl
    ·rcases hs with ⟨hps,rfl⟩ | ⟨hps,rfl⟩
     ·subst hps;simp only [go_sem,reduceEqDiff,reduceAdd,reduceMul,reduceLT,reduceLeDiff,Nat.mul_one,zfl,uw.len,uw.frz,uq.len,uq.shut1,ur.len,ur.shut1,hwl,e1,List.length_cons,List.length_nil,Nat.zero_add,show (0:Int)<((1:Nat):Int) by omega,hix rfl,f1,List.length_nil,show ¬(0:Int)<((0:Nat):Int) by omega,zbX];refine ⟨_,d,rfl,hdm',d,q,[]++[z],false,rfl,hwq,by omega,n1,n2,n3,.inr ⟨by simp,?_⟩⟩;simp only [go_sem,reduceEqDiff,reduceAdd,za,zb uq.pu,zd _ uq.pu]<;>rfl
     ·simp only [go_sem,reduceEqDiff,reduceAdd,reduceLT,reduceLeDiff,Nat.mul_one,zfl,uw.len,uw.frz,uq.len,uq.shut1,ur.len,ur.shut1,hwl,e1,List.length_cons,List.length_nil,Nat.zero_add,show (0:Int)<((1:Nat):Int) by omega,hix rfl,f1,List.length_nil,show ¬(0:Int)<((0:Nat):Int) by omega]
      rw [zcc (ex:=false) (pu:=true) (cs:=ps.map .str) (by simp only [go_sem,reduceEqDiff]) (by simp) (by omega) (by omega) (by decide) (by simp only [go_sem])];simp only [go_sem,reduceEqDiff,reduceAdd];refine ⟨_,d,rfl,hdm',d,q,ps++[z],false,rfl,hwq,by omega,n1,n2,n3,.inr ⟨by simp,?_⟩⟩;rw [List.map_append,List.length_append];simp only [go_sem,reduceEqDiff,reduceAdd,za,zb uq.pu,zd _ uq.pu]<;>rfl
   ·obtain ⟨n1,n2,n3⟩:=new (zdE [48] (18-z.length)++z) (by rw [if_neg (by omega)];exact t1 hd0) (fun _=>zl)
    rcases hlr with ⟨rfl,hx0⟩ | rfl
    ·have hz0:=h48 hx0;clear hz;subst hz0;rcases hs with ⟨hps,rfl⟩ | ⟨hps,rfl⟩
     ·subst hps
      simp only [go_sem,reduceEqDiff,reduceAdd,reduceMul,reduceLT,reduceLeDiff,Nat.mul_one,zfl,uw.len,uw.frz,uq.len,uq.shut1,ur.len,ur.shut1,hwl,e1,List.length_nil,show ¬(0:Int)<((0:Nat):Int) by omega,show (0:Int)<(lq.length:Int) by omega,show (18:Int)-((1:Nat):Int)=((17:Nat):Int) from rfl,zy (n:=17) (by omega),zo0 (P:=P) (f:=D P L) h139 (n:=17) (by omega),zap (a:=zdE [48] 17) (b:=[48]) (by rw [zeH];decide),zbX]
      refine ⟨_,d,rfl,hdm',d,q,[]++[zdE [48] 17++[48]],false,rfl,hwq,by omega,n1,n2,n3,.inr ⟨by simp,?_⟩⟩;simp only [go_sem,reduceEqDiff,reduceAdd,za,zb uq.pu,zd _ uq.pu]<;>rfl
     ·simp only [go_sem,reduceEqDiff,reduceAdd,reduceLT,reduceLeDiff,Nat.mul_one,zfl,uw.len,uw.frz,uq.len,uq.shut1,ur.len,ur.shut1,hwl,e1,List.length_nil,show ¬(0:Int)<((0:Nat):Int) by omega,show (0:Int)<(lq.length:Int) by omega,show (18:Int)-((1:Nat):Int)=((17:Nat):Int) from rfl,zy (n:=17) (by omega),zo0 (P:=P) (f:=D P L) h139 (n:=17) (by omega),zap (a:=zdE [48] 17) (b:=[48]) (by rw [zeH];decide)]
      rw [zcc (ex:=false) (pu:=true) (cs:=ps.map .str) (by simp only [go_sem,reduceEqDiff]) (by simp) (by omega) (by omega) (by decide) (by simp only [go_sem])];simp only [go_sem,reduceEqDiff,reduceAdd];refine ⟨_,d,rfl,hdm',d,q,ps++[zdE [48] 17++[48]],false,rfl,hwq,by omega,n1,n2,n3,.inr ⟨by simp,?_⟩⟩;rw [List.map_append,List.length_append];simp only [go_sem,reduceEqDiff,reduceAdd,za,zb uq.pu,zd _ uq.pu]<;>rfl
    ·rcases hs with ⟨hps,rfl⟩ | ⟨hps,rfl⟩
     ·subst hps
      simp only [go_sem,reduceEqDiff,reduceAdd,reduceMul,reduceLT,reduceLeDiff,Nat.mul_one,zfl,uw.len,uw.frz,uq.len,uq.shut1,ur.len,ur.shut1,hwl,e1,List.length_cons,List.length_nil,Nat.zero_add,show (0:Int)<((1:Nat):Int) by omega,hix rfl,f1,show (0:Int)<(lq.length:Int) by omega,esub,zy (n:=18-z.length) (by omega),f2,zap (a:=zdE [48] (18-z.length)) (b:=z) (by rw [zeH];omega),zbX];refine ⟨_,d,rfl,hdm',d,q,[]++[zdE [48] (18-z.length)++z],false,rfl,hwq,by omega,n1,n2,n3,.inr ⟨by simp,?_⟩⟩;simp only [go_sem,reduceEqDiff,reduceAdd,za,zb uq.pu,zd _ uq.pu]<;>rfl
     ·simp only [go_sem,reduceEqDiff,reduceAdd,reduceLT,reduceLeDiff,Nat.mul_one,zfl,uw.len,uw.frz,uq.len,uq.shut1,ur.len,ur.shut1,hwl,e1,List.length_cons,List.length_nil,Nat.zero_add,show (0:Int)<((1:Nat):Int) by omega,hix rfl,f1,show (0:Int)<(lq.length:Int) by omega,esub,zy (n:=18-z.length) (by omega),f2,zap (a:=zdE [48] (18-z.length)) (b:=z) (by rw [zeH];omega)]
      rw [zcc (ex:=false) (pu:=true) (cs:=ps.map .str) (by simp only [go_sem,reduceEqDiff]) (by simp) (by omega) (by omega) (by decide) (by simp only [go_sem])];simp only [go_sem,reduceEqDiff,reduceAdd];refine ⟨_,d,rfl,hdm',d,q,ps++[zdE [48] (18-z.length)++z],false,rfl,hwq,by omega,n1,n2,n3,.inr ⟨by simp,?_⟩⟩;rw [List.map_append,List.length_append];simp only [go_sem,reduceEqDiff,reduceAdd,za,zb uq.pu,zd _ uq.pu]<;>rfl
end
end VE
end
section
namespace VE
open Go (IntKind)
def zwN:Nat→VC→VC
 | 0,c=>zan c
 | n+1,c=> .seq (zan c) (zwN n (zw c))
end VE
end
section
namespace VE
open Go (IntKind)
section
variable {P:zN} {L:Lib}
theorem zoP (h:Nu P L) (h138:L.pure 138=some zbs) (h139:L.pure 139=some zee) {s z:Int} {e:Bool} {l:List Nat} (hn:Nok s (.vsl e l.length (l.map uc)) z) {K:Nat} (hz0:0<z.natAbs) (hzK:z.natAbs<18446744073709551616^K) (hK:K≤4000000000) (hlen:(zo z.natAbs).length≤300000000000):
  ∃ps:List (List Nat),ps≠[]∧ps.length≤300000000000∧zo z.natAbs=ps.reverse.flatten∧D P L (zwN 5 c99.body) ⟨[(0,.agg [zh s,.vsl e l.length (l.map uc)])],[],0,0⟩=some (.normal,⟨[(3,.bool (decide (z<0))),(6,.osl 0 0 ps.length)],[(0,.cells true true false 1 (ps.map .str))],1,0⟩):=by
 obtain ⟨r,e1,hr⟩:=zmu h hn;have hr':=hr;obtain ⟨lr,ur,gr,nr,vr⟩:=hr;unfold zK at e1;simp only [go_sem,reduceEqDiff,reduceAdd,reduceLeDiff,Nat.mul_one,c99,zwN,zan,zw,zu,zI,Nat.zero_add,zak,zc1,zal,z6,zG,e1];generalize hqq:D P L (.loop [3,4,5,6] zfl) _=qq;obtain ⟨ex,st,rfl,tm,ps,fl,rfl,hne,hpb,htx,t3,t6,rfl⟩:=z8 hqq (zFT (P:=P) (L:=L) h.toWd h138 h139 (neg:=decide (z<0)) (M:=z.natAbs) (K:=K) hz0 hK hlen z.natAbs) ⟨z.natAbs,shut1 r,[],true,rfl,hr',hzK,by rw [if_neg (by omega)];simp,⟨fun _=>rfl,by simp⟩,fun _=>by simp,.inl ⟨rfl,by
  simp only [go_sem,reduceEqDiff,reduceAdd,za,zb ur.pu,zd _ ur.pu]<;>rfl⟩⟩
 refine ⟨ps,hne,hpb,htx,?_⟩;simp only [go_sem,reduceAdd,za,t3,t6]
end
end VE
end
section
namespace VE
open Go
variable {Λ:Link}
def dropC:Nat→Code→Code
 | 0,.seq _ b=>b
 | n+1,.seq _ b=>dropC n b
 | _,c=>c
def zCP:Nat→Code→Prop
 | 0,.seq _ _=>True
 | n+1,.seq _ b=>zCP n b
 | _,_=>False
theorem zov (hΛ:zav Λ) {h:Nat} {c:Code} {l k:Nat} {s:St} {ex:Ex} {s':St} (hv:D Λ.prog Λ.lib (comp Λ.P (Λ.hint h) c l k).1 s=some (ex,s')):ziH Λ h c s ex s':=by
 obtain ⟨n,hn⟩:=zJs hv
 cases n with
 | zero=>rw [zhc] at hn;cases hn
 | succ n=>
  rw [zfV] at hn;exact zqV hΛ n (fun k _=>ziL hΛ k) h c l k n (Nat.le_refl _) s ex s' hn
theorem zxQ (hΛ:zav Λ) {h:Nat} {ro:Option Nat} {lo:Nat} {Q:Exit→Act→World→Prop}:∀(n:Nat) (c:Code) (l k:Nat),zCP n c→∀(s s1:St),D Λ.prog Λ.lib (zwN n (comp Λ.P (Λ.hint h) c l k).1) s=some (.normal,s1)→
  ∀(m:Mp) (S:Nat→Prop) (w:World) (a:Act),ze9 ro w→zaB Λ m S w s.tm a.tmps→zR Λ m S w s.hp s.ct→s.base≤s.ct→(Λ.hint h).n≤a.tmps.size→Λ.w0.heap.size≤lo→lo≤w.heap.size→zeK lo S w a.defers→
  (∀a' w',Post Λ m S w s .normal s1 a.tmps.size lo .normal a' w'→(dropC n c).wpIn (WF ro) 0 Λ.P Q a' w')→c.wpIn (WF ro) 0 Λ.P Q a w
 | n,c,l,k,hc,s,s1,hv=>by
  intro m S w a hro ht hh hb hn hlo hlw hmk hQ
  cases c with
  | seq x y=>
   have e:(comp Λ.P (Λ.hint h) (.seq x y) l k).1= .seq (comp Λ.P (Λ.hint h) x l k).1 (comp Λ.P (Λ.hint h) y (comp Λ.P (Λ.hint h) x l k).2.1 (comp Λ.P (Λ.hint h) x l k).2.2).1:=rfl;rw [e] at hv
   cases n with
   | zero=>
    refine wpIn_seq (wpIn_mono (zov hΛ (show D Λ.prog Λ.lib (comp Λ.P (Λ.hint h) x l k).1 s=some (.normal,s1) from hv) ro lo m S w a hro ht hh hb hn hlo hlw hmk) ?_);rintro e a' w' hp;have he:e= .normal:=hp.1;subst he;exact hQ a' w' hp
   | succ n=>
    have hv':D Λ.prog Λ.lib (.seq (comp Λ.P (Λ.hint h) x l k).1 (zwN n (comp Λ.P (Λ.hint h) y (comp Λ.P (Λ.hint h) x l k).2.1 (comp Λ.P (Λ.hint h) x l k).2.2).1)) s=some (.normal,s1):=hv;rw [zdW] at hv'
    cases hx:D Λ.prog Λ.lib (comp Λ.P (Λ.hint h) x l k).1 s with
    | none=>rw [hx] at hv';cases hv'
    | some q=>
     obtain ⟨ex,st⟩:=q;rw [hx] at hv'
     cases ex with
     | ret=>exact absurd hv' (by intro h;cases h)
     | exit id=>exact absurd hv' (by intro h;cases h)
     | normal=>
      rw [zaI] at hv';refine wpIn_seq (wpIn_mono (zov hΛ hx ro lo m S w a hro ht hh hb hn hlo hlw hmk) ?_);rintro e a' w' ⟨rfl,m',S',k1,k2,k3,k4,k5,k6,k7⟩;refine zxQ hΛ n y _ _ hc st s1 hv' m' S' w' a' (zfW k5 hro) k1 k2 (by omega) (by omega) hlo (Nat.le_trans hlw k5.size) k7 ?_;rintro a2 w2 ⟨_,m2,S2,g1,g2,g3,g4,g5,g6,g7⟩;exact hQ a2 w2 ⟨rfl,m2,S2,g1,g2,by omega,by omega,k5.trans (by rw [←k3];exact g5),by omega,g7⟩
  | _=>cases n<;>exact hc.elim
theorem zKe (hΛ:zav Λ) {n:Nat} {F:Fnc} (hF:Λ.prog n=some F) {fn:Func} {c:Code} (hfn:Λ.P.funcs[Λ.fid n]? =some fn) (hbo:fn.body=some c) {hp:Hp} {ct:Nat} {vals:List AV} {s:St}
  (hc:(comp Λ.P (Λ.hint n) c 0 0).1=F.body→∀m S w a,zaB Λ m S w (zab 0 vals) a.tmps→zR Λ m S w hp ct→(Λ.hint n).n≤a.tmps.size→a.tmps.size=max fn.ntmps vals.length→Λ.w0.heap.size≤w.heap.size→a.defers=[]→
   c.wpIn (WF none) 0 Λ.P (Post Λ m S w ⟨zab 0 vals,hp,ct,ct⟩ .ret s a.tmps.size w.heap.size) a w) {v:AV} (hr:zaq s F.res=some v):ziM Λ n hp ct vals v s.hp s.ct:=by
 intro m S w args hh hargs;obtain ⟨fn',q1,q2,q3⟩:=hΛ.prog n F hF;rw [hfn] at q1;cases q1;obtain ⟨c',q4,q5,q6,q7⟩:=zfL q2;rw [hbo] at q4;cases q4;refine .inl ⟨zhs hfn (by rw [hbo];rfl) q3,?_⟩
 have hlen:vals.length=args.size:=by have:=(zax _ _ hargs).symm;simpa using this
 have hw:=hc q5.symm m S w {tmps:=args++Array.replicate (fn.ntmps-args.size) undef,defers:=[]} (zlw _ hargs) hh (by simp;omega) (by simp;omega) hh.goodS rfl
 refine callsIn_of_wp_marks (F:=Go.Fence.wide) hfn hbo trivial (wpIn_mono hw ?_);rintro e a' w' ⟨rfl,m',S',k1,k2,k3,k4,k5,k6,rs,k7,k8,k9⟩;show LeavesInM Go.Fence.wide 0 Λ.P fn a'.tmps (zcx Λ m S w hp ct v s.hp s.ct) a'.defers .returning w'
 rw [k7];exact zhJ q6 hr k4 rs w' k8 k9 hh.goodS k2 k1 k5
theorem zxA (hΛ:zav Λ) {n:Nat} {F:Fnc} (hF:Λ.prog n=some F) {fn:Func} {c:Code} (hfn:Λ.P.funcs[Λ.fid n]? =some fn) (hbo:fn.body=some c) {vals:List AV} {s:St}
  (hc:(comp Λ.P (Λ.hint n) c 0 0).1=F.body→∀m S w a,zaB Λ m S w (zab 0 vals) a.tmps→zR Λ m S w [] 0→(Λ.hint n).n≤a.tmps.size→a.tmps.size=max fn.ntmps vals.length→Λ.w0.heap.size≤w.heap.size→a.defers=[]→
   c.wpIn (WF none) 0 Λ.P (Post Λ m S w ⟨zab 0 vals,[],0,0⟩ .ret s a.tmps.size w.heap.size) a w) {v r:AV} (hv:zaq s F.res=some v) (hr:zaL s.hp v=some r):PureC Λ n vals r:=
 ze5 (zKe hΛ hF hfn hbo hc hv) hr
end VE
end
section
namespace VE
open Go
theorem zjA {fid:Nat→Nat} {m:Mp} {S:Nat→Prop} {w:World} {b:Nat}:∀{ps:List (List Nat)} {o:Nat},zX fid m S w (ps.map .str) b o→
  ∃ts:List ByteArray,(ts.map fun t=>t.data.toList.map UInt8.toNat)=ps∧∀i (h:i<ts.length),w.cell? ⟨b,o+i,none⟩=some (.string ts[i])
 | [],o,_=>⟨[],rfl,fun i h=>absurd h (Nat.not_lt_zero i)⟩
 | p::ps,o,h=>by
  simp only [List.map_cons,zX] at h;obtain ⟨⟨u,h1,h2⟩,h3⟩:=h;simp only [zm] at h2;obtain ⟨t,rfl,ht⟩:=h2;obtain ⟨ts,k1,k2⟩:=zjA h3;refine ⟨t::ts,by rw [List.map_cons,ht,k1],fun i hi=>?_⟩
  cases i with
  | zero=>exact h1
  | succ i=>
   have:=k2 i (by simpa using hi)
   rw [show o+(i+1)=o+1+i by omega];exact this
def zhR (ts:List ByteArray):List UInt8:=(ts.map fun t=>t.data.toList).flatten
theorem zzJ {ts:List ByteArray} {ps:List (List Nat)} (h:(ts.map fun t=>t.data.toList.map UInt8.toNat)=ps):(zhR ts.reverse).map UInt8.toNat=ps.reverse.flatten:=by
 subst h;unfold zhR;rw [List.map_flatten,List.map_map,←List.map_reverse];rfl
theorem zA2 {ts:List ByteArray} {ps:List (List Nat)} (h:(ts.map fun t=>t.data.toList.map UInt8.toNat)=ps):(ts.map (·.size)).sum=ps.reverse.flatten.length:=by
 subst h;rw [List.length_flatten,List.map_reverse,List.sum_reverse,List.map_map]
 congr 1
 refine List.map_congr_left fun t _=>?_
 show t.data.size=_
 simp
def StrTail (P:Program) (c:Code):Prop:=∀(Q:Exit→Act→World→Prop) (a:Act) (w:World) (neg:Bool) (ts:List ByteArray) (b o cc:Nat),a.tmps.size=69→a.tmps.getD 3 undef= .bool neg→a.tmps.getD 6 undef= .slice (some ⟨b,o,none⟩) ts.length cc→
  (∀i (h:i<ts.length),w.cell? ⟨b,o+i,none⟩=some (.string ts[i]))→(ts.map (·.size)).sum+1≤140737488355328→ts.length≤cc→ts.length<9223372036854775808→
  (∀a' w',Calm w w'→a'.tmps.size=69→a'.defers=a.defers→a'.tmps.getD 2 undef= .string ⟨((if neg then [45] else [])++zhR ts.reverse).toArray⟩→Q .ret a' w')→
  (dropC 5 c).wpIn Fence.wide 0 P Q a w
section
variable {Λ:Link}
theorem zoL {n K:Nat} (h:n<18446744073709551616^K):(zo n).length≤20*K+1:=by
 refine zb7 (k:=20*K) (Nat.lt_of_lt_of_le h ?_);have h1:(10:Nat)^(20*K)=(10^20)^K:=Nat.pow_mul ..;exact Nat.le_trans (by rw [h1];exact Nat.pow_le_pow_left (by decide) K) (Nat.pow_le_pow_right (by decide) (Nat.le_succ _))
theorem zzr (hΛ:zav Λ) (hN:Nu Λ.prog Λ.lib) (h138:Λ.lib.pure 138=some zbs) (h139:Λ.lib.pure 139=some zee) (h99:Λ.prog 99=some c99) {fn:Func} {c:Code} (hfn:Λ.P.funcs[Λ.fid 99]? =some fn) (hbo:fn.body=some c) (hnt:fn.ntmps=69)
  (hseq:zCP 5 c) (ht:StrTail Λ.P c) {s z:Int} {e:Bool} {l:List Nat} (hn:Nok s (.vsl e l.length (l.map uc)) z) (hz0:0<z.natAbs) (hK:l.length≤4000000000) (hzK:z.natAbs<18446744073709551616^l.length):
  PureC Λ 99 [.agg [zh s,.vsl e l.length (l.map uc)]] (.str (zW z)):=by
 have hlen:=zoL hzK;obtain ⟨ps,hne,hpb,htx,e1⟩:=zoP (P:=Λ.prog) (L:=Λ.lib) hN h138 h139 hn hz0 hzK hK (by omega)
 refine zxA hΛ h99 hfn hbo (s:=⟨[(2,.str (zW z))],[(0,.cells true true false 1 (ps.map .str))],1,0⟩) (v:= .str (zW z)) ?_ rfl rfl;intro hcomp m S w a htr hh hnn hsz hgs hds;refine zxQ hΛ 5 c 0 0 hseq _ _ (by rw [hcomp];exact e1) m S w a (fun l hl=>by cases hl) htr hh (Nat.le_refl _) hnn hgs (Nat.le_refl _) ⟨[],by rw [hds];rfl,by simp,by simp⟩ ?_
 rintro a' w' ⟨_,m',S',k1,k2,k3,k4,k5,k6,k7⟩;have r3:=k1 3;have r6:=k1 6;have g3:zc [(3,AV.bool (decide (z<0))),(6,.osl 0 0 ps.length)] 3= .bool (decide (z<0)):=rfl;have g6:zc [(3,AV.bool (decide (z<0))),(6,.osl 0 0 ps.length)] 6= .osl 0 0 ps.length:=rfl;rw [g3] at r3;rw [g6] at r6;simp only [zm] at r3 r6;obtain ⟨p,cc,hm,r6,hcc,_⟩:=r6;obtain ⟨p',arr,t,hm',_,_,_,_,_,hra,_⟩:=k2.obj 0 _ p rfl hm;rw [hm] at hm';cases hm';obtain ⟨ts,hts,hcell⟩:=zjA hra;have hl1:ts.length=ps.length:=by rw [←hts,List.length_map]
 have hsum:=zA2 hts;rw [←htx] at hsum;have hcat:=zzJ hts;rw [←htx] at hcat;refine ht _ a' w' (decide (z<0)) ts p.b p.o cc ?_ r3 (by rw [hl1];exact r6) hcell (by omega) (by omega) (by omega) ?_
 ·rw [k6,hsz,hnt];simp
 ·intro a2 w2 hc h1 h2 h3;have hh2:=zdM k2 hc (S':=S') (fun _ h=>h) (fun _ h=> .inl h) (fun b hb=>Nat.lt_of_lt_of_le (k2.slt b hb) hc.size);refine ⟨rfl,m',S',?_,hh2,rfl,Nat.zero_le _,k5.trans (zd2 k2 hc (fun _ h=>h) (fun _ h=> .inl h)),?_,?_⟩
  ·intro i;by_cases hi:i=2
   ·subst hi;rw [h3];show zm Λ.fid m' S' w2 (.str (zW z)) _
    simp only [zm];refine ⟨_,rfl,?_⟩;by_cases h0:z<0
    ·rw [zby h0,decide_eq_true h0];simp only [if_true,List.map_append];rw [hcat];rfl
    ·obtain ⟨n,rfl⟩:∃n:Nat,z=n:=⟨z.toNat,by omega⟩;rw [decide_eq_false h0];simp only [Bool.false_eq_true,if_false,List.nil_append];rw [hcat];rfl
   ·have:zc [(2,AV.str (zW z))] i= .undef:=by
     have hb:Nat.beq 2 i=false:=by
      cases hq:Nat.beq 2 i with
      | false=>rfl
      | true=>exact absurd (Nat.eq_of_beq_eq_true hq).symm hi
     simp only [zc,hb,cond_false]
    show zm Λ.fid m' S' w2 (zc [(2,AV.str (zW z))] i) _
    rw [this];simp only [zm]
  ·rw [h1,hsz,hnt];simp
  ·rw [h2]
   exact zct k2 (zd2 (base:=0) k2 hc (fun _ h=>h) (fun _ h=> .inl h)) k7
end
end VE
end
