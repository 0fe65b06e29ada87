import Derived.Test.YtkhmakhdoedjiaaGreatDoorTbl
set_option linter.all false
set_option maxRecDepth 100000
open Nat (reduceAdd reduceEqDiff)
section
namespace VE
open Go (IntKind)
def zan:VC→VC
 | .seq a _=>a
 | c=>c
theorem zxG {a b:Int} {x y:Nat} (ha:a.natAbs=x) (hb:b.natAbs=y) (h:decide (a<0)=decide (b<0)):za5 (decide (a<0)) (x+y)=a+b:=by
 unfold za5;by_cases h0:a<0
 ·have h1:b<0:=by simpa [h0] using h
  simp [h0];omega
 ·have h1:¬b<0:=by simpa [h0] using h
  simp [h0];omega
theorem zot {a b:Int} {m:Nat} (hm:m+b.natAbs=a.natAbs) (h:¬decide (a<0)=decide (b<0)):za5 (decide (a<0)) m=a+b:=by
 unfold za5;by_cases h0:a<0
 ·have h1:¬b<0:=fun h1=>h (by simp [h0,h1])
  simp [h0];omega
 ·have h1:b<0:=by
   by_cases h1:b<0
   ·exact h1
   ·exact absurd (by simp [h0,h1]) h
  simp [h0];omega
theorem zyT {a:Int}:za5 (!decide (a<0)) a.natAbs= -a:=by
 unfold za5;by_cases h0:a<0
 ·simp [h0];omega
 ·simp [h0];omega
theorem znc {a b:Int}:za5 (decide (a<0) !=decide (b<0)) (a.natAbs*b.natAbs)=a*b:=by
 unfold za5;by_cases h0:a<0<;>by_cases h1:b<0
 ·have:((a.natAbs*b.natAbs:Nat):Int)=a*b:=by rw [Int.natCast_mul,show (a.natAbs:Int)= -a by omega,show (b.natAbs:Int)= -b by omega,Int.neg_mul_neg]
  simp [h0,h1];simpa using this
 ·have:((a.natAbs*b.natAbs:Nat):Int)= -(a*b):=by rw [Int.natCast_mul,show (a.natAbs:Int)= -a by omega,show (b.natAbs:Int)=b by omega,Int.neg_mul]
  simp [h0,h1];rw [←Int.natCast_mul,this];omega
 ·have:((a.natAbs*b.natAbs:Nat):Int)= -(a*b):=by rw [Int.natCast_mul,show (a.natAbs:Int)=a by omega,show (b.natAbs:Int)= -b by omega,Int.mul_neg]
  simp [h0,h1];rw [←Int.natCast_mul,this];omega
 ·have:((a.natAbs*b.natAbs:Nat):Int)=a*b:=by rw [Int.natCast_mul,show (a.natAbs:Int)=a by omega,show (b.natAbs:Int)=b by omega]
  simp [h0,h1];simpa using this
theorem zdZ {s:Int} {w:AV} {l:List Nat} (h:IsU w l) (hp:Hp):zaL hp (.agg [zh s,w])=some (.agg [zh s,w]):=by
 rcases h with ⟨rfl,_⟩ | ⟨e,rfl⟩<;>rfl
theorem zaG {s:Int} {w:AV} {l:List Nat} (h:IsU w l) (hp:Hp) (ct id:Nat) (x y:AV):stC hp ct id 0 2 [.int .i64 s,w] (some (.cells true true true 2 [x,y]))=some (.tup [],z7 hp id (.cells true true true 2 [.int .i64 s,w]),ct):=zcS rfl h.one rfl h.pu
theorem Nok.isU {s:Int} {w:AV} {z:Int} (h:Nok s w z):∃l,IsU w l:=by
 rcases h with ⟨rfl,_⟩ | ⟨e,l,rfl,_⟩
 ·exact ⟨[],zcz⟩
 ·exact ⟨l,zbL e l⟩
def zv1 (hp:Hp) (sz:Nat) (ag:Bool):AV→Option AV
 | .ptr id o=>ldC sz ag o (zq hp id)
 | .vptr cs=>ld1 sz ag cs
 | _=>none
theorem zU (tm:Env) (hp:Hp) (ct base i sz:Nat) (ag:Bool):zbA ⟨tm,hp,ct,base⟩ (.cell i sz ag)=zv1 hp sz ag (zc tm i):=by
 simp only [zbA,zv1,ldC];rfl
theorem zaD (hp:Hp) (sz:Nat) (ag:Bool) (id o:Nat):zv1 hp sz ag (.ptr id o)=ldC sz ag o (zq hp id):=rfl
section
variable {P:zN} {L:Lib}
theorem zxs (h:Nu P L) {v:AV} {z:Int} (hv:IsN v z):zK P L 146 [v] (zh (sgn z)):=by
 obtain ⟨s,w,rfl,hn⟩:=hv;obtain ⟨l,hu⟩:=hn.isU;have e:sgn s=sgn z:=by
  obtain ⟨h1,h2,_⟩:=hn.sgn;unfold sgn;by_cases h0:z<0
  ·rw [if_pos h0,if_pos (h1.2 h0)]
  ·by_cases h3:z=0
   ·rw [if_neg (fun h=>h0 (h1.1 h)),if_pos (h2.2 h3),if_neg h0,if_pos h3]
   ·rw [if_neg (fun h=>h0 (h1.1 h)),if_neg (fun h=>h3 (h2.1 h)),if_neg h0,if_neg h3]
 unfold zK;rw [zf h.h146];simp only [go_sem,reduceEqDiff,reduceAdd,zmm,zu,hu.pu,hu.one,zI,Nat.zero_add,zpG,zeq,zkG,zb9,zyS,e]
theorem zyI (h:Nu P L) {v:AV} {z:Int} {K:Nat} (hv:IsN v z) (hz:Bd K z) (hK:K≤90000000000):∃r,zK P L 147 [v] r∧IsN r (-z):=by
 obtain ⟨s,w,rfl,hn⟩:=hv;obtain ⟨l,hu⟩:=hn.isU;obtain ⟨p,e1,hp⟩:=zmu h hn;obtain ⟨lp,hpu,_⟩:=hp.isU;obtain ⟨r,e2,hr⟩:=zpw h (!decide (z<0)) hp (Nat.lt_of_lt_of_le hz (zfg K)) hK;rw [zyT] at hr;have hr':=hr;obtain ⟨s',w',rfl,hn'⟩:=hr;obtain ⟨l',hu'⟩:=hn'.isU;unfold zK at e1 e2;rcases hn with ⟨rfl,rfl,h1,h2⟩ | ⟨e,l0,rfl,g,n,hb,hs,h1⟩
 ·by_cases h0:s= -9223372036854775808
  ·refine ⟨_,?_,hr'⟩;unfold zK;rw [zf h.h147];simp only [go_sem,reduceEqDiff,reduceAdd,zlb,zu,zI,Nat.zero_add,zak,zbJ,zal,h0];rw [h0] at e1 e2;simp only [go_sem,reduceEqDiff,z6,zG,e1,e2,hpu.frz,zO,zU,zaD,z6,List.drop_zero,zdZ hu',zaG hu']
  ·refine ⟨.agg [zh (-s),.nils],?_,Nok.mk_small (by omega) (by omega)⟩;unfold zK;rw [zf h.h147]
   simp only [go_sem,reduceEqDiff,reduceAdd,zlb,zu,zI,Nat.zero_add,zak,zbJ,zal,h0,ze (n:=0-s) (by omega) (by omega),zbo,zda];rw [Int.zero_sub];rfl
 ·refine ⟨_,?_,hr'⟩;unfold zK;rw [zf h.h147];simp only [go_sem,reduceEqDiff,reduceAdd,zlb,zu,zI,Nat.zero_add,zak,zc1,zal,z6,zG,e1,e2,hpu.frz,zO,zU,zaD,z6,List.drop_zero,zdZ hu',zaG hu']
theorem zMF (h:Nu P L) {v:AV} {z:Int} {K:Nat} (hv:IsN v z) (hz:Bd K z) (hK:K≤90000000000):∃r,zK P L 163 [v] r∧IsN r (z.natAbs:Nat):=by
 have hv':=hv;obtain ⟨s,w,rfl,hn⟩:=hv;obtain ⟨l,hu⟩:=hn.isU;have hsg:=hn.sgn.1;by_cases h0:z<0
 ·obtain ⟨r,e1,hr⟩:=zyI h hv' hz hK;rw [show -z=(z.natAbs:Int) by omega] at hr;have hr':=hr;obtain ⟨s',w',rfl,hn'⟩:=hr;obtain ⟨l',hu'⟩:=hn'.isU;refine ⟨_,?_,hr'⟩;unfold zK at e1;unfold zK;rw [zf h.h163];simp only [go_sem,reduceEqDiff,reduceAdd,zmR,zu,hu.pu,hu.frz,hu.one,zI,Nat.zero_add,hsg.2 h0,z6,zG,e1,zO,zU,zaD,z6,List.drop_zero,zdZ hu',zaG hu']
 ·rw [show ((z.natAbs:Nat):Int)=z by omega];refine ⟨_,?_,hv'⟩;unfold zK;rw [zf h.h163];simp only [go_sem,reduceEqDiff,reduceAdd,zmR,zu,hu.pu,hu.one,zI,Nat.zero_add,show ¬s<0 from fun h=>h0 (hsg.1 h),z6,zU,zaD,z6,List.drop_zero,zdZ hu,zaG hu]
theorem zG4 (h:Nu P L) {s1 s2:Int} {w1 w2:AV} {a b:Int} {K:Nat} (ha:Nok s1 w1 a) (hb:Nok s2 w2 b) (ka:Bd K a) (kb:Bd K b) (hK:K≤40000000000):
  ∃r,IsN r (a+b)∧∀tm,zc tm 2= .ptr 0 0→zc tm 3= .ptr 1 0→zc tm 4= .ptr 2 0→zdO [.cell 4 2 true] (D P L (zw (zw c119.body)) ⟨tm,[(2,.cells true true true 2 [.int .i64 0,.nils]),(1,.cells true true true 2 [zh s2,w2]),(0,.cells true true true 2 [zh s1,w1])],3,0⟩)=some r:=by
 obtain ⟨l1,u1⟩:=ha.isU;obtain ⟨l2,u2⟩:=hb.isU;obtain ⟨p,e1,hp⟩:=zmu h ha;obtain ⟨q,e2,hq⟩:=zmu h hb;obtain ⟨lp,hpu,gp,np,vp⟩:=hp.isU;obtain ⟨lq,hqu,gq,nq,vq⟩:=hq.isU;have ka':=Nat.lt_of_lt_of_le ka (zfg K);have kb':=Nat.lt_of_lt_of_le kb (zfg K);have llp:lp.length≤40000000000:=Nat.le_trans (zhN np vp ka') hK;have llq:lq.length≤40000000000:=Nat.le_trans (zhN nq vq kb') hK;unfold zK at e1 e2;by_cases hs:decide (a<0)=decide (b<0)
 ·obtain ⟨o,lo',e3,ho,go',no,vo⟩:=zQS h.h157 h.h166 h.h171 hpu hqu gp gq (by omega) (by omega);obtain ⟨r,e4,hr⟩:=zpw h (decide (a<0)) ⟨lo',ho,go',no,vo⟩ (K:=K+1) (by rw [vp,vq,Nat.pow_succ];omega) (by omega);rw [zxG vp.symm vq.symm hs] at hr;have hr':=hr;obtain ⟨s',w',rfl,hn'⟩:=hr;obtain ⟨l',hu'⟩:=hn'.isU;unfold zK at e3 e4;refine ⟨_,hr',fun tm t2 t3 t4=>?_⟩;simp only [go_sem,reduceEqDiff,c119,zw,t2,t3,z6,zG,u1.frz,u2.frz,e1,e2,hpu.frz,hqu.frz,zal,zfj,hs,beq_self_eq_true];rw [hs] at e4;simp only [go_sem,reduceEqDiff,t4,e3,ho.frz,ho.shut,e4,zO,zU,zaD,z6,List.drop_zero,zdZ hu',zaG hu']
 ·have hs':(decide (a<0)==decide (b<0))=false:=by simpa using hs
  have e3:=zOR h.h158 hpu hqu gp gq np nq (by omega) (by omega);unfold zK at e3;rw [vp,vq] at e3;by_cases hc:b.natAbs≤a.natAbs
  ·obtain ⟨o,lo',e4,ho,go',no,vo⟩:=zMy h.h159 h.h166 h.h173 hpu hqu gp gq nq (by omega) (by rw [vp,vq];exact hc)
   rw [vp,vq] at vo;obtain ⟨r,e5,hr⟩:=zpw h (decide (a<0)) ⟨lo',ho,go',no,rfl⟩ (K:=K) (by omega) (by omega);rw [zot vo hs] at hr;have hr':=hr;obtain ⟨s',w',rfl,hn'⟩:=hr;obtain ⟨l',hu'⟩:=hn'.isU;unfold zK at e4 e5;have hc1:(0:Int)≤zbS a.natAbs b.natAbs:=by unfold zbS;rw [if_neg (by omega)];split<;>decide
   refine ⟨_,hr',fun tm t2 t3 t4=>?_⟩;simp only [go_sem,reduceEqDiff,c119,zw,t2,t3,t4,z6,zG,u1.frz,u2.frz,e1,e2,hpu.frz,hqu.frz,zal,zfj,hs',e3,hc1,e4,ho.frz,ho.shut,e5,zO,zU,zaD,z6,List.drop_zero,zdZ hu',zaG hu']
  ·obtain ⟨o,lo',e4,ho,go',no,vo⟩:=zMy h.h159 h.h166 h.h173 hqu hpu gq gp np (by omega) (by rw [vp,vq];omega);rw [vp,vq] at vo;obtain ⟨r,e5,hr⟩:=zpw h (decide (b<0)) ⟨lo',ho,go',no,rfl⟩ (K:=K) (by omega) (by omega);rw [zot vo (fun e=>hs e.symm),Int.add_comm] at hr;have hr':=hr;obtain ⟨s',w',rfl,hn'⟩:=hr;obtain ⟨l',hu'⟩:=hn'.isU;unfold zK at e4 e5;have hc1:¬(0:Int)≤zbS a.natAbs b.natAbs:=by unfold zbS;rw [if_pos (by omega)];decide
   refine ⟨_,hr',fun tm t2 t3 t4=>?_⟩;simp only [go_sem,reduceEqDiff,c119,zw,t2,t3,t4,z6,zG,u1.frz,u2.frz,e1,e2,hpu.frz,hqu.frz,zal,zfj,hs',e3,hc1,e4,ho.frz,ho.shut,e5,zO,zU,zaD,z6,List.drop_zero,zdZ hu',zaG hu']
theorem zMa (h:Nu P L) {v w:AV} {a b:Int} {K:Nat} (hv:IsN v a) (hw:IsN w b) (ka:Bd K a) (kb:Bd K b) (hK:K≤40000000000):∃r,zK P L 119 [v,w] r∧IsN r (a+b):=by
 obtain ⟨s1,w1,rfl,h1⟩:=hv;obtain ⟨s2,w2,rfl,h2⟩:=hw;obtain ⟨l1,u1⟩:=h1.isU;obtain ⟨l2,u2⟩:=h2.isU;obtain ⟨r,hr,tail⟩:=zG4 h h1 h2 ka kb hK;have fin:∀tm,zc tm 2= .ptr 0 0→zc tm 3= .ptr 1 0→zc tm 4= .ptr 2 0→
   D P L (.seq (zan c119.body) (zan (zw c119.body))) ⟨[(0,.agg [zh s1,w1]),(1,.agg [zh s2,w2])],[],0,0⟩=some (.normal,⟨tm,[(2,.cells true true true 2 [.int .i64 0,.nils]),(1,.cells true true true 2 [zh s2,w2]),(0,.cells true true true 2 [zh s1,w1])],3,0⟩)→zK P L 119 [.agg [zh s1,w1],.agg [zh s2,w2]] r:=fun tm t2 t3 t4 e=>by
  unfold zK;rw [zf h.h119];show zdO [.cell 4 2 true] (D P L (.seq (zan c119.body) (.seq (zan (zw c119.body)) (zw (zw c119.body)))) ⟨[(0,.agg [zh s1,w1]),(1,.agg [zh s2,w2])],[],0,0⟩)=_
  have e2:D P L (.seq (zan c119.body) (.seq (zan (zw c119.body)) (zw (zw c119.body)))) ⟨[(0,.agg [zh s1,w1]),(1,.agg [zh s2,w2])],[],0,0⟩=zfp P L (D P L (.seq (zan c119.body) (zan (zw c119.body))) ⟨[(0,.agg [zh s1,w1]),(1,.agg [zh s2,w2])],[],0,0⟩) (zw (zw c119.body)):=by
   rw [zdW,zdW]
   cases D P L (zan c119.body) ⟨[(0,.agg [zh s1,w1]),(1,.agg [zh s2,w2])],[],0,0⟩ with
   | none=>rfl
   | some q=>
    obtain ⟨ex,st⟩:=q
    cases ex with
    | normal=>rw [zaI,zaI,zdW]
    | ret=>rfl
    | exit id=>rfl
  rw [e2,e,zaI];exact tail tm t2 t3 t4
 rcases h1 with ⟨rfl,rfl,a1,a2⟩ | ⟨e,l,rfl,ga,na,va,sa,a1⟩
 ·rcases h2 with ⟨rfl,rfl,b1,b2⟩ | ⟨e,l,rfl,gb,nb,vb,sb,b1⟩
  ·by_cases hin: -9223372036854775808≤s1+s2∧s1+s2<9223372036854775808
   ·refine ⟨.agg [zh (s1+s2),.nils],?_,Nok.mk_small hin.1 hin.2⟩;have e:decide (s1<s1+s2)=decide (0<s2):=by
     by_cases h:0<s2
     ·simp only [h,decide_true];exact decide_eq_true (by omega)
     ·simp only [h,decide_false];exact decide_eq_false (by omega)
    unfold zK;rw [zf h.h119]
    simp only [go_sem,reduceEqDiff,reduceAdd,c119,zu,zbo,zbJ,zal,zfj,zI,Nat.zero_add,zak,ze (n:=s1+s2) hin.1 hin.2,e,beq_self_eq_true,zda];rfl
   ·have e:(decide (s1<IntKind.wrap .i64 (s1+s2))==decide (0<s2))=false:=by
     have hw:(9223372036854775808≤s1+s2∧IntKind.wrap .i64 (s1+s2)=s1+s2-18446744073709551616)∨(s1+s2< -9223372036854775808∧IntKind.wrap .i64 (s1+s2)=s1+s2+18446744073709551616):=by
      simp only [IntKind.wrap,IntKind.bits,IntKind.signed,Bool.true_and]
      split<;>rename_i h<;>simp at h<;>omega
     by_cases h0:0<s2
     ·rw [decide_eq_true h0,decide_eq_false (by omega)];rfl
     ·rw [decide_eq_false h0,decide_eq_true (by omega)];rfl
    refine ⟨r,fin _ ?_ ?_ ?_ (by simp only [go_sem,reduceEqDiff,reduceAdd,zan,zw,c119,zu,zbJ,zal,zfj,zI,Nat.zero_add,zak,e]<;>rfl),hr⟩<;>simp only [go_sem,reduceEqDiff]
  ·refine ⟨r,fin _ ?_ ?_ ?_ (by simp only [go_sem,reduceEqDiff,reduceAdd,zan,zw,c119,zu,zbJ,zc1,zal,zI,Nat.zero_add,zak]<;>rfl),hr⟩<;>simp only [go_sem,reduceEqDiff]
 ·refine ⟨r,fin _ ?_ ?_ ?_ (by simp only [go_sem,reduceEqDiff,reduceAdd,zan,zw,c119,zu,u2.pu,u2.one,zc1,zal,zI,Nat.zero_add,zak]<;>rfl),hr⟩<;>simp only [go_sem,reduceEqDiff]
end
end VE
end
section
namespace VE
open Go (IntKind)
theorem zex {P:zN} {L:Lib} (a b c:VC) (s:St):D P L (.seq a (.seq b c)) s=zfp P L (D P L (.seq a b) s) c:=by
 rw [zdW,zdW]
 cases D P L a s with
 | none=>rfl
 | some q=>
  obtain ⟨ex,st⟩:=q
  cases ex with
  | normal=>rw [zaI,zaI,zdW]
  | ret=>rfl
  | exit id=>rfl
theorem zym {s s':Int} {w w':AV} {l l':List Nat} (h:IsU w l) (h':IsU w' l') (hp:Hp):zaL hp (.tup [.agg [zh s,w],.agg [zh s',w']])=some (.tup [.agg [zh s,w],.agg [zh s',w']]):=by
 rcases h with ⟨rfl,_⟩ | ⟨e,rfl⟩<;>rcases h' with ⟨rfl,_⟩ | ⟨e',rfl⟩<;>rfl
def zB8 (tm:Env) (hp:Hp) (ct:Nat) (rs:List (Nat×Bool×Nat)) (sz:Nat) (p:AV) (new:List AV):Res:=match p with | .ptr id o=>bif zc4 tm id rs then stC hp ct id o sz new (zq hp id) else none | _=>none
def zAr (id:Nat):AV→Bool | .ptr j _=> !Nat.beq j id | .vptr _=>true | _=>false
theorem zpv {P:zN} {L:Lib} (f:Run) (tm:Env) (hp:Hp) (ct:Nat) (rs:List (Nat×Bool×Nat)) (sz:Nat) (x v:X):zZ P L f tm hp ct (.std rs sz x v)=zB8 tm hp ct rs sz (zp tm x) (cellsOf (zp tm v)):=by
 simp only [zZ,zB8]
 cases hx:zp tm x with
 | ptr id o=>
  simp only;rw [zoB,hx,zDb]
 | _=>rfl
theorem zo9 {tm:Env} {hp:Hp} {ct:Nat} {rs:List (Nat×Bool×Nat)} {sz id o:Nat} {new:List AV} (h:zc4 tm id rs=true):zB8 tm hp ct rs sz (.ptr id o) new=stC hp ct id o sz new (zq hp id):=by
 simp only [zB8,h,cond_true]
theorem zmW (tm:Env) (id:Nat):zc4 tm id []=true:=(rfl)
theorem zkr (tm:Env) (id sz x:Nat) (ag:Bool) (r:List (Nat×Bool×Nat)):zc4 tm id ((sz,ag,x)::r)=(zAr id (zc tm x)&&zc4 tm id r):=by
 simp only [zc4,zAr];cases zc tm x<;>rfl
theorem zoM {id j o:Nat} (h:j≠id):zAr id (.ptr j o)=true:=by simp only [zAr,zaH h,Bool.not_false]
section
variable {P:zN} {L:Lib}
theorem zMY (h:Nu P L) {v w:AV} {a b:Int} {K:Nat} (hv:IsN v a) (hw:IsN w b) (ka:Bd K a) (kb:Bd K b) (hK:K≤40000000000):∃r,zK P L 156 [v,w] r∧IsN r (a-b):=by
 obtain ⟨n,e1,hn⟩:=zyI h hw kb (by omega);obtain ⟨r,e2,hr⟩:=zMa h hv hn ka kb.neg hK;rw [←Int.sub_eq_add_neg] at hr;have hr':=hr;obtain ⟨s1,w1,rfl,h1⟩:=hv;obtain ⟨s2,w2,rfl,h2⟩:=hw;obtain ⟨s3,w3,rfl,h3⟩:=hn;obtain ⟨s4,w4,rfl,h4⟩:=hr;obtain ⟨l1,u1⟩:=h1.isU;obtain ⟨l2,u2⟩:=h2.isU;obtain ⟨l3,u3⟩:=h3.isU;obtain ⟨l4,u4⟩:=h4.isU;refine ⟨_,?_,hr'⟩;unfold zK at e1 e2;unfold zK;rw [zf h.h156];simp only [go_sem,reduceEqDiff,reduceAdd,zG9,zu,u1.pu,u1.frz,u1.one,u2.pu,u2.frz,u2.one,u3.frz,zG,e1,e2,zO,zU,zaD,z6,List.drop_zero,zdZ u4,zaG u4]
theorem zQD (h:Nu P L) {v w:AV} {a b:Int} {K:Nat} (hv:IsN v a) (hw:IsN w b) (ka:Bd K a) (kb:Bd K b) (hK:K≤40000000000):zK P L 118 [v,w] (zh (sgn (a-b))):=by
 obtain ⟨d,e1,hd⟩:=zMY h hv hw ka kb hK;have e2:=zxs h hd;obtain ⟨s1,w1,rfl,h1⟩:=hv;obtain ⟨s2,w2,rfl,h2⟩:=hw;obtain ⟨s3,w3,rfl,h3⟩:=hd;obtain ⟨l1,u1⟩:=h1.isU;obtain ⟨l2,u2⟩:=h2.isU;obtain ⟨l3,u3⟩:=h3.isU;unfold zK at e1 e2;unfold zK;rw [zf h.h118];rcases h1 with ⟨rfl,rfl,a1,a2⟩ | ⟨e,l,rfl,ga,na,va,sa,a1⟩
 ·rcases h2 with ⟨rfl,rfl,b1,b2⟩ | ⟨e,l,rfl,gb,nb,vb,sb,b1⟩
  ·by_cases c1:s1<s2
   ·rw [show sgn (s1-s2)= -1 by unfold sgn;rw [if_pos (by omega)]];simp only [go_sem,reduceEqDiff,reduceAdd,zpH,zu,zbJ,zal,zI,Nat.zero_add,zak,c1]
   ·by_cases c2:s2<s1
    ·rw [show sgn (s1-s2)=1 by unfold sgn;rw [if_neg (by omega),if_neg (by omega)]];simp only [go_sem,reduceEqDiff,reduceAdd,zpH,zu,zbJ,zal,zI,Nat.zero_add,zak,c1,c2]
    ·rw [show sgn (s1-s2)=0 by unfold sgn;rw [if_neg (by omega),if_pos (by omega)]];simp only [go_sem,reduceEqDiff,reduceAdd,zpH,zu,zbJ,zal,zI,Nat.zero_add,zak,c1,c2]
  ·simp only [go_sem,reduceEqDiff,reduceAdd,zpH,zu,zbJ,zc1,zal,zI,Nat.zero_add,zak,z6,zG,e1,e2,u3.frz,zO]
 ·simp only [go_sem,reduceEqDiff,reduceAdd,zpH,zu,u2.pu,u2.frz,u2.one,zc1,zal,zI,Nat.zero_add,zak,z6,zG,e1,e2,u3.frz,zO]
theorem zKV (h:Nu P L) {s1 s2:Int} {w1 w2:AV} {a b:Int} {K:Nat} (ha:Nok s1 w1 a) (hb:Nok s2 w2 b) (ka:Bd K a) (kb:Bd K b) (hK:K≤40000000000):
  ∃r,IsN r (a*b)∧∀tm,zc tm 2= .ptr 0 0→zc tm 3= .ptr 1 0→zc tm 4= .ptr 2 0→zdO [.cell 4 2 true] (D P L (zw (zw c100.body)) ⟨tm,[(2,.cells true true true 2 [.int .i64 0,.nils]),(1,.cells true true true 2 [zh s2,w2]),(0,.cells true true true 2 [zh s1,w1])],3,0⟩)=some r:=by
 obtain ⟨l1,u1⟩:=ha.isU;obtain ⟨l2,u2⟩:=hb.isU;obtain ⟨p,e1,hp⟩:=zmu h ha;obtain ⟨q,e2,hq⟩:=zmu h hb;obtain ⟨lp,hpu,gp,np,vp⟩:=hp.isU;obtain ⟨lq,hqu,gq,nq,vq⟩:=hq.isU;have ka':=Nat.lt_of_lt_of_le ka (zfg K);have kb':=Nat.lt_of_lt_of_le kb (zfg K);have llp:lp.length≤40000000000:=Nat.le_trans (zhN np vp ka') hK;have llq:lq.length≤40000000000:=Nat.le_trans (zhN nq vq kb') hK;obtain ⟨o,lo',e3,ho,go',no,vo⟩:=zQJ h.h144 h.h166 h.h143 h.h171 hpu hqu gp gq (by omega) (by omega);obtain ⟨r,e4,hr⟩:=zpw h (decide (a<0) !=decide (b<0)) ⟨lo',ho,go',no,vo⟩ (K:=K+K) (by rw [vp,vq,Nat.pow_add];exact Nat.mul_lt_mul'' ka' kb') (by omega)
 rw [vp,vq,znc] at hr;have hr':=hr;obtain ⟨s',w',rfl,hn'⟩:=hr;obtain ⟨l',hu'⟩:=hn'.isU;unfold zK at e1 e2 e3 e4;refine ⟨_,hr',fun tm t2 t3 t4=>?_⟩;have hbb:∀x y:Bool,zwj true (some (x==y))=some (.bool (x !=y)):=fun x y=>by cases x<;>cases y<;>rfl
 simp only [go_sem,reduceEqDiff,c100,zw,t2,t3,t4,z6,zG,u1.frz,u2.frz,e1,e2,hpu.frz,hqu.frz,zfj,hbb,e3,ho.frz,ho.shut,e4,zO,zU,zaD,z6,List.drop_zero,zdZ hu',zaG hu']
theorem zwZ {a b:Int} {m:Nat} (h:a.natAbs*b.natAbs=m):a*b=if (decide (a<0)==decide (b<0))=true then (m:Int) else 0-(m:Int):=by
 have:=znc (a:=a) (b:=b)
 rw [h] at this;unfold za5 at this
 cases hd:(decide (a<0)==decide (b<0)) with
 | true=>simp only [bne,hd,Bool.not_true,Bool.false_eq_true,if_false] at this;rw [if_pos rfl];exact this.symm
 | false=>simp only [bne,hd,Bool.not_false,if_true] at this;rw [if_neg (by decide)];omega
theorem zGM (h:Nu P L) {v w:AV} {a b:Int} {K:Nat} (hv:IsN v a) (hw:IsN w b) (ka:Bd K a) (kb:Bd K b) (hK:K≤40000000000):∃r,zK P L 100 [v,w] r∧IsN r (a*b):=by
 obtain ⟨s1,w1,rfl,h1⟩:=hv;obtain ⟨s2,w2,rfl,h2⟩:=hw;obtain ⟨l1,u1⟩:=h1.isU;obtain ⟨l2,u2⟩:=h2.isU;obtain ⟨r,hr,tail⟩:=zKV h h1 h2 ka kb hK;have fin:∀tm,zc tm 2= .ptr 0 0→zc tm 3= .ptr 1 0→zc tm 4= .ptr 2 0→
   D P L (.seq (zan c100.body) (zan (zw c100.body))) ⟨[(0,.agg [zh s1,w1]),(1,.agg [zh s2,w2])],[],0,0⟩=some (.normal,⟨tm,[(2,.cells true true true 2 [.int .i64 0,.nils]),(1,.cells true true true 2 [zh s2,w2]),(0,.cells true true true 2 [zh s1,w1])],3,0⟩)→zK P L 100 [.agg [zh s1,w1],.agg [zh s2,w2]] r:=fun tm t2 t3 t4 e=>by
  unfold zK;rw [zf h.h100];show zdO [.cell 4 2 true] (D P L (.seq (zan c100.body) (.seq (zan (zw c100.body)) (zw (zw c100.body)))) ⟨[(0,.agg [zh s1,w1]),(1,.agg [zh s2,w2])],[],0,0⟩)=_
  rw [zex,e,zaI];exact tail tm t2 t3 t4
 rcases h1 with ⟨rfl,rfl,a1,a2⟩ | ⟨e,l,rfl,ga,na,va,sa,a1⟩
 ·rcases h2 with ⟨rfl,rfl,b1,b2⟩ | ⟨e,l,rfl,gb,nb,vb,sb,b1⟩
  ·have f1:=zJ4 h a1 a2;have f2:=zJ4 h b1 b2;have f3:=zmo (P:=P) (f:=D P L) h.h143 (x:=s1.natAbs) (y:=s2.natAbs) (by omega) (by omega);unfold zK at f1 f2;obtain ⟨m,hm⟩:∃m,s1.natAbs*s2.natAbs=m:=⟨_,rfl⟩;rw [hm] at f3;have hpr:=zwZ hm;by_cases hin:m≤9223372036854775807
   ·rw [Nat.div_eq_of_lt (by omega),Nat.mod_eq_of_lt (by omega)] at f3;rw [show (uc 0)=AV.int .u64 0 from rfl] at f3;by_cases hs:(decide (s1<0)==decide (s2<0))=true
    ·rw [if_pos hs] at hpr;refine ⟨.agg [zh (m:Int),.nils],?_,by rw [hpr];exact Nok.mk_small (by omega) (by omega)⟩
     unfold zK;rw [zf h.h100]
     simp only [go_sem,reduceEqDiff,reduceAdd,c100,zu,zbo,zbJ,zal,zj0,zfj,zI,Nat.zero_add,zak,f1,f2,f3,show (m:Int)≤9223372036854775807 by omega,hs,zmC,ze (n:=(m:Int)) (by omega) (by omega),zda];rfl
    ·rw [if_neg hs] at hpr;have hs:(decide (s1<0)==decide (s2<0))=false:=by simpa using hs
     refine ⟨.agg [zh (0-(m:Int)),.nils],?_,by rw [hpr];exact Nok.mk_small (by omega) (by omega)⟩
     unfold zK;rw [zf h.h100]
     simp only [go_sem,reduceEqDiff,reduceAdd,c100,zu,zbo,zbJ,zal,zj0,zfj,zI,Nat.zero_add,zak,f1,f2,f3,show (m:Int)≤9223372036854775807 by omega,hs,zmC,ze (n:=(m:Int)) (by omega) (by omega),ze (n:=0-(m:Int)) (by omega) (by omega),zda];rfl
   ·by_cases hi0:m/18446744073709551616=0
    ·rw [hi0,Nat.mod_eq_of_lt (by omega)] at f3;rw [show (uc 0)=AV.int .u64 0 from rfl] at f3;refine ⟨r,fin _ ?_ ?_ ?_ (by simp only [go_sem,reduceEqDiff,reduceAdd,zan,zw,c100,zu,zbJ,zal,zI,Nat.zero_add,zak,f1,f2,f3,show ¬(m:Int)≤9223372036854775807 by omega]<;>rfl),hr⟩<;>simp only [go_sem,reduceEqDiff]
    ·obtain ⟨q,hq⟩:∃q,q=m/18446744073709551616:=⟨_,rfl⟩;rw [←hq] at f3 hi0;refine ⟨r,fin _ ?_ ?_ ?_ (by simp only [go_sem,reduceEqDiff,reduceAdd,zan,zw,c100,zu,zbJ,zal,zI,Nat.zero_add,zak,f1,f2,f3,show ¬(q:Int)=0 by omega]<;>rfl),hr⟩<;>simp only [go_sem,reduceEqDiff]
  ·refine ⟨r,fin _ ?_ ?_ ?_ (by simp only [go_sem,reduceEqDiff,reduceAdd,zan,zw,c100,zu,zbJ,zc1,zal,zI,Nat.zero_add,zak]<;>rfl),hr⟩<;>simp only [go_sem,reduceEqDiff]
 ·refine ⟨r,fin _ ?_ ?_ ?_ (by simp only [go_sem,reduceEqDiff,reduceAdd,zan,zw,c100,zu,u2.pu,u2.one,zc1,zal,zI,Nat.zero_add,zak]<;>rfl),hr⟩<;>simp only [go_sem,reduceEqDiff]
end
end VE
end
section
namespace VE
open Go (IntKind)
theorem zvv {a b:Int} {q r:Nat} (hb:0<b) (h:q=a.natAbs/b.natAbs) (h2:r=a.natAbs%b.natAbs):
  (za5 (decide (a<0)) r<0→a/b=za5 (decide (a<0)) q-1∧a%b=za5 (decide (a<0)) r+b)∧(¬za5 (decide (a<0)) r<0→a/b=za5 (decide (a<0)) q∧a%b=za5 (decide (a<0)) r):=by
 have hdm:=Nat.div_add_mod a.natAbs b.natAbs;rw [←h,←h2] at hdm;have hlt:r<b.natAbs:=by rw [h2];exact Nat.mod_lt _ (by omega)
 have e:(b:Int)*q+r=a.natAbs:=by
  have:=congrArg (fun t:Nat=>(t:Int)) hdm
  simp only [Int.natCast_add,Int.natCast_mul] at this;rw [show ((b.natAbs:Nat):Int)=b by omega] at this;exact this
 unfold za5;by_cases h0:a<0
 ·simp only [h0,decide_true,if_true];constructor
  ·intro h3;refine (Int.ediv_emod_unique hb).2 ⟨?_,by omega,by omega⟩;rw [Int.mul_sub,Int.mul_neg];omega
  ·intro h3;refine (Int.ediv_emod_unique hb).2 ⟨?_,by omega,by omega⟩;rw [Int.mul_neg];omega
 ·simp only [h0,decide_false,Bool.false_eq_true,if_false];exact ⟨fun h3=>by omega,fun _=>(Int.ediv_emod_unique hb).2 ⟨by omega,by omega,by omega⟩⟩
section
variable {P:zN} {L:Lib}
theorem zI8 (h:Nu P L) {s1 s2:Int} {w1 w2:AV} {a b:Int} {K:Nat} (ha:Nok s1 w1 a) (hb:Nok s2 w2 b) (hb0:0<b) (ka:Bd K a) (kb:Bd K b) (hK:K≤30000000000):
  ∃q r,IsN q (a/b)∧IsN r (a%b)∧∀tm,zc tm 2= .ptr 0 0→zc tm 3= .ptr 1 0→zc tm 4= .ptr 2 0→zc tm 5= .ptr 3 0→zdO [.cell 4 2 true,.cell 5 2 true] (D P L (zw (zw c164.body)) ⟨tm,[(3,.cells true true true 2 [.int .i64 0,.nils]),(2,.cells true true true 2 [.int .i64 0,.nils]),(1,.cells true true true 2 [zh s2,w2]),(0,.cells true true true 2 [zh s1,w1])],4,0⟩)=some (.tup [q,r]):=by
 obtain ⟨l1,u1⟩:=ha.isU;obtain ⟨l2,u2⟩:=hb.isU;obtain ⟨p,e1,hp⟩:=zmu h ha;obtain ⟨q,e2,hq⟩:=zmu h hb;have hb':IsN (.agg [zh s2,w2]) b:=⟨s2,w2,rfl,hb⟩;obtain ⟨lp,hpu,_⟩:=hp.isU;obtain ⟨lq,hqu,_⟩:=hq.isU;have ka':=Nat.lt_of_lt_of_le ka (zfg K);have kb':=Nat.lt_of_lt_of_le kb (zfg K);obtain ⟨dq,dr,e3,hdq,hdr⟩:=zNx h.toWd hp hq (by omega) ka' kb' (by omega);obtain ⟨lq1,uq,_⟩:=hdq.isU;obtain ⟨lr1,ur,_⟩:=hdr.isU;have hqk:a.natAbs/b.natAbs<18446744073709551616^K:=Nat.lt_of_le_of_lt (Nat.div_le_self _ _) ka';have hrk:a.natAbs%b.natAbs<18446744073709551616^K:=Nat.lt_of_le_of_lt (Nat.mod_le _ _) ka';have hqb:a.natAbs/b.natAbs<2^K:=Nat.lt_of_le_of_lt (Nat.div_le_self _ _) ka;have hrb:a.natAbs%b.natAbs<2^K:=Nat.lt_of_le_of_lt (Nat.mod_le _ _) ka;obtain ⟨f1,f2⟩:=zvv (a:=a) hb0 rfl rfl;generalize a.natAbs/b.natAbs=Q at*
 generalize a.natAbs%b.natAbs=R at*
 obtain ⟨vq,e4,hvq⟩:=zpw h (decide (a<0)) hdq hqk (by omega);obtain ⟨vr,e5,hvr⟩:=zpw h (decide (a<0)) hdr hrk (by omega);have hsq:Bd K (za5 (decide (a<0)) Q):=by unfold Bd za5;split<;>omega
 have hsr:Bd K (za5 (decide (a<0)) R):=by unfold Bd za5;split<;>omega
 generalize za5 (decide (a<0)) Q=Qs at*
 generalize za5 (decide (a<0)) R=Rs at*
 have e6:=zxs h hvr;have hvq':=hvq;have hvr':=hvr;obtain ⟨s3,w3,rfl,h3⟩:=hvq;obtain ⟨s4,w4,rfl,h4⟩:=hvr;obtain ⟨l3,u3⟩:=h3.isU;obtain ⟨l4,u4⟩:=h4.isU;unfold zK at e1 e2 e3 e4 e5 e6;by_cases h0:Rs<0
 ·obtain ⟨g1,g2⟩:=f1 h0;have hb1:Bd (K+1) 1:=Bd.mono (k:=1) (by unfold Bd;decide) (by omega)
  obtain ⟨o1,o2⟩:=zop h (z:=1) (by decide) (by decide);obtain ⟨vq2,e7,hvq2⟩:=zMY h hvq' o2 (K:=K+1) (hsq.mono (by omega)) hb1 (by omega);obtain ⟨vr2,e8,hvr2⟩:=zMa h hvr' hb' (K:=K+1) (hsr.mono (by omega)) (kb.mono (by omega)) (by omega);rw [←g1] at hvq2;rw [←g2] at hvr2;have hs1:sgn Rs<0:=by unfold sgn;rw [if_pos h0];decide
  have k1:=hvq2;have k2:=hvr2;obtain ⟨s5,w5,rfl,h5⟩:=hvq2;obtain ⟨s6,w6,rfl,h6⟩:=hvr2;obtain ⟨l5,u5⟩:=h5.isU;obtain ⟨l6,u6⟩:=h6.isU;unfold zK at o1 e7 e8;refine ⟨_,_,k1,k2,fun tm t2 t3 t4 t5=>?_⟩;simp only [go_sem,reduceEqDiff,reduceAdd,c164,zw,t2,t3,t4,t5,zpv,zo9,zmW,zkr,zoM,Bool.and_self,zu,z6,zG,u1.frz,u2.frz,e1,e2,hpu.frz,hqu.frz,e3,uq.frz,uq.shut1,ur.frz,ur.shut1,e4,e5,zO,zU,zaD,z6,List.drop_zero,zaG u3,zaG u4,u3.frz,u4.frz,e6,hs1,o1,e7,e8,zU,zaD,z6,List.drop_zero,zaG u5,zaG u6,zym u5 u6]
 ·obtain ⟨g1,g2⟩:=f2 h0;have hs1:¬sgn Rs<0:=by unfold sgn;rw [if_neg h0];split<;>decide
  refine ⟨_,_,by rw [g1];exact hvq',by rw [g2];exact hvr',fun tm t2 t3 t4 t5=>?_⟩
  simp only [go_sem,reduceEqDiff,reduceAdd,c164,zw,t2,t3,t4,t5,zpv,zo9,zmW,zkr,zoM,Bool.and_self,zu,z6,zG,u1.frz,u2.frz,e1,e2,hpu.frz,hqu.frz,e3,uq.frz,uq.shut1,ur.frz,ur.shut1,e4,e5,zO,zU,zaD,z6,List.drop_zero,zaG u3,zaG u4,u4.frz,e6,hs1,zym u3 u4]
theorem zEQ (h:Nu P L) {v w:AV} {a b:Int} {K:Nat} (hv:IsN v a) (hw:IsN w b) (hb0:0<b) (ka:Bd K a) (kb:Bd K b) (hK:K≤30000000000):∃q r,zK P L 164 [v,w] (.tup [q,r])∧IsN q (a/b)∧IsN r (a%b):=by
 obtain ⟨s1,w1,rfl,h1⟩:=hv;obtain ⟨s2,w2,rfl,h2⟩:=hw;obtain ⟨l1,u1⟩:=h1.isU;obtain ⟨l2,u2⟩:=h2.isU;obtain ⟨q,r,hq,hr,tail⟩:=zI8 h h1 h2 hb0 ka kb hK;have fin:∀tm,zc tm 2= .ptr 0 0→zc tm 3= .ptr 1 0→zc tm 4= .ptr 2 0→zc tm 5= .ptr 3 0→
   D P L (.seq (zan c164.body) (zan (zw c164.body))) ⟨[(0,.agg [zh s1,w1]),(1,.agg [zh s2,w2])],[],0,0⟩=some (.normal,⟨tm,[(3,.cells true true true 2 [.int .i64 0,.nils]),(2,.cells true true true 2 [.int .i64 0,.nils]),(1,.cells true true true 2 [zh s2,w2]),(0,.cells true true true 2 [zh s1,w1])],4,0⟩)→zK P L 164 [.agg [zh s1,w1],.agg [zh s2,w2]] (.tup [q,r]):=fun tm t2 t3 t4 t5 e=>by
  unfold zK;rw [zf h.h164];show zdO [.cell 4 2 true,.cell 5 2 true] (D P L (.seq (zan c164.body) (.seq (zan (zw c164.body)) (zw (zw c164.body)))) ⟨[(0,.agg [zh s1,w1]),(1,.agg [zh s2,w2])],[],0,0⟩)=_
  rw [zex,e,zaI];exact tail tm t2 t3 t4 t5
 rcases h1 with ⟨rfl,rfl,a1,a2⟩ | ⟨e,l,rfl,ga,na,va,sa,a1⟩
 ·rcases h2 with ⟨rfl,rfl,b1,b2⟩ | ⟨e,l,rfl,gb,nb,vb,sb,b1⟩
  ·by_cases hm:s1= -9223372036854775808
   ·refine ⟨q,r,fin _ ?_ ?_ ?_ ?_ (by simp only [go_sem,reduceEqDiff,reduceAdd,zan,zw,c164,zu,zbJ,zal,zI,Nat.zero_add,zak,hm]<;>rfl),hq,hr⟩<;>simp only [go_sem,reduceEqDiff]
   ·obtain ⟨f1,f2⟩:=zlJ (a:=s1) hb0;have hq':s1.tdiv s2=0∨(s1.tdiv s2).natAbs≤s1.natAbs:= .inr (Int.natAbs_tdiv_le_natAbs s1 s2);have hq2:=Int.natAbs_tdiv_le_natAbs s1 s2;have hr1:=Int.tmod_lt_of_pos s1 hb0;have hr2:=Int.lt_tmod_of_pos s1 hb0;have hdm:=Int.mul_tdiv_add_tmod s1 s2;have hq3:s1.tmod s2<0→ -9223372036854775808<s1.tdiv s2:=fun h=>by omega
    by_cases h0:s1.tmod s2<0
    ·obtain ⟨g1,g2⟩:=f1 h0;have hq4:=hq3 h0;rw [g1,g2];refine ⟨.agg [zh (s1.tdiv s2-1),.nils],.agg [zh (s1.tmod s2+s2),.nils],?_,Nok.mk_small (by omega) (by omega),Nok.mk_small (by omega) (by omega)⟩;unfold zK;rw [zf h.h164]
     simp only [go_sem,reduceEqDiff,reduceAdd,c164,zu,zbo,zbJ,zal,zI,Nat.zero_add,zak,hm,zai _ _ _ (show s2≠0 by omega),zaK _ _ _ (show s2≠0 by omega),h0,ze (n:=s1.tdiv s2) (by omega) (by omega),ze (n:=s1.tdiv s2-1) (by omega) (by omega),ze (n:=s1.tmod s2+s2) (by omega) (by omega),zda];rfl
    ·obtain ⟨g1,g2⟩:=f2 h0;rw [g1,g2];refine ⟨.agg [zh (s1.tdiv s2),.nils],.agg [zh (s1.tmod s2),.nils],?_,Nok.mk_small (by omega) (by omega),Nok.mk_small (by omega) (by omega)⟩;unfold zK;rw [zf h.h164]
     simp only [go_sem,reduceEqDiff,reduceAdd,c164,zu,zbo,zbJ,zal,zI,Nat.zero_add,zak,hm,zai _ _ _ (show s2≠0 by omega),zaK _ _ _ (show s2≠0 by omega),h0,ze (n:=s1.tdiv s2) (by omega) (by omega),zda];rfl
  ·refine ⟨q,r,fin _ ?_ ?_ ?_ ?_ (by simp only [go_sem,reduceEqDiff,reduceAdd,zan,zw,c164,zu,zbJ,zc1,zal,zI,Nat.zero_add,zak]<;>rfl),hq,hr⟩<;>simp only [go_sem,reduceEqDiff]
 ·refine ⟨q,r,fin _ ?_ ?_ ?_ ?_ (by simp only [go_sem,reduceEqDiff,reduceAdd,zan,zw,c164,zu,u2.pu,u2.one,zc1,zal,zI,Nat.zero_add,zak]<;>rfl),hq,hr⟩<;>simp only [go_sem,reduceEqDiff]
end
end VE
end
