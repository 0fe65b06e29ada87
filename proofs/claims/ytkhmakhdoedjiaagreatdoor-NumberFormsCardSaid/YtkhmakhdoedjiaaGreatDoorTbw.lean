import Derived.Test.YtkhmakhdoedjiaaGreatDoorTbn
import Derived.Test.YtkhmakhdoedjiaaGreatDoorTbg
import Derived.Test.YtkhmakhdoedjiaaGreatDoorTbd
import Derived.Test.YtkhmakhdoedjiaaGreatDoorTbf
import Derived.Test.YtkhmakhdoedjiaaGreatDoorTat
import Derived.Test.YtkhmakhdoedjiaaGreatDoorTbv
set_option linter.all false
set_option maxRecDepth 100000
open Nat (reduceAdd reduceEqDiff reduceLT reduceLeDiff)
section
namespace VE
open Go (IntKind)
theorem zg1 (n:Nat):10^n≤2^(4*n):=by
 rw [Nat.pow_mul];exact Nat.pow_le_pow_left (by decide) n
theorem zuX {b:Nat} {r:List Nat} (h:zbg (b::r)=true):48≤b∧b≤57:=by
 simp only [zbg,Bool.and_eq_true] at h;exact ⟨Nat.le_of_ble_eq_true h.1.1,Nat.le_of_ble_eq_true h.1.2⟩
section
variable {P:zN} {L:Lib}
theorem zzv (h:Tx P L) {ds:List Nat} {N:Nat} (hD:zaV ds 0=some N) (hl:ds.length≤4000000000) {neg:Bool} {o1 o2:AV}:
  ∀m st,(∃(pre rest:List Nat) (a:Nat) (s:Int) (w:AV),zA [0,2,3,4] st=⟨[(0,.str rest),(2,.ptr 0 0),(3,.bool neg),(4,.ptr 1 0)],[(1,.cells true true true 2 [zh s,w]),(0,.cells true true true 2 [o1,o2])],2,0⟩∧ds=pre++rest∧zaV pre 0=some a∧Nok s w a∧rest.length=m)→
   ∃ex st',D P L (.loop [0,2,3,4] zh6) st=some (ex,st')∧∃tm s w,st'=⟨tm,[(1,.cells true true true 2 [zh s,w]),(0,.cells true true true 2 [o1,o2])],2,0⟩∧ex= .exit 0∧zc tm 2= .ptr 0 0∧zc tm 3= .bool neg∧zc tm 4= .ptr 1 0∧Nok s w N:=by
 refine zS (I:=fun m st=>∃(pre rest:List Nat) (a:Nat) (s:Int) (w:AV),st=⟨[(0,.str rest),(2,.ptr 0 0),(3,.bool neg),(4,.ptr 1 0)],[(1,.cells true true true 2 [zh s,w]),(0,.cells true true true 2 [o1,o2])],2,0⟩∧ds=pre++rest∧zaV pre 0=some a∧Nok s w a∧rest.length=m)
  (Q:=fun ex st'=>∃tm s w,st'=⟨tm,[(1,.cells true true true 2 [zh s,w]),(0,.cells true true true 2 [o1,o2])],2,0⟩∧ex= .exit 0∧zc tm 2= .ptr 0 0∧zc tm 3= .bool neg∧zc tm 4= .ptr 1 0∧Nok s w N) ?_
 rintro m st ⟨pre,rest,a,s,w,rfl,hds,hpre,hn,rfl⟩;obtain ⟨l1,u1⟩:=hn.isU;have hall:=hD;rw [hds,zfz,hpre] at hall;have hall:zaV rest a=some N:=hall;have hlen:pre.length+rest.length≤4000000000:=by rw [hds,List.length_append] at hl;exact hl
 by_cases h0:rest.length=0
 ·right
  have hr:rest=[]:=List.eq_nil_of_length_eq_zero h0;subst hr
  have:a=N:=by simpa [zaV] using hall
  subst this;simp only [go_sem,zh6,List.length_nil,show ¬(0:Int)<((0:Nat):Int) by omega];exact ⟨_,_,rfl,by simp,_,s,w,rfl,rfl,by simp only [go_sem,reduceEqDiff],by simp only [go_sem,reduceEqDiff],by simp only [go_sem,reduceEqDiff],hn⟩
 ·left
  obtain ⟨n,hnn⟩:∃n,n=min 18 rest.length:=⟨_,rfl⟩;have hmin:(if (rest.length:Int)<18 then (rest.length:Int) else 18)=(n:Int):=by split<;>omega
  have hsp:rest.take n++rest.drop n=rest:=List.take_append_drop n rest;obtain ⟨a',ha'⟩:∃a',zaV (rest.take n) a=some a':=by
   rw [←hsp,zfz] at hall
   cases hq:zaV (rest.take n) a with
   | none=>rw [hq] at hall;cases hall
   | some a'=>exact ⟨a',rfl⟩
  obtain ⟨v,hv⟩:∃v,zaV (rest.take n) 0=some v:=by
   have:∀(l:List Nat) (x y b:Nat),zaV l x=some y→∃z,zaV l b=some z:=by
    intro l
    induction l with
    | nil=>intro x y b _;exact ⟨b,rfl⟩
    | cons c l ih=>
     intro x y b hh;simp only [zaV] at hh ⊢
     cases hb:(Nat.ble 48 c&&Nat.ble c 57) with
     | false=>rw [hb] at hh;cases hh
     | true=>rw [hb] at hh;exact ih _ _ _ hh
   exact this _ _ _ 0 ha'
  have hacc:=zw4 (a:=a) hv;have htl:(rest.take n).length=n:=by rw [List.length_take];omega
  rw [htl,ha',Option.some.injEq] at hacc;have hvlt:=zml hv;rw [htl] at hvlt;have hv18:v<1000000000000000000:=Nat.lt_of_lt_of_le hvlt (Nat.pow_le_pow_right (n:=10) (by decide) (show n≤18 by omega));have e1:=zBn (P:=P) h.h154 (f:=D P L) (s:=rest.take n) (by omega) (by omega) hv;obtain ⟨t1,t2⟩:=zop h.toNu (z:=10) (by decide) (by decide);obtain ⟨t3,t4⟩:=zop h.toNu (z:=(v:Int)) (by omega) (by omega);obtain ⟨p,e2,hp⟩:=zQF h.toNu h.h155 t2 (K:=4) (k:=n) (by unfold Bd;decide) (by omega) (by omega)
  have halt:=zml hpre;have ba:Bd (4*pre.length) (a:Int):=Nat.lt_of_lt_of_le halt (zg1 _);have bp:Bd (4*n+1) ((10:Int)^n):=Bd.pow (k:=4) (by unfold Bd;decide) n
  obtain ⟨q,e3,hq⟩:=zGM h.toNu (v:= .agg [zh s,w]) ⟨s,w,rfl,hn⟩ hp (K:=4*pre.length+4*n+1) (ba.mono (by omega)) (bp.mono (by omega)) (by omega);have bv':Bd (4*n) (v:Int):=Nat.lt_of_lt_of_le hvlt (zg1 _);obtain ⟨r,e4,hr⟩:=zMa h.toNu hq t4 (K:=4*pre.length+4*n+1) ((ba.mul bp).mono (by omega)) (bv'.mono (by omega)) (by omega);have hval:(a:Int)*10^n+(v:Int)=(a':Int):=by
   rw [hacc]
   simp
  rw [hval] at hr;obtain ⟨s2,w2,rfl,h2⟩:=hp;obtain ⟨s3,w3,rfl,h3⟩:=hq;obtain ⟨s4,w4,rfl,h4⟩:=hr;obtain ⟨l2,u2⟩:=h2.isU;obtain ⟨l3,u3⟩:=h3.isU;obtain ⟨l4,u4⟩:=h4.isU;have un:=zcz;have c1:zf8 rest (some 0) (some n)=some (.str (rest.take n)):=by rw [zc9 (by omega) (by omega),List.drop_zero]
  have c2:zf8 rest (some n) (some rest.length)=some (.str (rest.drop n)):=by rw [zc9 (by omega) (by omega),List.take_length]
  unfold zK at t1 t3 e2 e3 e4;simp only [go_sem,reduceEqDiff,zh6,show (0:Int)<(rest.length:Nat) by omega,zpG,zkG,hmin,zau,zay,zae,c1,c2,e1,z6,t1,t3,zG,u1.frz,u2.frz,u3.frz,un.frz,e2,e3,e4,zO,z6,List.drop_zero,zaG u4];refine ⟨_,(rest.drop n).length,rfl,by rw [List.length_drop];omega,pre++rest.take n,rest.drop n,a',s4,w4,by simp only [go_sem,reduceEqDiff,reduceAdd,za],by rw [List.append_assoc,hsp];exact hds,by rw [zfz,hpre];exact ha',h4,rfl⟩
theorem zh0 {b:Nat} {r:List Nat} (h:48≤b):zbz [45] (b::r)=false:=by
 show (Nat.beq 45 b&&true)=false
 rw [zaH (by omega)];rfl
theorem zvH (h:Tx P L) {z:Int} (hz:(zW z).length≤4000000000):∃r,zK P L 110 [.str (zW z)] r∧IsN r z:=by
 have hN:=zf4 z.natAbs;have un:=zcz;have hzl:(zo z.natAbs).length≤4000000000:=by
  by_cases h0:z<0
  ·rw [zby h0] at hz;simp at hz;omega
  ·rw [←za3,if_neg h0] at hz;simpa using hz
 have ba:Bd (4*(zo z.natAbs).length) (z.natAbs:Int):=Nat.lt_of_lt_of_le (zml hN) (zg1 _);by_cases h0:z<0
 ·have hs:zW z=45::zo z.natAbs:=zby h0;have e1:zk P L (D P L) 152 [.str (45::zo z.natAbs),.str [45]]=some (.bool true):=by rw [zaA h.h152];rfl
  have e2:zk P L (D P L) 153 [.str (45::zo z.natAbs),.str [45]]=some (.str (zo z.natAbs)):=by rw [zaA h.h153];rfl
  have goal:∃s w r,zK P L 110 [.str (zW z)] r∧Nok s w (z.natAbs:Int)∧zK P L 147 [.agg [zh s,w]] r∧IsN r (-(z.natAbs:Int)):=by
   rw [hs];unfold zK;rw [zf h.h110];simp only [go_sem,reduceEqDiff,reduceAdd,zzS,zu,e1,e2,un.pu,un.one,zaG un];generalize hq:D P L (.loop [0,2,3,4] zh6) _=q;obtain ⟨ex,st,rfl,tm,s,w,rfl,rfl,t2,t3,t4,h5⟩:=z8 hq (zzv (P:=P) (L:=L) h hN hzl (neg:=true) (o1:= .int .i64 0) (o2:= .nils) (zo z.natAbs).length) ⟨[],zo z.natAbs,0,0,.nils,by simp only [go_sem,reduceEqDiff,reduceAdd,za]<;>rfl,rfl,rfl,.inl ⟨rfl,rfl,by decide,by decide⟩,rfl⟩
   obtain ⟨l5,u5⟩:=h5.isU;obtain ⟨r,e3,hr⟩:=zyI h.toNu (v:= .agg [zh s,w]) ⟨s,w,rfl,h5⟩ (K:=4*(zo z.natAbs).length) ba (by omega);have hr':=hr;obtain ⟨s6,w6,rfl,h6⟩:=hr;obtain ⟨l6,u6⟩:=h6.isU;unfold zK at e3;refine ⟨s,w,_,?_,h5,e3,hr'⟩;simp only [go_sem,reduceEqDiff,reduceAdd,za,t2,t3,t4,z6,zG,u5.frz,e3,zO,zU,zaD,z6,List.drop_zero,zdZ u6,zaG u6]
  obtain ⟨s,w,r,g1,_,_,g2⟩:=goal;rw [show -((z.natAbs:Nat):Int)=z by omega] at g2;exact ⟨r,g1,g2⟩
 ·have hs:zW z=zo z.natAbs:=by rw [←za3,if_neg h0];rfl
  obtain ⟨b,r0,hb,hb1,hb2⟩:=zeG z.natAbs;have e1:zk P L (D P L) 152 [.str (zo z.natAbs),.str [45]]=some (.bool false):=by
   rw [zaA h.h152,hb];show some (AV.bool (zbz [45] (b::r0)))=_
   rw [zh0 hb1]
  have e2:zk P L (D P L) 153 [.str (zo z.natAbs),.str [45]]=some (.str (zo z.natAbs)):=by
   rw [zaA h.h153,hb];show some (AV.str (bif zbz [45] (b::r0) then _ else _))=_
   rw [zh0 hb1];rfl
  have goal:∃s w,zK P L 110 [.str (zW z)] (.agg [zh s,w])∧Nok s w (z.natAbs:Int):=by
   rw [hs];unfold zK;rw [zf h.h110];simp only [go_sem,reduceEqDiff,reduceAdd,zzS,zu,e1,e2,un.pu,un.one,zaG un];generalize hq:D P L (.loop [0,2,3,4] zh6) _=q;obtain ⟨ex,st,rfl,tm,s,w,rfl,rfl,t2,t3,t4,h5⟩:=z8 hq (zzv (P:=P) (L:=L) h hN hzl (neg:=false) (o1:= .int .i64 0) (o2:= .nils) (zo z.natAbs).length) ⟨[],zo z.natAbs,0,0,.nils,by simp only [go_sem,reduceEqDiff,reduceAdd,za]<;>rfl,rfl,rfl,.inl ⟨rfl,rfl,by decide,by decide⟩,rfl⟩
   obtain ⟨l5,u5⟩:=h5.isU;refine ⟨s,w,?_,h5⟩;simp only [go_sem,reduceEqDiff,reduceAdd,za,t2,t3,t4,z6,zU,zaD,z6,List.drop_zero,zdZ u5,zaG u5]
  obtain ⟨s,w,g1,g2⟩:=goal;rw [show ((z.natAbs:Nat):Int)=z by omega] at g2;exact ⟨_,g1,s,w,rfl,g2⟩
theorem zev (b:Nat) (r:List Nat) (c:Nat):zbz [c] (b::r)=Nat.beq c b:=by
 show (Nat.beq c b&&true)=_
 rw [Bool.and_true]
theorem ziB:∀(l r:List Nat) (k:Nat),(∀x,x∈l→x≠47)→zco [47] (l++47::r) k=some (k+l.length)
 | [],r,k,_=>by
  show (bif zbz [47] (47::r) then some k else _)=_
  rw [zev];rfl
 | b::l,r,k,h=>by
  show (bif zbz [47] (b::(l++47::r)) then some k else zco [47] (l++47::r) (k+1))=_
  rw [zev,zaH (fun e=>h b (by simp) e.symm),cond_false,ziB l r (k+1) (fun x hx=>h x (by simp [hx])),List.length_cons]
  congr 1;omega
theorem zkj:∀(l:List Nat) (k:Nat),(∀x,x∈l→x≠47)→zco [47] l k=none
 | [],k,_=>rfl
 | b::l,k,h=>by
  show (bif zbz [47] (b::l) then some k else zco [47] l (k+1))=_
  rw [zev,zaH (fun e=>h b (by simp) e.symm),cond_false,zkj l (k+1) (fun x hx=>h x (by simp [hx]))]
theorem znl:∀{l:List Nat},zbg l=true→∀x,x∈l→48≤x∧x≤57
 | [],_,x,hx=>by simp at hx
 | b::l,h,x,hx=>by
  have h1:=zuX h;simp only [zbg,Bool.and_eq_true] at h;rcases List.mem_cons.1 hx with rfl | hx
  ·exact h1
  ·exact znl h.2 x hx
theorem zgk (z:Int):∀x,x∈zW z→x≠47:=fun x hx=>by
 rw [←za3] at hx;rcases List.mem_append.1 hx with h | h
 ·split at h
  ·simp at h;omega
  ·simp at h
 ·have:=znl (zfX _) x h;omega
theorem m62 (h:Tx P L) {a:Rat} (hl:(RT a).length<4000000000):∃r,zK P L 62 [.str (RT a)] r∧IsQ r a:=by
 have hns:=zgk a.num;unfold RT at hl ⊢;by_cases hd:a.den=1
 ·rw [if_pos hd,List.append_nil] at hl ⊢;obtain ⟨p,e1,hp⟩:=zvH h (z:=a.num) (by omega);obtain ⟨r,e2,hr⟩:=zNN h.toFr' hp;rw [←zsg a hd] at hr;have hr':=hr;obtain ⟨s1,w1,rfl,h1⟩:=hp;obtain ⟨s2,w2,s3,w3,rfl,h2,h3⟩:=hr;obtain ⟨l1,u1⟩:=h1.isU;obtain ⟨l2,u2⟩:=h2.isU;obtain ⟨l3,u3⟩:=h3.isU;have e0:zk P L (D P L) 109 [.str (zW a.num),.str [47]]=some (.tup [.str (zW a.num),.str [],.bool false]):=by
   rw [zaA h.h109];show (bif Nat.blt (zW a.num).length 4294967281 then (match zco [47] (zW a.num) 0 with | some i=>_ | none=>some (AV.tup [.str (zW a.num),.str [],.bool false])) else none)=_
   rw [zcP (by omega),zkj _ _ hns];rfl
  refine ⟨_,?_,hr'⟩;unfold zK at e1 e2;unfold zK;rw [zf h.h62];simp only [go_sem,reduceEqDiff,reduceAdd,c62,zu,e0,e1,zO,u1.frz,zG,e2,zjZ u2 u3,zU,zaD,List.drop_zero,zgl,zkg u2 u3]
 ·rw [if_neg hd] at hl ⊢;simp only [List.length_append,List.length_cons] at hl;obtain ⟨p,e1,hp⟩:=zvH h (z:=a.num) (by omega);obtain ⟨q,e2,hq⟩:=zvH h (z:=(a.den:Int)) (by rw [za7];omega);rw [za7] at e2;obtain ⟨s1,w1,rfl,h1⟩:=hp;obtain ⟨s2,w2,rfl,h2⟩:=hq;obtain ⟨l1,u1⟩:=h1.isU;obtain ⟨l2,u2⟩:=h2.isU;have e0:zk P L (D P L) 109 [.str (zW a.num++47::zo a.den),.str [47]]=some (.tup [.str (zW a.num),.str (zo a.den),.bool true]):=by
   rw [zaA h.h109];show (bif Nat.blt (zW a.num++47::zo a.den).length 4294967281 then (match zco [47] (zW a.num++47::zo a.den) 0 with | some i=>some (AV.tup [.str ((zW a.num++47::zo a.den).take i),.str ((zW a.num++47::zo a.den).drop (i+1)),.bool true]) | none=>_) else none)=_
   rw [zcP (by simp;omega),ziB _ _ _ hns];simp only [Nat.zero_add,cond_true,List.take_left];rw [show (zW a.num).length+1=(zW a.num++[47]).length by simp,show zW a.num++47::zo a.den=(zW a.num++[47])++zo a.den by simp,List.drop_left]
  refine ⟨.agg [zh s1,w1,zh s2,w2],?_,s1,w1,s2,w2,rfl,h1,h2⟩;unfold zK at e1 e2;unfold zK;rw [zf h.h62];simp only [go_sem,reduceEqDiff,reduceAdd,c62,zu,e0,e1,e2,zO,u1.one,u2.one,zhk,zhA,zjZ u1 u2,zU,zaD,List.drop_zero,zgl,zkg u1 u2]
end
end VE
end
section
namespace VE
namespace Nd
structure Ord (n:Nat) (l:List Int):Prop where
 len:l.length=n
 rng:∀a,a<n→0≤l.getD a 0∧l.getD a 0<n
 inj:∀a b,a<n→b<n→l.getD a 0=l.getD b 0→a=b
end Nd
end VE
end
section
namespace VE
namespace Nd
open Go (IntKind)
section
variable {P:zN} {L:Lib}
abbrev zK (P:zN) (L:Lib) (f:Nat) (vals:List AV) (r:AV):Prop:=zk P L (D P L) f vals=some r
theorem w124 (h:Has P L 124 zvl) (b:Bool) (n:Int):zK P L 124 [.bool b,zh n] (zh (if b=true then n else 0)):=by
 unfold zK;rw [zf h]
 cases b with
 | true=>simp only [go_sem,reduceEqDiff,zvl,if_true]
 | false=>simp only [go_sem,reduceEqDiff,zvl];rfl
theorem w125 (h:Has P L 125 zz9) {v:AV} {l:List Int} (hv:IsI v l) (hl:l.length≤1000000):zK P L 125 [v] (zh (zcK l)):=by
 unfold zK;rw [zf h];simp only [go_sem,reduceEqDiff,zz9,hv.len];have key:=zoq (P:=P) (L:=L) (live:=[5,6,7]) (a:=zmU)
  (I:=fun k s=>∃tm ct i,s=⟨tm,[],ct,0⟩∧zc tm 5=v∧zc tm 6=zh l.length∧zc tm 7=zh (i:Nat)∧i+k=l.length∧zcK (l.drop i)=zcK l)
  (Q:=fun ex s=>∃tm,s=⟨tm,[],0,0⟩∧((ex= .ret∧zc tm 2=zh (zcK l))∨(ex= .exit 0∧zcK l=0))) ?_ l.length
 ·generalize hq:D P L (.loop [5,6,7] zmU) _=q;obtain ⟨ex,s,rfl,tm,rfl,h2⟩:=z8 hq key ⟨_,_,0,rfl,rfl,rfl,rfl,by omega,rfl⟩;rcases h2 with ⟨rfl,h2⟩ | ⟨rfl,h2⟩
  ·simp only [go_sem,h2]
  ·rw [h2];simp only [go_sem]
 ·rintro k s ⟨tm,ct,i,rfl,h5,h6,h7,hk,hf⟩;rw [zm1 (by simp only [go_sem,h5,h6,h7,hv.pu])];simp only [go_sem,reduceEqDiff,h5,h6,h7,zmU];by_cases hi:i<l.length
  ·have hi':(i:Int)<l.length:=by omega
   rw [znM hi] at hf;by_cases hz:l[i]=0
   ·left
    simp only [go_sem,reduceEqDiff,hi',hv.ixa hi,hz];refine ⟨_,k-1,rfl,by omega,_,_,i+1,rfl,?_⟩;rw [ze (by omega) (by omega)];rw [if_pos hz] at hf;simp only [go_sem,reduceEqDiff];exact ⟨trivial,trivial,rfl,by omega,hf⟩
   ·right
    simp only [go_sem,reduceEqDiff,hi',hv.ixa hi,hz];rw [if_neg hz] at hf;refine ⟨_,_,rfl,by simp,_,rfl,.inl ⟨rfl,?_⟩⟩;simp only [go_sem,hf]
  ·right
   have hi':¬(i:Int)<l.length:=by omega
   simp only [go_sem,hi'];refine ⟨_,_,rfl,by simp,_,rfl,.inr ⟨rfl,?_⟩⟩;rw [←hf,List.drop_eq_nil_of_le (by omega)];rfl
end
end Nd
end VE
end
section
namespace VE
open Go (IntKind)
theorem zow (i:Nat):zuz i [48,49,50,51,52,53,54,55,56,57]=(Nat.ble 48 i&&Nat.ble i 57):=by
 by_cases h:48≤i∧i≤57
 ·obtain ⟨h1,h2⟩:=h;obtain ⟨k,rfl⟩:∃k,i=48+k:=⟨i-48,by omega⟩
  have:k<10:=by omega
  rcases (show k=0∨k=1∨k=2∨k=3∨k=4∨k=5∨k=6∨k=7∨k=8∨k=9 by omega) with rfl | rfl | rfl | rfl | rfl | rfl | rfl | rfl | rfl | rfl<;>rfl
 ·have e:(Nat.ble 48 i&&Nat.ble i 57)=false:=by
   cases h1:Nat.ble 48 i with
   | false=>rfl
   | true=>
    cases h2:Nat.ble i 57 with
    | false=>rfl
    | true=>exact absurd ⟨Nat.le_of_ble_eq_true h1,Nat.le_of_ble_eq_true h2⟩ h
  rw [e];have ne:∀c,48≤c→c≤57→Nat.beq c i=false:=fun c h1 h2=>zaH (by omega)
  simp only [zuz,ne 48 (by decide) (by decide),ne 49 (by decide) (by decide),ne 50 (by decide) (by decide),ne 51 (by decide) (by decide),ne 52 (by decide) (by decide),ne 53 (by decide) (by decide),ne 54 (by decide) (by decide),ne 55 (by decide) (by decide),ne 56 (by decide) (by decide),ne 57 (by decide) (by decide),cond_false]
theorem zhO:∀l:List Nat,zcD [48,49,50,51,52,53,54,55,56,57] l=[]↔zbg l=true
 | []=>by simp [zcD,zbg]
 | b::r=>by
  simp only [zcD,zbg,zow]
  cases hb:(Nat.ble 48 b&&Nat.ble b 57) with
  | true=>simp only [cond_true,Bool.true_and];exact zhO r
  | false=>simp
theorem zhp:∀l:List Nat,zbg l.reverse=zbg l
 | []=>rfl
 | b::r=>by rw [List.reverse_cons,zd9,zhp r];simp [zbg,Bool.and_comm]
theorem zho:∀l:List Nat,zbg l=false→zbg (zcD [48,49,50,51,52,53,54,55,56,57] l)=false
 | [],h=>by simp [zbg] at h
 | b::r,h=>by
  simp only [zcD,zow]
  cases hb:(Nat.ble 48 b&&Nat.ble b 57) with
  | true=>
   simp only [cond_true];simp only [zbg,hb,Bool.true_and] at h;exact zho r h
  | false=>simp only [cond_false];exact h
theorem zxt (p:List Nat):eqL (zcD [48,49,50,51,52,53,54,55,56,57] (zcD [48,49,50,51,52,53,54,55,56,57] p.reverse).reverse) []=zbg p:=by
 cases hd:zbg p with
 | true=>
  have h1:=(zhO p.reverse).2 (by rw [zhp];exact hd)
  rw [h1];rfl
 | false=>
  have h1:=zho p.reverse (by rw [zhp];exact hd)
  have h2:zbg (zcD [48,49,50,51,52,53,54,55,56,57] p.reverse).reverse=false:=by rw [zhp];exact h1
  cases hq:zcD [48,49,50,51,52,53,54,55,56,57] (zcD [48,49,50,51,52,53,54,55,56,57] p.reverse).reverse with
  | nil=>have:=(zhO _).1 hq;rw [h2] at this;exact absurd this (by decide)
  | cons b r=>rfl
theorem zhG:∀(t:List Nat) (k:Nat),zco [47] t k=if zL t<t.length then some (k+zL t) else none
 | [],k=>by simp [zco,zbz,zL]
 | b::r,k=>by
  by_cases hb:b=47
  ·subst hb;have e:zL (47::r)=0:=by simp [zL]
   rw [e,if_pos (by simp)];rfl
  ·have e:zL (b::r)=zL r+1:=by simp [zL,hb]
   have hp:zbz [47] (b::r)=false:=by rw [zev];exact zaH (fun e=>hb e.symm)
   rw [e,zco,hp,cond_false,zhG r (k+1)];by_cases h:zL r<r.length
   ·rw [if_pos h,if_pos (by simpa using h)];congr 1;omega
   ·rw [if_neg h,if_neg (by simpa using h)]
theorem zc7 (a b:List Nat):binOp .neq (.str a) (.str b)=some (.bool (!(eqL a b))):=rfl
structure Ck (P:zN) (L:Lib):Prop extends Tx P L where
 h128:L.pure 128=some ze8
 h162:L.pure 162=some trimS
 h86:Has P L 86 c86
 h124:Has P L 124 zvl
 h125:Has P L 125 zz9
 h129:Has P L 129 zve
section
variable {P:zN} {L:Lib}
theorem w124 (h:Has P L 124 zvl) (b:Bool) (n:Int):zK P L 124 [.bool b,zh n] (zh (if b=true then n else 0)):=Nd.w124 h b n
theorem zMx (h:Ck P L) {p:List Nat} (hl:p.length≤4000000000):zK P L 129 [.str p] (.bool (zbw p)):=by
 have e1:zk P L (D P L) 162 [.str p,.str [48,49,50,51,52,53,54,55,56,57]]=some (.str (zcD [48,49,50,51,52,53,54,55,56,57] (zcD [48,49,50,51,52,53,54,55,56,57] p.reverse).reverse)):=by
  rw [zaA h.h162];show (bif zh8 [48,49,50,51,52,53,54,55,56,57]&&(Nat.blt p.length 4294967281&&Nat.blt 10 4294967281) then _ else none)=_
  rw [zcP (by omega)];rfl
 have e2:=zxt p;generalize zcD [48,49,50,51,52,53,54,55,56,57] (zcD [48,49,50,51,52,53,54,55,56,57] p.reverse).reverse=u at*
 unfold zK;rw [zf h.h129]
 match p,e1,e2 with
 | [],_,_=>
  simp only [go_sem,reduceEqDiff,zve,zc7,show eqL [] []=true from rfl,Bool.not_true];rfl
 | b::r,e1,e2=>
  have hI:zeb 0 (.str (b::r))=some (.int .u8 (b:Nat)):=rfl;have h0:eqL (b::r) []=false:=rfl;have hd:zbw (b::r)=(zbg (b::r)&&(!(Nat.beq b 48)||r.isEmpty)):=rfl;rw [hd]
  cases hdg:zbg (b::r) with
  | false=>
   rw [hdg] at e2;simp only [go_sem,reduceEqDiff,zve,zc7,h0,Bool.not_false,e1,zbc,e2,Bool.false_and]
  | true=>
   rw [hdg] at e2;by_cases hb:b=48
   ·subst hb;have e3:eqL (48::r) [48]=r.isEmpty:=by
     cases r with
     | nil=>rfl
     | cons c r=>rfl
    have hI':zeb 0 (.str (48::r))=some (.int .u8 48):=rfl;simp only [go_sem,reduceEqDiff,zve,zc7,h0,Bool.not_false,e1,zbc,e2,hI',decide_true,Bool.not_true,e3];rfl
   ·have:Nat.beq b 48=false:=zaH hb
    rw [this];simp only [go_sem,reduceEqDiff,zve,zc7,h0,Bool.not_false,e1,zbc,e2,hI,show ¬((b:Nat):Int)=48 by omega,decide_false,Bool.not_false];rfl
theorem zQe (h:Ck P L) (s:List Nat):zk P L (D P L) 128 [.str s,.str [45]]=some (if s.head? =some 45 then .tup [.str s.tail,.bool true] else .tup [.str s,.bool false]):=by
 rw [zaA h.h128];show some (bif zbz [45] s then AV.tup [.str (s.drop 1),.bool true] else .tup [.str s,.bool false])=_
 cases s with
 | nil=>rfl
 | cons b r=>
  by_cases hb:b=45
  ·subst hb;rfl
  ·have:zbz [45] (b::r)=false:=by rw [zev];exact zaH (fun e=>hb e.symm)
   rw [this,if_neg (by simpa using hb)];rfl
theorem zQu (h:Ck P L) {t:List Nat} (hl:t.length≤4000000000):zk P L (D P L) 109 [.str t,.str [47]]=some (.tup [.str (t.take (zL t)),.str (t.drop (zL t+1)),.bool (decide (zL t<t.length))]):=by
 rw [zaA h.h109];show (bif Nat.blt t.length 4294967281 then (match zco [47] t 0 with | some i=>some (AV.tup [.str (t.take i),.str (t.drop (i+1)),.bool true]) | none=>some (AV.tup [.str t,.str [],.bool false])) else none)=_
 rw [zcP (by omega),zhG];have hle:=zdK t;by_cases hs:zL t<t.length
 ·simp only [hs,if_true,decide_true,Nat.zero_add,cond_true]
 ·rw [if_neg hs,decide_eq_false hs,List.take_of_length_le (by omega),List.drop_eq_nil_of_le (by omega)];rfl
theorem zpR {P:zN} {L:Lib} (a b c d:VC) (s:St):D P L (.seq a (.seq b (.seq c d))) s=zfp P L (D P L (.seq a (.seq b c)) s) d:=by
 have e:=zex (P:=P) (L:=L) b c d;rw [zdW,zdW]
 cases D P L a s with
 | none=>rfl
 | some q=>
  obtain ⟨ex,st⟩:=q
  cases ex with
  | normal=>rw [zaI,zaI];exact e st
  | ret=>rfl
  | exit id=>rfl
theorem zue {P:zN} {L:Lib} (a b c d f:VC) (s:St):D P L (.seq a (.seq b (.seq c (.seq d f)))) s=zfp P L (D P L (.seq a (.seq b (.seq c d))) s) f:=by
 have e:=zpR (P:=P) (L:=L) b c d f;rw [zdW,zdW]
 cases D P L a s with
 | none=>rfl
 | some q=>
  obtain ⟨ex,st⟩:=q
  cases ex with
  | normal=>rw [zaI,zaI];exact e st
  | ret=>rfl
  | exit id=>rfl
theorem zjc {a b:List Nat} (h:a=b):eqL a b=true:=by
 subst h
 induction a with
 | nil=>rfl
 | cons x a ih=>simp [eqL,ih]
theorem zmE {a b:List Nat} (h:a≠b):eqL a b=false:=by
 cases hb:eqL a b with
 | false=>rfl
 | true=>
  exact absurd (by
   clear h;revert b
   induction a with
   | nil=>intro b hb;cases b with | nil=>rfl | cons y b=>simp [eqL] at hb
   | cons x a ih=>
    intro b hb
    cases b with
    | nil=>simp [eqL] at hb
    | cons y b=>
     simp only [eqL,Bool.and_eq_true] at hb
     rw [Nat.eq_of_beq_eq_true hb.1,ih hb.2]) h
theorem zM2 (h:Ck P L) {p q:List Nat} {ok found:Bool} (lp:p.length≤1000000000) (lq:q.length≤1000000000) (hok:ok=true→zbw p=true∧(found=true→zbw q=true)) {tm:Env} (t5:zc tm 5= .str p) (t6:zc tm 6= .str q) (t7:zc tm 7= .bool found) (t8:zc tm 8= .bool ok):
  zdO [.t 2] (D P L (zw (zw (zw (zw (zw c86.body))))) ⟨tm,[],0,0⟩)=some (zh (
   if ok=false then 1
   else if 600<p.length∨600<q.length then 4
   else if found=true∧Nat.gcd (zcI p) (zcI q)≠1 then 1
   else 0)):=by
 have w1:=w124 h.h124 (!ok) 1;have hfi:∀a b:Int,zK P L 125 [.vsl true 2 [zh a,zh b]] (zh (zcK [a,b])):=fun a b=>Nd.w125 h.h125 (zcd true [a,b]) (by simp)
 cases ok with
 | false=>
  have f1:=hfi 1 0;have f2:=hfi 1 4;have w2:=w124 h.h124 false 4;have w3:=w124 h.h124 true 4;simp only [Bool.not_false,if_true,Bool.false_eq_true,if_false] at w1 w2 w3;rw [show zcK [1,0]=1 by decide] at f1;rw [show zcK [1,4]=1 by decide] at f2;unfold zK at w1 w2 w3 f1 f2;by_cases h1:600<p.length
  ·simp only [go_sem,reduceEqDiff,reduceAdd,reduceLT,reduceLeDiff,Nat.mul_one,c86,zw,show ¬(1:Int)=0 by decide,Bool.not_false,t5,t8,Bool.not_false,w1,show (600:Int)<(p.length:Int) by omega,decide_true,w3,f2,decide_false]
   simp
  ·by_cases h2:600<q.length
   ·simp only [go_sem,reduceEqDiff,reduceAdd,reduceLT,reduceLeDiff,Nat.mul_one,c86,zw,show ¬(1:Int)=0 by decide,Bool.not_false,t5,t6,t8,Bool.not_false,w1,show ¬(600:Int)<(p.length:Int) by omega,show (600:Int)<(q.length:Int) by omega,decide_true,decide_false,w3,f2]
    simp
   ·simp only [go_sem,reduceEqDiff,reduceAdd,reduceLT,reduceLeDiff,Nat.mul_one,c86,zw,show ¬(1:Int)=0 by decide,Bool.not_false,t5,t6,t8,Bool.not_false,w1,show ¬(600:Int)<(p.length:Int) by omega,show ¬(600:Int)<(q.length:Int) by omega,decide_false,w2,f1]
    simp
 | true=>
  obtain ⟨hp,hq⟩:=hok rfl;have f1:=hfi 0 0;have f2:=hfi 0 4;have w2:=w124 h.h124 false 4;have w3:=w124 h.h124 true 4;have w4:=w124 h.h124 false 1;have w5:=w124 h.h124 true 1;simp only [Bool.not_true,if_true,Bool.false_eq_true,if_false] at w1 w2 w3 w4 w5;rw [show zcK [0,0]=0 by decide] at f1;rw [show zcK [0,4]=4 by decide] at f2;unfold zK at w1 w2 w3 w4 w5 f1 f2;rw [if_neg (by decide)];by_cases h1:600<p.length
  ·rw [if_pos (.inl h1)];simp only [go_sem,reduceEqDiff,reduceAdd,reduceLT,reduceLeDiff,Nat.mul_one,c86,zw,show ¬(4:Int)=0 by decide,Bool.not_false,t5,t8,Bool.not_true,w1,show (600:Int)<(p.length:Int) by omega,decide_true,w3,f2,decide_false]
  ·by_cases h2:600<q.length
   ·rw [if_pos (.inr h2)];simp only [go_sem,reduceEqDiff,reduceAdd,reduceLT,reduceLeDiff,Nat.mul_one,c86,zw,show ¬(4:Int)=0 by decide,Bool.not_false,t5,t6,t8,Bool.not_true,w1,show ¬(600:Int)<(p.length:Int) by omega,show (600:Int)<(q.length:Int) by omega,decide_true,decide_false,w3,f2]
   ·rw [if_neg (by omega)]
    cases found with
    | false=>
     rw [if_neg (by simp)];simp only [go_sem,reduceEqDiff,reduceAdd,reduceLT,reduceLeDiff,Nat.mul_one,c86,zw,t5,t6,t7,t8,Bool.not_true,w1,show ¬(600:Int)<(p.length:Int) by omega,show ¬(600:Int)<(q.length:Int) by omega,decide_true,decide_false,w2,f1]
    | true=>
     have hpS:=zdN _ rfl hp;have hqS:=zdN _ rfl (hq rfl);generalize zcI p=n at*
     generalize zcI q=d at*
     subst hpS;subst hqS;obtain ⟨M,hM⟩:∃M:Nat,M=2400:=⟨_,rfl⟩;have bd:∀{m:Nat},(zo m).length≤600→Bd M (m:Int):=fun {m} hm=>by
      have h1:=zjk m;have h2:=zg1 (zo m).length;have h3:(2:Nat)^(4*(zo m).length)≤2^M:=Nat.pow_le_pow_right (by decide) (by omega);unfold Bd;rw [Int.natAbs_natCast];exact Nat.lt_of_lt_of_le h1 (Nat.le_trans h2 h3)
     obtain ⟨x,e1,hx⟩:=zvH h.toTx (z:=(n:Int)) (by rw [za7];omega);obtain ⟨y,e2,hy⟩:=zvH h.toTx (z:=(d:Int)) (by rw [za7];omega);rw [za7] at e1 e2;have kn:=bd (m:=n) (by omega);have kd:=bd (m:=d) (by omega);obtain ⟨g,e3,hg⟩:=zMS h.toNu hx hy kn kd (by omega);obtain ⟨e4,h1'⟩:=zop h.toNu (z:=1) (by decide) (by decide);have kg:Bd M ((Int.gcd (n:Int) (d:Int):Nat):Int):=by
      rcases Nat.eq_zero_or_pos d with h0 | h0
      ·subst h0;simpa using kn
      ·exact kd.le (by have:=Nat.gcd_le_right n h0;simpa using this)
     have e5:=zQD h.toNu hg h1' (K:=M) kg (by unfold Bd;exact Nat.one_lt_two_pow (by omega)) (by omega)
     have hgcd:Int.gcd (n:Int) (d:Int)=Nat.gcd n d:=rfl;rw [hgcd] at e5;obtain ⟨xs,xw,rfl,hx'⟩:=hx;obtain ⟨ys,yw,rfl,hy'⟩:=hy;obtain ⟨gs,gw,rfl,hg'⟩:=hg;obtain ⟨l1,u1⟩:=hx'.isU;obtain ⟨l2,u2⟩:=hy'.isU;obtain ⟨l3,u3⟩:=hg'.isU;unfold zK at e1 e2 e3 e4 e5;by_cases hg1:Nat.gcd n d=1
     ·rw [if_neg (by simp [hg1])];have hs:sgn (((Nat.gcd n d:Nat):Int)-1)=0:=by rw [hg1];rfl
      rw [hs] at e5;simp only [go_sem,reduceEqDiff,reduceAdd,reduceLT,reduceLeDiff,Nat.mul_one,c86,zw,t5,t6,t7,t8,Bool.not_true,w1,show ¬(600:Int)<((zo n).length:Int) by omega,show ¬(600:Int)<((zo d).length:Int) by omega,decide_true,decide_false,w2,f1,e1,e2,u1.frz,u2.frz,u3.frz,zO,zG,e3,e4,e5]
     ·rw [if_pos ⟨rfl,hg1⟩];obtain ⟨c,hc,hc0⟩:∃c,sgn (((Nat.gcd n d:Nat):Int)-1)=c∧c≠0:=⟨_,rfl,fun e=>hg1 (by
       unfold sgn at e
       split at e
       ·exact absurd e (by decide)
       ·split at e
        ·omega
        ·exact absurd e (by decide))⟩
      rw [hc] at e5;simp only [go_sem,reduceEqDiff,reduceAdd,reduceLT,reduceLeDiff,Nat.mul_one,c86,zw,Bool.not_false,t5,t6,t7,t8,Bool.not_true,w1,show ¬(600:Int)<((zo n).length:Int) by omega,show ¬(600:Int)<((zo d).length:Int) by omega,decide_true,decide_false,w2,f1,e1,e2,u1.frz,u2.frz,u3.frz,zO,zG,e3,e4,e5,hc0,Bool.not_false,w5]
theorem m86 (h:Ck P L) {s:List Nat} (hl:s.length≤1000000000):zK P L 86 [.str s] (zh (chk s)):=by
 have key:∀(neg:Bool) (t:List Nat),t.length≤1000000000→zk P L (D P L) 128 [.str s,.str [45]]=some (.tup [.str t,.bool neg])→zK P L 86 [.str s] (zh (zmj neg t)):=by
  intro neg t hl e0;have e1:=zQu h (t:=t) (by omega);obtain ⟨k,hk⟩:∃k,k=zL t:=⟨_,rfl⟩;have hkl:k≤t.length:=by rw [hk];exact zdK t
  have e2:=zMx h (p:=t.take k) (by rw [List.length_take];omega);have e3:=zMx h (p:=t.drop (k+1)) (by rw [List.length_drop];omega);have lp:(t.take k).length=k:=by rw [List.length_take];omega
  have lq:(t.drop (k+1)).length=t.length-k-1:=by rw [List.length_drop];omega
  unfold zmj;rw [←hk] at e1 ⊢;generalize hp:t.take k=p at*
  generalize hq:t.drop (k+1)=q at*
  obtain ⟨ok1,hok1⟩:∃ok:Bool,ok=(zbw p&&(!neg|| !(eqL p [48]))):=⟨_,rfl⟩;obtain ⟨ok,hok⟩:∃ok:Bool,ok=(ok1&&(!(decide (k<t.length))||(zbw q&&(!(eqL q [48])&& !(eqL q [49]))))):=⟨_,rfl⟩
  have hfin:(if zbw p=false∨(neg=true∧p=[48]) then 1
    else if k<t.length∧(zbw q=false∨q=[48]∨q=[49]) then 1
    else if 600<k∨600<t.length-k-1 then 4
    else if k<t.length∧Nat.gcd (zcI p) (zcI q)≠1 then 1 else 0:Int)=(if ok=false then 1
    else if 600<p.length∨600<q.length then 4
    else if decide (k<t.length)=true∧Nat.gcd (zcI p) (zcI q)≠1 then 1
    else 0):=by
   rw [lp,lq];have a1:(zbw p=false∨(neg=true∧p=[48]))↔ok1=false:=by
    rw [hok1];cases zbw p<;>cases neg<;>simp
    by_cases e:p=[48]
    ·simp [e,zjc]
    ·simp [e,zmE e]
   have a2:ok=false↔(ok1=false∨(k<t.length∧(zbw q=false∨q=[48]∨q=[49]))):=by
    rw [hok];by_cases hs:k<t.length
    ·simp only [hs,decide_true,Bool.not_true,Bool.false_or,true_and];cases ok1<;>cases zbw q<;>simp
     by_cases e:q=[48]
     ·simp [e,zjc]
     ·by_cases e':q=[49]
      ·simp [e',zjc]
      ·simp [e,e',zmE e,zmE e']
    ·simp [hs]
   by_cases h1:ok1=false
   ·rw [if_pos (a1.2 h1),if_pos (a2.2 (.inl h1))]
   ·rw [if_neg (fun e=>h1 (a1.1 e))];by_cases h2:k<t.length∧(zbw q=false∨q=[48]∨q=[49])
    ·rw [if_pos h2,if_pos (a2.2 (.inr h2))]
    ·rw [if_neg h2,if_neg (fun e=>(a2.1 e).elim h1 h2)];simp only [decide_eq_true_eq]
  rw [hfin];have hokk:ok=true→zbw p=true∧(decide (k<t.length)=true→zbw q=true):=fun e=>by
   rw [hok,Bool.and_eq_true] at e;obtain ⟨e1,e2⟩:=e;rw [hok1,Bool.and_eq_true] at e1;refine ⟨e1.1,fun hs=>?_⟩;rw [hs,Bool.not_true,Bool.false_or,Bool.and_eq_true] at e2;exact e2.1
  have tail:∀tm,zc tm 5= .str p→zc tm 6= .str q→zc tm 7= .bool (decide (k<t.length))→zc tm 8= .bool ok→zdO [.t 2] (D P L (zw (zw (zw (zw (zw c86.body))))) ⟨tm,[],0,0⟩)=_:=fun tm t5 t6 t7 t8=>
   zM2 h (by omega) (by omega) hokk t5 t6 t7 t8
  have mid:∀tm,zc tm 5= .str p→zc tm 6= .str q→zc tm 7= .bool (decide (k<t.length))→zc tm 8= .bool ok1→
    ∃tm',D P L (zan (zw (zw (zw (zw c86.body))))) ⟨tm,[],0,0⟩=some (.normal,⟨tm',[],0,0⟩)∧zc tm' 5= .str p∧zc tm' 6= .str q∧zc tm' 7= .bool (decide (k<t.length))∧zc tm' 8= .bool ok:=fun tm t5 t6 t7 t8=>by
   unfold zK at e3;by_cases hs:k<t.length
   ·rw [decide_eq_true hs] at t7 hok ⊢;simp only [Bool.not_true,Bool.false_or] at hok
    cases ok1 with
    | false=>
     rw [Bool.false_and] at hok;subst hok;refine ⟨_,by simp only [go_sem,reduceEqDiff,c86,zan,zw,t7,t8]<;>rfl,?_⟩
     simp only [go_sem,reduceEqDiff,t5,t6,t7,true_and]
    | true=>
     rw [Bool.true_and] at hok
     cases hd:zbw q with
     | false=>
      rw [hd] at e3 hok;rw [Bool.false_and] at hok;subst hok;refine ⟨_,by simp only [go_sem,reduceEqDiff,c86,zan,zw,t6,t7,t8,e3]<;>rfl,?_⟩
      simp only [go_sem,reduceEqDiff,t5,t6,t7,true_and]
     | true=>
      rw [hd] at e3 hok;rw [Bool.true_and] at hok
      cases h48:eqL q [48] with
      | true=>
       rw [h48,Bool.not_true,Bool.false_and] at hok;subst hok;refine ⟨_,by simp only [go_sem,reduceEqDiff,c86,zan,zw,t6,t7,t8,e3,zc7,h48,Bool.not_true]<;>rfl,?_⟩
       simp only [go_sem,reduceEqDiff,t5,t6,t7,true_and]
      | false=>
       rw [h48,Bool.not_false,Bool.true_and] at hok;subst hok;refine ⟨_,by simp only [go_sem,reduceEqDiff,c86,zan,zw,t6,t7,t8,e3,zc7,h48,Bool.not_false]<;>rfl,?_⟩
       simp only [go_sem,reduceEqDiff,t5,t6,t7,true_and]
   ·rw [decide_eq_false hs] at t7 hok ⊢;simp only [Bool.not_false,Bool.true_or,Bool.and_true] at hok;subst hok;refine ⟨_,by simp only [go_sem,c86,zan,zw,t7]<;>rfl,?_⟩
    simp only [go_sem,reduceEqDiff,t5,t6,t7,t8,true_and]
  have fin:∀tm,zc tm 5= .str p→zc tm 6= .str q→zc tm 7= .bool (decide (k<t.length))→zc tm 8= .bool ok1→
    D P L (.seq (zan c86.body) (.seq (zan (zw c86.body)) (.seq (zan (zw (zw c86.body))) (zan (zw (zw (zw c86.body))))))) ⟨[(0,.str s)],[],0,0⟩=some (.normal,⟨tm,[],0,0⟩)→zK P L 86 [.str s] _:=fun tm t5 t6 t7 t8 e=>by
   obtain ⟨tm',e',f5,f6,f7,f8⟩:=mid tm t5 t6 t7 t8;unfold zK;rw [zf h.h86];show zdO [.t 2] (D P L (.seq (zan c86.body) (.seq (zan (zw c86.body)) (.seq (zan (zw (zw c86.body))) (.seq (zan (zw (zw (zw c86.body)))) (.seq (zan (zw (zw (zw (zw c86.body))))) (zw (zw (zw (zw (zw c86.body)))))))))) ⟨[(0,.str s)],[],0,0⟩)=_
   rw [zue,e,zaI,zdW,e',zaI];exact tail tm' f5 f6 f7 f8
  unfold zK at e2
  cases hd:zbw p with
  | false=>
   rw [hd] at e2 hok1;rw [Bool.false_and] at hok1;subst hok1;refine fin _ ?_ ?_ ?_ ?_ (by simp only [go_sem,reduceEqDiff,c86,zan,zw,e0,e1,e2]<;>rfl)<;>simp only [go_sem,reduceEqDiff]
  | true=>
   rw [hd] at e2 hok1;rw [Bool.true_and] at hok1
   cases neg with
   | false=>
    simp only [Bool.not_false,Bool.true_or] at hok1;subst hok1;refine fin _ ?_ ?_ ?_ ?_ (by simp only [go_sem,reduceEqDiff,c86,zan,zw,e0,e1,e2,Bool.not_false]<;>rfl)<;>simp only [go_sem,reduceEqDiff]
   | true=>
    simp only [Bool.not_true,Bool.false_or] at hok1;subst hok1;refine fin _ ?_ ?_ ?_ ?_ (by simp only [go_sem,reduceEqDiff,c86,zan,zw,e0,e1,e2,Bool.not_true,zc7]<;>rfl)<;>simp only [go_sem,reduceEqDiff]
 unfold chk;have e0:=zQe h s
 cases s with
 | nil=>exact key false [] (by simp) e0
 | cons b r=>
  by_cases hb:b=45
  ·subst hb;simp only [if_true];exact key true r (by simp at hl;omega) e0
  ·simp only [hb,if_false];rw [if_neg (by simpa using hb)] at e0;exact key false (b::r) hl e0
end
end VE
end
