import Derived.Test.YtkhmakhdoedjiaaGreatDoorTbu
import Derived.Test.YtkhmakhdoedjiaaGreatDoorTbn
set_option linter.all false
set_option maxRecDepth 100000
open Nat (reduceAdd reduceEqDiff)
section
namespace VE
open Go (IntKind)
section
variable {P:zN} {L:Lib}
theorem zIK (n:Int):RT (n:Rat)=zW n:=by unfold RT;simp
theorem zo4 {K:Nat} {a:Rat} (h:Hq K a):(RT a).length≤2*K+3:=by
 have h1:=zdL h.1;have h2:=zdL h.2;rw [za7] at h2;unfold RT
 split<;>simp<;>omega
theorem zjd {K:Nat} {z:Int} (h:Bd K z):(zo z.natAbs).length≤K+1:=by
 have:=zdL (z:=(z.natAbs:Int)) (k:=K) (by unfold Bd at h ⊢;omega)
 rwa [za7] at this
theorem zOA (h:Rm P L) {a:Rat} {K:Nat} (ka:Hq K a) (hK:K≤8000000000):∃x y,zK P L 274 [.str (RT a)] (.tup [x,y])∧IsR x a.num∧IsR y (a.den:Int):=by
 have h1:=zjd ka.1;have h2:=zjd ka.2
 exact zNo h.toRb (n:=a.num) (d:=a.den) (by omega) (by simpa using (by omega:(zo ((a.den:Int)).natAbs).length≤144000000000))
theorem zNU (h:Rm P L) {n:Int} {d:Nat} (hl:(TT n d).length≤100000000000) (h00:n=0→d=1):zK P L 262 [.str (TT n d)] (zh (sgn n)):=by
 unfold zK;rw [zf h.h262];by_cases h0:n<0
 ·have hne:=zDo (n:=n) (d:=d) (by omega);rw [zLx h0] at hne ⊢;simp only [go_sem,reduceEqDiff,zw3,zbc,hne,show (0:Int)<(((TT (-n) d).length+1:Nat):Int) by omega,zE1,decide_true];unfold sgn;rw [if_pos h0]
 ·by_cases h1:n=0
  ·subst h1
   have:=h00 rfl
   subst this;rw [show TT 0 1=[48] by decide];simp only [go_sem,reduceEqDiff,zw3,zbc,show eqL [48] [48]=true from rfl];rfl
  ·have hne:=zDo (n:=n) (d:=d) h1;obtain ⟨b,u,hb,hb1⟩:=zzL (d:=d) h0;rw [hb] at hne ⊢;simp only [go_sem,reduceEqDiff,zw3,zbc,hne,show (0:Int)<((u.length+1:Nat):Int) by omega,show zeb 0 (.str (b::u))=some (.int .u8 (b:Nat)) from rfl,show ¬((b:Nat):Int)=45 by omega];unfold sgn;rw [if_neg h0,if_neg h1]
end
end VE
end
section
namespace VE
open Go (IntKind)
section
variable {P:zN} {L:Lib}
theorem zPa (h:Rm P L) {a b:Int} (ha: -4000000000000000000≤a∧a≤4000000000000000000) (hb:0<b∧b≤4000000000000000000):zK P L 277 [zh a,zh b] (.str (RT (Rat.divInt a b))):=by
 rw [zst hb.1];exact zQ3 h.h277 h.h291 h.h292 ha hb
end
end VE
end
section
namespace VE
open Go (IntKind)
def zbw (p:List Nat):Bool:=zbg p&&(match p with | []=>false | b::r=> !(Nat.beq b 48)||r.isEmpty)
def zcI (p:List Nat):Nat:=(zaV p 0).getD 0
def zmj (neg:Bool) (t:List Nat):Int:=
 if zbw (t.take (zL t))=false∨(neg=true∧t.take (zL t)=[48]) then 1
 else if zL t<t.length∧(zbw (t.drop (zL t+1))=false∨t.drop (zL t+1)=[48]∨t.drop (zL t+1)=[49]) then 1
 else if 600<zL t∨600<t.length-zL t-1 then 4
 else if zL t<t.length∧Nat.gcd (zcI (t.take (zL t))) (zcI (t.drop (zL t+1)))≠1 then 1
 else 0
def chk:List Nat→Int
 | []=>zmj false []
 | b::t=>if b=45 then zmj true t else zmj false (b::t)
theorem znK:∀{p:List Nat} (a:Nat),zbg p=true→∃n,zaV p a=some n
 | [],a,_=>⟨a,rfl⟩
 | b::r,a,h=>by
  have h':=h;simp only [zbg,Bool.and_eq_true] at h';obtain ⟨n,hn⟩:=znK (p:=r) (10*a+(b-48)) h'.2;exact ⟨n,by simp only [zaV,h'.1.1,h'.1.2,Bool.and_self,cond_true];exact hn⟩
theorem zdN:∀(k:Nat) {p:List Nat},p.length=k→zbw p=true→zo (zcI p)=p:=by
 intro k
 induction k with
 | zero=>intro p hl h;rw [List.eq_nil_of_length_eq_zero hl] at h;simp [zbw] at h
 | succ k ih=>
  intro p hl h;rcases zpM p with rfl | ⟨m,a,rfl⟩
  ·simp at hl
  ·simp only [zbw,Bool.and_eq_true,zd9] at h;obtain ⟨⟨h1,h2⟩,h3⟩:=h;simp only [zbg,Bool.and_eq_true] at h2;have ha1:=Nat.le_of_ble_eq_true h2.1.1;have ha2:=Nat.le_of_ble_eq_true h2.1.2;obtain ⟨n,hn⟩:=znK 0 h1;have hv:zcI (m++[a])=10*n+(a-48):=by
    unfold zcI;rw [zfz,hn];simp only [Option.bind_some,zaV,h2.1.1,h2.1.2,Bool.and_self,cond_true,Option.getD_some]
   cases m with
   | nil=>
    have:n=0:=by simpa [zaV] using hn.symm
    subst this;rw [hv,za0 (by omega)]
    simp;omega
   | cons b r=>
    have hd:zbw (b::r)=true:=by
     simp only [zbw,h1,Bool.true_and];simp at h3
     cases r with
     | nil=>simp
     | cons c r=>simp at h3 ⊢;exact h3
    have hm:=ih (p:=b::r) (by simpa using hl) hd;have hnv:zcI (b::r)=n:=by unfold zcI;rw [hn];rfl
    rw [hnv] at hm;have hn0:n≠0:=fun e=>by
     subst e;rw [za0 (by omega)] at hm;simp only [Nat.add_zero,List.cons.injEq] at hm;obtain ⟨rfl,rfl⟩:=hm;simp at h3
    rw [hv,zbQ (by omega),show (10*n+(a-48))/10=n by omega,show 48+(10*n+(a-48))%10=a by omega,hm]
theorem zgm (t:List Nat):zL t<t.length→t=t.take (zL t)++47::t.drop (zL t+1):=by
 induction t with
 | nil=>simp
 | cons b r ih=>
  intro h;simp only [zL] at h ⊢;by_cases hb:b=47
  ·subst hb;simp
  ·rw [if_neg hb] at h ⊢
   have:=ih (by simpa using h)
   simp only [List.take_succ_cons,List.drop_succ_cons,List.cons_append];rw [←this]
theorem zlG {n:Int} {d:Nat} (hd:0<d) (hg:Nat.gcd n.natAbs d=1):∃r:Rat,r.num=n∧r.den=d:=⟨⟨n,d,by omega,hg⟩,rfl,rfl⟩
theorem zyK {s:List Nat} (h:chk s=0):∃r:Rat,s=RT r∧(zo r.num.natAbs).length≤600∧(zo r.den).length≤600:=by
 have key:∀(neg:Bool) (t:List Nat),zmj neg t=0→∃r:Rat,(if neg=true then [45] else [])++t=RT r∧(zo r.num.natAbs).length≤600∧(zo r.den).length≤600:=by
  intro neg t h;unfold zmj at h
  split at h
  ·exact absurd h (by decide)
  rename_i h1
  split at h
  ·exact absurd h (by decide)
  rename_i h2
  split at h
  ·exact absurd h (by decide)
  rename_i h3
  split at h
  ·exact absurd h (by decide)
  rename_i h4;have hle:=zdK t;have hp:zbw (t.take (zL t))=true:=by
   cases hb:zbw (t.take (zL t)) with
   | true=>rfl
   | false=>exact absurd (.inl hb) h1
  have hpS:=zdN _ rfl hp;generalize hn:zcI (t.take (zL t))=n at*
  have hneg0:neg=true→n≠0:=fun hh e=>by
   subst e;exact h1 (.inr ⟨hh,by rw [←hpS];rfl⟩)
  have hint:(if neg=true then [45] else [])++zo n=zW (if neg=true then -(n:Int) else n):=by
   cases neg with
   | true=>
    have:=hneg0 rfl
    simp only [if_true];rw [zby (by omega)]
    simp
   | false=>simp [za7]
  have habs:(if neg=true then -(n:Int) else n).natAbs=n:=by split<;>omega
  have hln:(zo n).length≤600:=by rw [hpS,List.length_take];omega
  by_cases hs:zL t<t.length
  ·have hq:zbw (t.drop (zL t+1))=true:=by
    cases hb:zbw (t.drop (zL t+1)) with
    | true=>rfl
    | false=>exact absurd ⟨hs,.inl hb⟩ h2
   have hqS:=zdN _ rfl hq;have hg:Nat.gcd n (zcI (t.drop (zL t+1)))=1:=by
    by_cases hg:Nat.gcd n (zcI (t.drop (zL t+1)))=1
    ·exact hg
    ·exact absurd ⟨hs,hg⟩ h4
   have hsplit:=zgm t hs;have hlq:(t.drop (zL t+1)).length≤600:=by rw [List.length_drop];omega
   rw [←hqS] at hsplit hlq;have hd0:zcI (t.drop (zL t+1))≠0:=fun e=>by
    rw [e] at hqS;exact h2 ⟨hs,.inr (.inl (by rw [←hqS];rfl))⟩
   have hd1:zcI (t.drop (zL t+1))≠1:=fun e=>by
    rw [e] at hqS;exact h2 ⟨hs,.inr (.inr (by rw [←hqS];rfl))⟩
   generalize zcI (t.drop (zL t+1))=d at*
   obtain ⟨r,hr1,hr2⟩:=zlG (n:=if neg=true then -(n:Int) else n) (d:=d) (by omega) (by rw [habs];exact hg)
   refine ⟨r,?_,by rw [hr1,habs];exact hln,by rw [hr2];exact hlq⟩
   unfold RT;rw [hr1,hr2,if_neg hd1,←hint,List.append_assoc]
   congr 1
   rw [hpS];exact hsplit
  ·have ht:t.take (zL t)=t:=List.take_of_length_le (by omega);rw [ht] at hpS;obtain ⟨r,hr1,hr2⟩:=zlG (n:=if neg=true then -(n:Int) else n) (d:=1) (by omega) (Nat.gcd_one_right _);refine ⟨r,?_,by rw [hr1,habs];exact hln,by rw [hr2];decide⟩
   unfold RT;rw [hr1,hr2,if_pos rfl,←hint,List.append_nil,hpS]
 cases s with
 | nil=>exact absurd h (by decide)
 | cons b t=>
  simp only [chk] at h
  split at h
  ·rename_i hb;subst hb;exact key true t h
  ·exact key false (b::t) h
end VE
end
section
namespace VE
open Go (IntKind)
theorem zl3 {P:zN} {L:Lib} (a b c d:VC) (s:St):D P L (.seq a (.seq b (.seq c d))) s=zfp P L (D P L (.seq a (.seq b c)) s) d:=by
 have e:=zex (P:=P) (L:=L) b c d;rw [zdW,zdW]
 cases D P L a s with
 | none=>rfl
 | some q=>
  obtain ⟨ex,st⟩:=q
  cases ex with
  | normal=>rw [zaI,zaI];exact e st
  | ret=>rfl
  | exit id=>rfl
theorem zdu {a b:List Nat} (h:a≠b):eqL a b=false:=by
 cases hb:eqL a b with
 | false=>rfl
 | true=>exact absurd (zj2 hb) h
theorem zoF:∀a:List Nat,eqL a a=true
 | []=>rfl
 | x::a=>by simp [eqL,zoF a]
theorem zzn {a b:List Nat} (h:a=b):eqL a b=true:=h▸zoF a
theorem zuP {s:List Nat} {i:Nat} (h:i<s.length):zbg (s.drop i)=(Nat.ble 48 s[i]&&Nat.ble s[i] 57&&zbg (s.drop (i+1))):=by
 rw [List.drop_eq_getElem_cons h];rfl
section
variable {P:zN} {L:Lib}
theorem zQb (h:Has P L 287 zyk) {s:List Nat} (hl:s.length≤1000000000000):zK P L 287 [.str s] (.bool (zbg s)):=by
 have key:=zS (P:=P) (L:=L) (live:=[0,3]) (a:=zgT)
  (I:=fun k st=>∃i:Nat,st=⟨[(0,.str s),(3,zh i)],[],0,0⟩∧i+k=s.length∧zbg (s.drop i)=zbg s)
  (Q:=fun ex st=>∃tm ct,st=⟨tm,[],ct,0⟩∧((ex= .ret∧zc tm 2= .bool false∧zbg s=false)∨(ex= .exit 0∧zbg s=true))) ?_
 ·unfold zK;rw [zf h];simp only [go_sem,zyk];generalize hq:D P L (.loop [0,3] zgT) _=q;obtain ⟨ex,st,rfl,tm,ct,rfl,h2⟩:=z8 hq (key s.length) ⟨0,by simp only [go_sem,reduceEqDiff,za]<;>rfl,by omega,by simp⟩
  rcases h2 with ⟨rfl,h2,h3⟩ | ⟨rfl,h3⟩
  ·simp only [go_sem,h2,h3]
  ·simp only [go_sem,za,h3]
 ·rintro k st ⟨i,rfl,hk,hs⟩;by_cases hi:i<s.length
  ·rw [zuP hi] at hs;by_cases h1:s[i]<48
   ·right
    have e:Nat.ble 48 s[i]=false:=by
     cases hb:Nat.ble 48 s[i] with
     | false=>rfl
     | true=>have:=Nat.le_of_ble_eq_true hb;omega
    rw [e,Bool.false_and,Bool.false_and] at hs;simp only [go_sem,reduceEqDiff,zgT,show (i:Int)<s.length by omega,zbb hi,show ((s[i]:Nat):Int)<48 by omega,decide_true];exact ⟨_,_,rfl,by simp,_,_,rfl,.inl ⟨rfl,by simp only [go_sem],hs.symm⟩⟩
   ·by_cases h2:57<s[i]
    ·right
     have e:Nat.ble s[i] 57=false:=by
      cases hb:Nat.ble s[i] 57 with
      | false=>rfl
      | true=>have:=Nat.le_of_ble_eq_true hb;omega
     rw [e,Bool.and_false,Bool.false_and] at hs;simp only [go_sem,reduceEqDiff,zgT,show (i:Int)<s.length by omega,zbb hi,show ¬((s[i]:Nat):Int)<48 by omega,decide_false,show (57:Int)<((s[i]:Nat):Int) by omega];exact ⟨_,_,rfl,by simp,_,_,rfl,.inl ⟨rfl,by simp only [go_sem],hs.symm⟩⟩
    ·left
     rw [Nat.ble_eq_true_of_le (show 48≤s[i] by omega),Nat.ble_eq_true_of_le (show s[i]≤57 by omega),Bool.true_and,Bool.true_and] at hs;simp only [go_sem,reduceEqDiff,zgT,show (i:Int)<s.length by omega,zbb hi,show ¬((s[i]:Nat):Int)<48 by omega,decide_false,show ¬(57:Int)<((s[i]:Nat):Int) by omega];refine ⟨_,k-1,rfl,by omega,i+1,?_,by omega,hs⟩;rw [ze (by omega) (by omega)];simp only [go_sem,reduceEqDiff,za]<;>rfl
  ·right
   simp only [go_sem,reduceEqDiff,zgT,show ¬(i:Int)<s.length by omega];refine ⟨_,_,rfl,by simp,_,_,rfl,.inr ⟨rfl,?_⟩⟩;rw [←hs,List.drop_eq_nil_of_le (by omega)];rfl
theorem zBo (h:Has P L 273 zp5) (h287:Has P L 287 zyk) {s:List Nat} (hl:s.length≤1000000000000):zK P L 273 [.str s] (.bool (zbw s)):=by
 have e:=zQb h287 hl;unfold zK at e ⊢;rw [zf h]
 match s,hl,e with
 | [],_,_=>
  simp only [go_sem,reduceEqDiff,zp5,List.length_nil,show ((0:Nat):Int)=0 from rfl,decide_true];rfl
 | [b],_,e=>
  have:zbw [b]=zbg [b]:=by simp [zbw]
  rw [this];simp only [go_sem,reduceEqDiff,zp5,List.length_cons,List.length_nil,Nat.zero_add,show ¬((1:Nat):Int)=0 by decide,show ¬(1:Int)<((1:Nat):Int) by decide,decide_false,e]
 | b::c::r,hl,e=>
  have hd:zbw (b::c::r)=(zbg (b::c::r)&& !(Nat.beq b 48)):=by simp [zbw]
  rw [hd];have hl':r.length+2≤1000000000000:=by simpa using hl
  by_cases hb:b=48
  ·subst hb;simp only [go_sem,reduceEqDiff,zp5,List.length_cons,show ¬((r.length+1+1:Nat):Int)=0 by omega,decide_false,show (1:Int)<((r.length+1+1:Nat):Int) by omega,show zeb 0 (.str (48::c::r))=some (.int .u8 48) from rfl,decide_true]
   simp
  ·have:Nat.beq b 48=false:=zaH hb
   rw [this,Bool.not_false,Bool.and_true];simp only [go_sem,reduceEqDiff,zp5,List.length_cons,show ¬((r.length+1+1:Nat):Int)=0 by omega,decide_false,show (1:Int)<((r.length+1+1:Nat):Int) by omega,show zeb 0 (.str (b::c::r))=some (.int .u8 (b:Nat)) from rfl,show ¬((b:Nat):Int)=48 by omega,e]
theorem znW {s:List Nat} {k:Nat} (h:k≤s.length):zf8 s (some 0) (some k)=some (.str (s.take k)):=by
 rw [zc9 (by omega) h,List.drop_zero]
theorem zhw {s:List Nat} {k:Nat} (h:k≤s.length):zf8 s (some k) (some s.length)=some (.str (s.drop k)):=by
 rw [zc9 h (Nat.le_refl _),List.take_length]
theorem zL9 (h:Rm P L) {t:List Nat} {k:Nat} (hk:k=zL t) (hl:t.length≤1000000000) (hp:zbw (t.take k)=true) {tm:Env} (t3:zc tm 3= .str t) (t4:zc tm 4=zh k):
  zdO [.t 2] (D P L (zw (zw (zw (zw (zw c263.body))))) ⟨tm,[],0,0⟩)=some (zh (
   if k<t.length∧(zbw (t.drop (k+1))=false∨t.drop (k+1)=[48]∨t.drop (k+1)=[49]) then 1
   else if 600<k∨600<t.length-k-1 then 4
   else if k<t.length∧Nat.gcd (zcI (t.take k)) (zcI (t.drop (k+1)))≠1 then 1
   else 0)):=by
 have hkl:k≤t.length:=by rw [hk];exact zdK t
 have e3:=zBo h.h273 h.h287 (s:=t.drop (k+1)) (by rw [List.length_drop];omega);unfold zK at e3;have ek1:(k:Int)+1=((k+1:Nat):Int):=rfl;by_cases hs:k<t.length
 ·have c2:=zhw (s:=t) (k:=k+1) (by omega);have hsplit:=zgm t (by omega);rw [←hk] at hsplit;have hlq:(t.drop (k+1)).length=t.length-k-1:=by rw [List.length_drop];omega
  have hlp:(t.take k).length=k:=by rw [List.length_take];omega
  generalize hqe:t.drop (k+1)=q at*
  generalize hpe:t.take k=p at*
  cases hd:zbw q with
  | false=>
   rw [if_pos ⟨hs,.inl rfl⟩];rw [hd] at e3
   simp only [go_sem,reduceEqDiff,c263,zw,t3,t4,show (k:Int)<(t.length:Int) by omega,decide_true,ek1,zy (n:=k+1) (by omega),zau,zay,zae,c2,e3,Bool.not_false]
  | true=>
   rw [hd] at e3;by_cases h48:q=[48]
   ·rw [if_pos ⟨hs,.inr (.inl h48)⟩]
    simp only [go_sem,reduceEqDiff,c263,zw,t3,t4,show (k:Int)<(t.length:Int) by omega,decide_true,ek1,zy (n:=k+1) (by omega),zau,zay,zae,c2,e3,Bool.not_true,zbc,zzn h48]
   ·by_cases h49:q=[49]
    ·rw [if_pos ⟨hs,.inr (.inr h49)⟩]
     simp only [go_sem,reduceEqDiff,c263,zw,t3,t4,show (k:Int)<(t.length:Int) by omega,decide_true,ek1,zy (n:=k+1) (by omega),zau,zay,zae,c2,e3,Bool.not_true,zbc,zdu h48,zzn h49]
    ·rw [if_neg (by simp only [hs,true_and,Bool.true_eq_false,false_or];exact fun e=>e.elim h48 h49)]
     by_cases hlg:600<k
     ·rw [if_pos (.inl hlg)]
      simp only [go_sem,reduceEqDiff,c263,zw,t3,t4,show (k:Int)<(t.length:Int) by omega,decide_true,ek1,zy (n:=k+1) (by omega),zau,zay,zae,c2,e3,Bool.not_true,zbc,zdu h48,zdu h49,show (600:Int)<(k:Int) by omega]
     ·by_cases hlg2:600<t.length-k-1
      ·rw [if_pos (.inr hlg2)]
       simp only [go_sem,reduceEqDiff,c263,zw,t3,t4,show (k:Int)<(t.length:Int) by omega,decide_true,ek1,zy (n:=k+1) (by omega),zau,zay,zae,c2,e3,Bool.not_true,zbc,zdu h48,zdu h49,show ¬(600:Int)<(k:Int) by omega,decide_false,show (t.length:Int)-(k:Int)=((t.length-k:Nat):Int) by omega,zy (n:=t.length-k) (by omega),show ((t.length-k:Nat):Int)-1=((t.length-k-1:Nat):Int) by omega,zy (n:=t.length-k-1) (by omega),show (600:Int)<((t.length-k-1:Nat):Int) by omega]
      ·rw [if_neg (by omega)];have hpS:=zdN _ rfl hp;have hqS:=zdN _ rfl hd;have hd0:zcI q≠0:=fun e=>h48 (by rw [←hqS,e];rfl)
       have hd1:zcI q≠1:=fun e=>h49 (by rw [←hqS,e];rfl)
       generalize zcI p=n at*
       generalize zcI q=d at*
       have hT:TT (n:Int) d=t:=by
        unfold TT;rw [za7,if_neg hd1,hpS,hqS];exact hsplit.symm
       obtain ⟨x,y,e4,hx,hy⟩:=zNo h.toRb (n:=(n:Int)) (d:=d) (by rw [Int.natAbs_natCast,hpS];omega) (by rw [hqS];omega);rw [hT] at e4;obtain ⟨xw,xl,rfl,hxw,dx,nx,vx⟩:=hx;obtain ⟨yw,yl,rfl,hyw,dy,ny,vy⟩:=hy;rw [Int.natAbs_natCast] at vx vy;have hnb:n<10^p.length:=by rw [←hpS];exact zjk n
       have hdb:d<10^q.length:=by rw [←hqS];exact zjk d
       obtain ⟨K,hK⟩:∃K:Nat,K=600:=⟨_,rfl⟩;have big:∀{m j:Nat},m<10^j→j≤K→m<1000000000^K:=fun {m j} h1 h2=>
        Nat.lt_of_lt_of_le h1 (Nat.le_trans (Nat.pow_le_pow_right (by decide) h2) (Nat.pow_le_pow_left (by decide) K))
       have lxl:=zem dx nx (by rw [vx];exact big hnb (by omega))
       have lyl:=zem dy ny (by rw [vy];exact big hdb (by omega))
       obtain ⟨g,lg,e5,hg,dgg,ngg,vg⟩:=zO3 h.h275 h.h289 h.h293 h.h296 h.h299 h.h300 h.h301 hxw hyw dx dy nx ny (by omega) (by omega);rw [vx,vy] at vg;have hg0:0<Nat.gcd n d:=Nat.gcd_pos_of_pos_right _ (by omega);unfold zK at e4 e5;by_cases hlg1:lg.length=1
       ·obtain ⟨z,rfl⟩:∃z,lg=[z]:=by
         cases lg with
         | nil=>simp at hlg1
         | cons z r=>cases r with
          | nil=>exact ⟨z,rfl⟩
          | cons y r=>simp at hlg1
        have gz:=dg_one.1 dgg;have hzd:z=(Nat.gcd n d:Nat):=by simp [dv] at vg;omega
        have e8:=hg.ixa (i:=0) (by simp);simp only [List.getElem_cons_zero] at e8;by_cases hg1:Nat.gcd n d=1
        ·rw [if_neg (by simp [hg1])]
         simp only [go_sem,reduceEqDiff,reduceAdd,c263,zw,t3,t4,show (k:Int)<(t.length:Int) by omega,decide_true,ek1,zy (n:=k+1) (by omega),zau,zay,zae,c2,e3,Bool.not_true,zbc,zdu h48,zdu h49,show ¬(600:Int)<(k:Int) by omega,decide_false,show (t.length:Int)-(k:Int)=((t.length-k:Nat):Int) by omega,zy (n:=t.length-k) (by omega),show ((t.length-k:Nat):Int)-1=((t.length-k-1:Nat):Int) by omega,zy (n:=t.length-k-1) (by omega),show ¬(600:Int)<((t.length-k-1:Nat):Int) by omega,e4,zu,hxw.pu,hxw.frz,hxw.one,hyw.pu,hyw.frz,hyw.one,zcS,zI,Nat.zero_add,zak,e5,hg.len,hg.shut,List.length_cons,List.length_nil,show ((1:Nat):Int)=(1:Int) from rfl,Bool.not_true,e8,hzd,hg1]
        ·rw [if_pos ⟨hs,hg1⟩]
         simp only [go_sem,reduceEqDiff,reduceAdd,c263,zw,t3,t4,show (k:Int)<(t.length:Int) by omega,decide_true,ek1,zy (n:=k+1) (by omega),zau,zay,zae,c2,e3,Bool.not_true,zbc,zdu h48,zdu h49,show ¬(600:Int)<(k:Int) by omega,decide_false,show (t.length:Int)-(k:Int)=((t.length-k:Nat):Int) by omega,zy (n:=t.length-k) (by omega),show ((t.length-k:Nat):Int)-1=((t.length-k-1:Nat):Int) by omega,zy (n:=t.length-k-1) (by omega),show ¬(600:Int)<((t.length-k-1:Nat):Int) by omega,e4,zu,hxw.pu,hxw.frz,hxw.one,hyw.pu,hyw.frz,hyw.one,zcS,zI,Nat.zero_add,zak,e5,hg.len,hg.shut,List.length_cons,List.length_nil,show ((1:Nat):Int)=(1:Int) from rfl,Bool.not_true,e8,hzd,show ¬((Nat.gcd n d:Nat):Int)=1 by omega,Bool.not_false]
       ·have hg1:Nat.gcd n d≠1:=fun e=>hlg1 (by
         have h1:lg.length≤1:=zB1 dgg ngg (by omega);have h2:0<lg.length:=by
          rcases Nat.eq_zero_or_pos lg.length with h0 | h0
          ·rw [List.eq_nil_of_length_eq_zero h0] at vg;simp [dv] at vg;omega
          ·exact h0
         omega)
        rw [if_pos ⟨hs,hg1⟩]
        simp only [go_sem,reduceEqDiff,reduceAdd,c263,zw,t3,t4,show (k:Int)<(t.length:Int) by omega,decide_true,ek1,zy (n:=k+1) (by omega),zau,zay,zae,c2,e3,Bool.not_true,zbc,zdu h48,zdu h49,show ¬(600:Int)<(k:Int) by omega,decide_false,show (t.length:Int)-(k:Int)=((t.length-k:Nat):Int) by omega,zy (n:=t.length-k) (by omega),show ((t.length-k:Nat):Int)-1=((t.length-k-1:Nat):Int) by omega,zy (n:=t.length-k-1) (by omega),show ¬(600:Int)<((t.length-k-1:Nat):Int) by omega,e4,zu,hxw.pu,hxw.frz,hxw.one,hyw.pu,hyw.frz,hyw.one,zcS,zI,Nat.zero_add,zak,e5,hg.len,hg.shut,show ¬(lg.length:Int)=1 by omega,Bool.not_false]
 ·have hkt:k=t.length:=by omega
  rw [if_neg (by omega)];by_cases hlg:600<k
  ·rw [if_pos (.inl hlg)];simp only [go_sem,reduceEqDiff,c263,zw,t3,t4,show ¬(k:Int)<(t.length:Int) by omega,decide_false,show (600:Int)<(k:Int) by omega,decide_true]
  ·rw [if_neg (by omega),if_neg (by omega)]
   simp only [go_sem,reduceEqDiff,c263,zw,t3,t4,show ¬(k:Int)<(t.length:Int) by omega,decide_false,show ¬(600:Int)<(k:Int) by omega,show (t.length:Int)-(k:Int)=((t.length-k:Nat):Int) by omega,zy (n:=t.length-k) (by omega),show ((t.length-k:Nat):Int)-1= -1 by omega,show IntKind.wrap .i64 (-1)= -1 by rfl,show ¬(600:Int)<(-1:Int) by omega]
theorem zxS (h:Rm P L) {b:Nat} {r:List Nat} {t:List Nat} {neg:Bool} (hneg:decide (((b:Nat):Int)=45)=neg) (hl:t.length≤1000000000) {tm:Env} (t0:zc tm 0= .str (b::r)) (t3:zc tm 3= .str t):
  zdO [.t 2] (D P L (zw (zw (zw c263.body))) ⟨tm,[],0,0⟩)=some (zh (zmj neg t)):=by
 obtain ⟨k,hk⟩:∃k,k=zL t:=⟨_,rfl⟩;have hkl:k≤t.length:=by rw [hk];exact zdK t
 have e1:=ztp h.h272 (s:=t) (by omega);have e2:=zBo h.h273 h.h287 (s:=t.take k) (by rw [List.length_take];omega);have e3:=zBo h.h273 h.h287 (s:=t.drop (k+1)) (by rw [List.length_drop];omega);unfold zmj;rw [←hk] at e1 ⊢;have c1:=znW hkl;have hI:zeb 0 (.str (b::r))=some (.int .u8 (b:Nat)):=rfl;unfold zK at e1 e2 e3;generalize hp:t.take k=p at*
 generalize hq:t.drop (k+1)=q at*
 cases hd:zbw p with
 | false=>
  rw [if_pos (.inl rfl)];rw [hd] at e2;simp only [go_sem,reduceEqDiff,c263,zw,t3,e1,zau,zay,zae,c1,e2,Bool.not_false]
 | true=>
  rw [hd] at e2;by_cases hz:neg=true∧p=[48]
  ·rw [if_pos (.inr hz)];obtain ⟨z1,z2⟩:=hz;rw [z1] at hneg;have hb:=of_decide_eq_true hneg;subst z2;simp only [go_sem,reduceEqDiff,c263,zw,t0,t3,e1,zau,zay,zae,c1,e2,Bool.not_true,hI,hb,decide_true,zbc,show eqL [48] [48]=true from rfl]
  ·rw [if_neg (by simp only [Bool.true_eq_false,false_or];exact hz)]
   have fin:∀tm',zc tm' 3= .str t→zc tm' 4=zh k→D P L (.seq (zan (zw (zw (zw c263.body)))) (zan (zw (zw (zw (zw c263.body)))))) ⟨tm,[],0,0⟩=some (.normal,⟨tm',[],0,0⟩)→zdO [.t 2] (D P L (zw (zw (zw c263.body))) ⟨tm,[],0,0⟩)=some (zh (
     if k<t.length∧(zbw q=false∨q=[48]∨q=[49]) then 1
     else if 600<k∨600<t.length-k-1 then 4
     else if k<t.length∧Nat.gcd (zcI p) (zcI q)≠1 then 1
     else 0)):=fun tm' f3 f4 e=>by
    show zdO [.t 2] (D P L (.seq (zan (zw (zw (zw c263.body)))) (.seq (zan (zw (zw (zw (zw c263.body))))) (zw (zw (zw (zw (zw c263.body))))))) ⟨tm,[],0,0⟩)=_
    rw [zex,e,zaI,←hp,←hq];exact zL9 h hk hl (by rw [hp];exact hd) f3 f4
   by_cases hb:((b:Nat):Int)=45
   ·have hp48:p≠[48]:=fun e=>hz ⟨by rw [←hneg];exact decide_eq_true hb,e⟩
    refine fin _ ?_ ?_ (by simp only [go_sem,reduceEqDiff,c263,zan,zw,t0,t3,e1,zau,zay,zae,c1,e2,Bool.not_true,hI,hb,decide_true,zbc,zdu hp48]<;>rfl)<;>simp only [go_sem,reduceEqDiff,t3]
   ·refine fin _ ?_ ?_ (by simp only [go_sem,reduceEqDiff,c263,zan,zw,t0,t3,e1,zau,zay,zae,c1,e2,Bool.not_true,hI,hb,decide_false]<;>rfl)<;>simp only [go_sem,reduceEqDiff,t3]
theorem zPH (h:Rm P L) {s:List Nat} (hl:s.length≤1000000000):zK P L 263 [.str s] (zh (chk s)):=by
 unfold zK;rw [zf h.h263]
 cases s with
 | nil=>
  have e1:=ztp h.h272 (s:=[]) (by simp);have e2:=zBo h.h273 h.h287 (s:=[]) (by simp);unfold zK at e1 e2;have hc:zf8 [] (some 0) (some 0)=some (.str []):=rfl;simp only [go_sem,reduceEqDiff,c263,List.length_nil,show ¬(0:Int)<((0:Nat):Int) by decide,decide_false,e1,zL,zau,zay,zae,hc,e2,show zbw []=false from rfl,Bool.not_false];rfl
 | cons b t=>
  have hl':t.length+1≤1000000000:=by simpa using hl
  have hI:zeb 0 (.str (b::t))=some (.int .u8 (b:Nat)):=rfl;by_cases hb:b=45
  ·subst hb;have fin:∀tm',zc tm' 0= .str (45::t)→zc tm' 3= .str t→D P L (.seq (zan c263.body) (.seq (zan (zw c263.body)) (zan (zw (zw c263.body))))) ⟨[(0,.str (45::t))],[],0,0⟩=some (.normal,⟨tm',[],0,0⟩)→zdO [.t 2] (D P L c263.body ⟨[(0,.str (45::t))],[],0,0⟩)=some (zh (chk (45::t))):=fun tm' f0 f3 e=>by
    show zdO [.t 2] (D P L (.seq (zan c263.body) (.seq (zan (zw c263.body)) (.seq (zan (zw (zw c263.body))) (zw (zw (zw c263.body)))))) ⟨[(0,.str (45::t))],[],0,0⟩)=_
    rw [zl3,e,zaI]
    exact zxS h (b:=45) rfl (by omega) f0 f3
   have hc:zf8 (45::t) (some 1) (some (t.length+1))=some (.str t):=by
    have:=zhw (s:=45::t) (k:=1) (by simp)
    simpa using this
   refine fin _ ?_ ?_ (by simp only [go_sem,reduceEqDiff,c263,zan,zw,List.length_cons,show (0:Int)<((t.length+1:Nat):Int) by omega,decide_true,zE1,zau,zay,zae,hc]<;>rfl)<;>simp only [go_sem,reduceEqDiff]
  ·have fin:∀tm',zc tm' 0= .str (b::t)→zc tm' 3= .str (b::t)→D P L (.seq (zan c263.body) (.seq (zan (zw c263.body)) (zan (zw (zw c263.body))))) ⟨[(0,.str (b::t))],[],0,0⟩=some (.normal,⟨tm',[],0,0⟩)→zdO [.t 2] (D P L c263.body ⟨[(0,.str (b::t))],[],0,0⟩)=some (zh (chk (b::t))):=fun tm' f0 f3 e=>by
    show zdO [.t 2] (D P L (.seq (zan c263.body) (.seq (zan (zw c263.body)) (.seq (zan (zw (zw c263.body))) (zw (zw (zw c263.body)))))) ⟨[(0,.str (b::t))],[],0,0⟩)=_
    rw [zl3,e,zaI]
    have:=zxS h (b:=b) (neg:=false) (decide_eq_false (by omega)) (by simpa using hl) f0 f3
    rw [this];simp only [chk,if_neg hb]
   refine fin _ ?_ ?_ (by simp only [go_sem,reduceEqDiff,c263,zan,zw,List.length_cons,show (0:Int)<((t.length+1:Nat):Int) by omega,decide_true,hI,show ¬((b:Nat):Int)=45 by omega]<;>rfl)<;>simp only [go_sem,reduceEqDiff]
end
end VE
end
