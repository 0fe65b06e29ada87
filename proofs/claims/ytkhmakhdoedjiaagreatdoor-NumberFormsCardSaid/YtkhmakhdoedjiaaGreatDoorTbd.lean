import Derived.Test.YtkhmakhdoedjiaaGreatDoorTan
set_option linter.all false
set_option maxRecDepth 100000
section
namespace VE
def zcK:List Int→Int
 | []=>0
 | a::r=>if a=0 then zcK r else a
theorem znM {l:List Int} {i:Nat} (h:i<l.length):zcK (l.drop i)=if l[i]=0 then zcK (l.drop (i+1)) else l[i]:=by
 rw [List.drop_eq_getElem_cons h,zcK]
def zhM (lo hi:Int):List Int→Bool
 | []=>false
 | a::r=>if a<lo∨hi<a then true else zhM lo hi r
theorem zkT {lo hi:Int} {l:List Int} (h:zhM lo hi l=false):∀i (hi':i<l.length),lo≤l[i]∧l[i]≤hi:=by
 induction l with
 | nil=>intro i hi';exact absurd hi' (Nat.not_lt_zero _)
 | cons a r ih=>
  simp only [zhM] at h
  split at h
  ·cases h
  ·rename_i hc;intro i hi'
   cases i with
   | zero=>simp only [List.getElem_cons_zero];omega
   | succ i=>simp only [List.getElem_cons_succ];exact ih h i (by simpa using hi')
theorem zu5 {lo hi:Int} {l:List Int} (h:zhM lo hi l=false):∀i,zhM lo hi (l.take i)=false:=by
 induction l with
 | nil=>intro i;simp [zhM]
 | cons a r ih=>
  intro i;simp only [zhM] at h
  split at h
  ·cases h
  ·rename_i hc
   cases i with
   | zero=>simp [zhM]
   | succ i=>simp only [List.take_succ_cons,zhM,hc,if_false,ih h i]
end VE
end
section
namespace VE
def dv:List Int→Nat
 | []=>0
 | a::r=>a.toNat+1000000000*dv r
theorem za6:∀(a b:List Int),dv (a++b)=dv a+1000000000^a.length*dv b
 | [],b=>by simp [dv]
 | x::a,b=>by
  simp only [List.cons_append,dv,za6 a b,List.length_cons,Nat.pow_succ,Nat.mul_add];rw [Nat.mul_comm (1000000000^a.length) 1000000000,←Nat.mul_assoc];omega
theorem zc8 {l:List Int} (i:Nat):dv (l.take (i+1))=dv (l.take i)+1000000000^i*(l.getD i 0).toNat:=by
 by_cases h:i<l.length
 ·rw [List.take_succ_eq_append_getElem h,za6,List.length_take,Nat.min_eq_left (by omega)];simp [dv,List.getD_eq_getElem?_getD,List.getElem?_eq_getElem h]
 ·rw [List.take_of_length_le (by omega),List.take_of_length_le (by omega)];simp [List.getD_eq_getElem?_getD,List.getElem?_eq_none (Nat.le_of_not_lt h)]
abbrev dg (l:List Int):Prop:=zhM 0 999999999 l=false
theorem dg_append {a b:List Int}:dg (a++b)↔dg a∧dg b:=by
 induction a with
 | nil=>simp [dg,zhM]
 | cons x a ih=>
  simp only [dg,List.cons_append,zhM] at ih ⊢
  split
  ·simp
  ·exact ih
theorem dg_one {x:Int}:dg [x]↔0≤x∧x<1000000000:=by
 simp only [dg,zhM]
 split
 ·simp;omega
 ·simp;omega
theorem zbi {l:List Int} (h:dg l) (i:Nat):0≤l.getD i 0∧l.getD i 0<1000000000:=by
 by_cases hi:i<l.length
 ·have:=zkT h i hi
  rw [show l.getD i 0=l[i] by simp [List.getD_eq_getElem?_getD,List.getElem?_eq_getElem hi]];omega
 ·simp [List.getD_eq_getElem?_getD,List.getElem?_eq_none (Nat.le_of_not_lt hi)]
theorem ze0 {l:List Int} (h:dg l) (i:Nat):dg (l.take i):=zu5 h i
theorem zek:∀{l:List Int},dg l→dv l<1000000000^l.length
 | [],_=>by simp [dv]
 | x::l,h=>by
  have h':dg ([x]++l):=h;obtain ⟨h1,h2⟩:=dg_append.1 h';have h1:=dg_one.1 h1
  have:=zek h2
  simp only [dv,List.length_cons,Nat.pow_succ];omega
def zaR:List Int→List Int
 | []=>[]
 | a::r=>match zaR r with | []=>if a=0 then [] else [a] | t::q=>a::t::q
theorem zdP:∀l:List Int,zaR (l++[0])=zaR l
 | []=>rfl
 | a::l=>by simp only [List.cons_append,zaR,zdP l]
theorem zeY {a:Int} (h:a≠0):∀l:List Int,zaR (l++[a])=l++[a]
 | []=>by simp [zaR,h]
 | b::l=>by
  simp only [List.cons_append,zaR,zeY h l]
  cases hq:l++[a] with
  | nil=>simp at hq
  | cons t q=>rfl
theorem zd3:∀l:List Int,dv (zaR l)=dv l
 | []=>rfl
 | a::l=>by
  have ih:=zd3 l;simp only [zaR,dv]
  split
  ·rename_i h;rw [h] at ih;simp only [dv] at ih
   split
   ·rename_i h0;subst h0;simp [dv,←ih]
   ·simp [dv,←ih]
  ·rename_i t q h;rw [h] at ih;simp only [dv] at ih ⊢;omega
theorem zdT:∀{l:List Int},dg l→dg (zaR l)
 | [],_=>rfl
 | a::l,h=>by
  have h':dg ([a]++l):=h;obtain ⟨h1,h2⟩:=dg_append.1 h';have ih:=zdT h2;simp only [zaR]
  split
  ·split
   ·rfl
   ·exact h1
  ·rename_i t q hq;rw [hq] at ih
   exact (dg_append (a:=[a]) (b:=t::q)).2 ⟨h1,ih⟩
theorem zfS:∀l:List Int,(zaR l).length≤l.length
 | []=>Nat.le_refl _
 | a::l=>by
  have ih:=zfS l;simp only [zaR]
  split
  ·split<;>simp
  ·rename_i t q h;rw [h] at ih;simp at ih ⊢;omega
theorem zpM {α:Type} (l:List α):l=[]∨∃m a,l=m++[a]:=by
 rcases List.eq_nil_or_concat l with h | ⟨m,a,h⟩
 ·exact .inl h
 ·exact .inr ⟨m,a,by rw [h,List.concat_eq_append]⟩
theorem znQ:∀(n:Nat) (l:List Int),l.length=n→zaR (zaR l)=zaR l:=by
 intro n
 induction n with
 | zero=>intro l h;rw [List.eq_nil_of_length_eq_zero h];rfl
 | succ n ih=>
  intro l h;rcases zpM l with rfl | ⟨m,a,rfl⟩
  ·rfl
  ·by_cases h0:a=0
   ·subst h0;rw [zdP];exact ih m (by simpa using h)
   ·rw [zeY h0,zeY h0]
theorem zp4 (l:List Int):zaR (zaR l)=zaR l:=znQ _ l rfl
abbrev nz (l:List Int):Prop:=zaR l=l
theorem zgY (l:List Int):nz (zaR l):=zp4 l
theorem zsj {l:List Int} (h:nz l) (hd:dg l) (h0:l≠[]):1000000000^(l.length-1)≤dv l:=by
 rcases zpM l with rfl | ⟨m,a,rfl⟩
 ·exact absurd rfl h0
 ·by_cases ha:a=0
  ·subst ha
   have:=zfS m
   have e:=congrArg List.length h;rw [zdP] at e;simp at e;omega
  ·rw [za6]
   have:=dg_one.1 (dg_append.1 hd).2
   simp only [dv,List.length_append,List.length_singleton,Nat.add_sub_cancel,Nat.mul_zero,Nat.add_zero];have h1:1≤a.toNat:=by omega
   have:=Nat.mul_le_mul_left (1000000000^m.length) h1
   omega
theorem zmH {l:List Int} (h:nz l) (hd:dg l) (h0:dv l=0):l=[]:=by
 by_cases hl:l=[]
 ·exact hl
 ·have:=zsj h hd hl
  have:=Nat.pow_le_pow_right (show 0<1000000000 by decide) (Nat.zero_le (l.length-1))
  omega
theorem zyp {a b:List Int} (ha:dg a) (hb:nz b) (hb':dg b) (h:a.length<b.length):dv a<dv b:=by
 have h1:=zek ha;have h2:=zsj hb hb' (fun e=>by subst e;simp at h);have h3:1000000000^a.length≤1000000000^(b.length-1):=Nat.pow_le_pow_right (by decide) (by omega);omega
def zbS (m n:Nat):Int:=if m<n then -1 else if n<m then 1 else 0
theorem zv5 {l:List Int} {i:Nat} (h:i<l.length):dv l=dv (l.take i)+1000000000^i*(l[i].toNat+1000000000*dv (l.drop (i+1))):=by
 have e:l=l.take i++l[i]::l.drop (i+1):=by rw [←List.drop_eq_getElem_cons h,List.take_append_drop]
 have:dv l=dv (l.take i++l[i]::l.drop (i+1)):=congrArg dv e
 rw [this,za6,List.length_take,Nat.min_eq_left (by omega)];rfl
theorem zq8 {a b:List Int} {i:Nat} (ha:dg a) (hb:dg b) (h1:i<a.length) (h2:i<b.length) (he:a.drop (i+1)=b.drop (i+1)) (h:a[i]<b[i]):dv a<dv b:=by
 rw [zv5 h1,zv5 h2,he];have hl:=zek (ze0 ha i);rw [List.length_take,Nat.min_eq_left (by omega)] at hl;have g1:=zkT ha i h1;have g2:=zkT hb i h2;have h3:a[i].toNat+1000000000*dv (b.drop (i+1))+1≤b[i].toNat+1000000000*dv (b.drop (i+1)):=by omega
 have:=Nat.mul_le_mul_left (1000000000^i) h3
 rw [Nat.mul_add,Nat.mul_one] at this;omega
theorem zoT:∀{l:List Int} {j:Nat} {x:Int},j<l.length→dv (l.set j x)+1000000000^j*(l.getD j 0).toNat=dv l+1000000000^j*x.toNat
 | [],j,x,h=>by simp at h
 | a::l,0,x,_=>by simp [dv];omega
 | a::l,j+1,x,h=>by
  have ih:=zoT (l:=l) (j:=j) (x:=x) (by simpa using h);simp only [List.set_cons_succ,dv,List.getD_cons_succ,Nat.pow_succ];rw [Nat.mul_right_comm,Nat.mul_right_comm _ 1000000000]
  have:=congrArg (fun q=>1000000000*q) ih
  simp only [Nat.mul_add] at this;rw [Nat.mul_comm (1000000000^j*_) 1000000000,Nat.mul_comm (1000000000^j*_) 1000000000];omega
theorem zmQ {l:List Int} (h:dg l) {j:Nat} {x:Int} (hx:0≤x∧x<1000000000):dg (l.set j x):=by
 by_cases hj:j<l.length
 ·rw [List.set_eq_take_append_cons_drop,if_pos hj];have e:l=l.take (j+1)++l.drop (j+1):=(List.take_append_drop _ _).symm;have hd:dg (l.drop (j+1)):=by rw [e] at h;exact (dg_append.1 h).2
  exact dg_append.2 ⟨ze0 h j,(dg_append (a:=[x]) (b:=l.drop (j+1))).2 ⟨dg_one.2 hx,hd⟩⟩
 ·rw [List.set_eq_of_length_le (by omega)];exact h
theorem znx {l:List Int} {j m:Nat} {x:Int} (h:m≠j):(l.set j x).getD m 0=l.getD m 0:=by
 simp [List.getD_eq_getElem?_getD,Ne.symm h]
theorem zwI {V0 V V' p q A X Y o c s:Nat} (hs:s=o+A*X+c) (z7:V'+p*q*o=V+p*q*(s%1000000000)) (hv:V+p*q*c=V0+p*(A*Y)):
  V'+p*(q*1000000000)*(s/1000000000)=V0+p*(A*(Y+q*X)):=by
 have e:=Nat.mod_add_div s 1000000000;have e2:p*q*s=p*q*(s%1000000000)+p*(q*1000000000)*(s/1000000000):=by
  conv=>lhs;rw [←e]
  rw [Nat.mul_add,←Nat.mul_assoc (p*q),←Nat.mul_assoc p q]
 have e3:p*q*s=p*q*o+p*q*(A*X)+p*q*c:=by rw [hs,Nat.mul_add,Nat.mul_add]
 have e4:p*(A*(Y+q*X))=p*(A*Y)+p*q*(A*X):=by
  rw [Nat.mul_add,Nat.mul_add,Nat.mul_assoc p q,←Nat.mul_assoc A q X,Nat.mul_comm A q,Nat.mul_assoc q A X]
 omega
theorem znI (n:Nat):dv (List.replicate n 0)=0:=by
 induction n with
 | zero=>rfl
 | succ n ih=>simp [List.replicate_succ,dv,ih]
theorem znb (n:Nat):dg (List.replicate n 0):=by
 induction n with
 | zero=>rfl
 | succ n ih=>exact (dg_append (a:=[0]) (b:=List.replicate n 0)).2 ⟨by decide,ih⟩
end VE
end
section
namespace VE
def bv (b:Nat):List Nat→Nat
 | []=>0
 | a::r=>a+b*bv b r
def lo (b:Nat) (l:List Nat):Prop:=∀x,x∈l→x<b
section
variable {b:Nat}
theorem zfi (a:Nat):bv b [a]=a:=by simp [bv]
theorem zbG:∀(l m:List Nat),bv b (l++m)=bv b l+b^l.length*bv b m
 | [],m=>by simp [bv]
 | x::l,m=>by
  simp only [List.cons_append,bv,zbG l m,List.length_cons,Nat.pow_succ,Nat.mul_add];rw [Nat.mul_comm (b^l.length) b,←Nat.mul_assoc];omega
theorem gd {l:List Nat} {i:Nat} (h:i<l.length):l[i]=l.getD i 0:=by
 simp [List.getD_eq_getElem?_getD,List.getElem?_eq_getElem h]
theorem zmT {l:List Nat} {i:Nat} (h:l.length≤i):l.getD i 0=0:=by
 simp [List.getD_eq_getElem?_getD,List.getElem?_eq_none h]
theorem zaW {l:List Nat} (i:Nat):bv b (l.take (i+1))=bv b (l.take i)+b^i*l.getD i 0:=by
 by_cases h:i<l.length
 ·rw [List.take_succ_eq_append_getElem h,zbG,List.length_take,Nat.min_eq_left (by omega),zfi,gd h]
 ·rw [List.take_of_length_le (by omega),List.take_of_length_le (by omega),zmT (by omega),Nat.mul_zero,Nat.add_zero]
theorem zmI:lo b []:=fun _ h=>by simp at h
theorem lo_append {l m:List Nat}:lo b (l++m)↔lo b l∧lo b m:=by
 constructor
 ·intro h;exact ⟨fun x hx=>h x (by simp [hx]),fun x hx=>h x (by simp [hx])⟩
 ·rintro ⟨h1,h2⟩ x hx;rcases List.mem_append.1 hx with h | h
  ·exact h1 x h
  ·exact h2 x h
theorem lo_one {x:Nat}:lo b [x]↔x<b:=by simp [lo]
theorem zaZ (hb:0<b) {l:List Nat} (h:lo b l) (i:Nat):l.getD i 0<b:=by
 by_cases hi:i<l.length
 ·rw [←gd hi];exact h _ (List.getElem_mem hi)
 ·rw [zmT (by omega)];exact hb
theorem zef {l:List Nat} (h:lo b l) (i:Nat):lo b (l.take i):=fun x hx=>h x (List.mem_of_mem_take hx)
theorem zqA {l:List Nat} (h:lo b l) (i:Nat):lo b (l.drop i):=fun x hx=>h x (List.mem_of_mem_drop hx)
theorem zcj {l:List Nat} (h:lo b l) {i x:Nat} (hx:x<b):lo b (l.set i x):=fun y hy=>by
 rcases List.mem_or_eq_of_mem_set hy with h1 | h1
 ·exact h y h1
 ·omega
theorem zic (hb:0<b) (n:Nat):lo b (List.replicate n 0):=fun x hx=>by
 rw [(List.mem_replicate.1 hx).2];exact hb
theorem zh2 (n:Nat):bv b (List.replicate n 0)=0:=by
 induction n with
 | zero=>rfl
 | succ n ih=>simp [List.replicate_succ,bv,ih]
theorem ze1 (n m:Nat):(List.replicate n (0:Nat)).getD m 0=0:=by
 simp only [List.getD_eq_getElem?_getD,List.getElem?_replicate];split<;>rfl
theorem zd4:∀{l:List Nat},lo b l→bv b l<b^l.length
 | [],_=>by simp [bv]
 | x::l,h=>by
  have h1:=h x (by simp);have h2:=zd4 (l:=l) (fun y hy=>h y (by simp [hy]));simp only [bv,List.length_cons,Nat.pow_succ,Nat.mul_comm _ b]
  have:=Nat.mul_le_mul_left b (show bv b l+1≤b^l.length from h2)
  rw [Nat.mul_add,Nat.mul_one] at this;omega
theorem zcW:∀{l:List Nat} {i x:Nat},i<l.length→bv b (l.set i x)+b^i*l.getD i 0=bv b l+b^i*x
 | [],i,x,h=>by simp at h
 | a::l,0,x,_=>by simp [bv];omega
 | a::l,i+1,x,h=>by
  have ih:=zcW (l:=l) (i:=i) (x:=x) (by simpa using h)
  have:=congrArg (fun t=>b*t) ih
  simp only [Nat.mul_add] at this;simp only [List.set_cons_succ,bv,List.getD_cons_succ,Nat.pow_succ,Nat.mul_comm _ b,Nat.mul_assoc] at this ⊢;omega
theorem zce {l:List Nat} {i m x:Nat} (h:i≠m):(l.set i x).getD m 0=l.getD m 0:=by
 simp [List.getD_eq_getElem?_getD,List.getElem?_set_ne h]
theorem zoS {l:List Nat} {i x:Nat} (h:i<l.length):(l.set i x).getD i 0=x:=by
 simp [List.getD_eq_getElem?_getD,List.getElem?_set_self h]
theorem zfN (l:List Nat) (i:Nat) (h:i≤l.length):bv b l=bv b (l.take i)+b^i*bv b (l.drop i):=by
 have:=zbG (b:=b) (l.take i) (l.drop i)
 rw [List.take_append_drop,List.length_take,Nat.min_eq_left h] at this;exact this
def zaJ:List Nat→List Nat
 | []=>[]
 | a::r=>match zaJ r with | []=>if a=0 then [] else [a] | t::q=>a::t::q
theorem ze3:∀l:List Nat,zaJ (l++[0])=zaJ l
 | []=>rfl
 | a::l=>by simp only [List.cons_append,zaJ,ze3 l]
theorem zcZ {a:Nat} (h:a≠0):∀l:List Nat,zaJ (l++[a])=l++[a]
 | []=>by simp [zaJ,h]
 | b::l=>by
  simp only [List.cons_append,zaJ,zcZ h l]
  cases hq:l++[a] with
  | nil=>simp at hq
  | cons t q=>rfl
abbrev nzN (l:List Nat):Prop:=zaJ l=l
theorem zpY:∀(n:Nat) (l:List Nat),l.length=n→∃i,i≤n∧zaJ l=l.take i∧nzN (l.take i)∧bv b (l.take i)=bv b l:=by
 intro n
 induction n with
 | zero=>intro l h;rw [List.eq_nil_of_length_eq_zero h];exact ⟨0,Nat.le_refl _,rfl,rfl,rfl⟩
 | succ n ih=>
  intro l h;rcases zpM l with rfl | ⟨m,a,rfl⟩
  ·simp at h
  ·have hm:m.length=n:=by simpa using h
   by_cases h0:a=0
   ·subst h0;obtain ⟨i,h1,h2,h3,h4⟩:=ih m hm;have e:(m++[0]).take i=m.take i:=by rw [List.take_append_of_le_length (by omega)]
    refine ⟨i,by omega,by rw [ze3,h2,e],by rw [e];exact h3,?_⟩
    rw [e,h4,zbG];simp [bv]
   ·have e:(m++[a]).take (n+1)=m++[a]:=List.take_of_length_le (by simp [hm]);exact ⟨n+1,Nat.le_refl _,by rw [e,zcZ h0],by rw [e];exact zcZ h0 m,by rw [e]⟩
theorem zfU (l:List Nat):∃i,i≤l.length∧zaJ l=l.take i∧nzN (zaJ l)∧bv b (zaJ l)=bv b l:=by
 obtain ⟨i,h1,h2,h3,h4⟩:=zpY (b:=b) l.length l rfl;exact ⟨i,h1,h2,by rw [h2];exact h3,by rw [h2];exact h4⟩
theorem zdf (l:List Nat):bv b (zaJ l)=bv b l:=by
 obtain ⟨_,_,_,_,h⟩:=zfU (b:=b) l;exact h
theorem zdg (l:List Nat):nzN (zaJ l):=by
 obtain ⟨_,_,_,h,_⟩:=zfU (b:=2) l;exact h
theorem zdp {l:List Nat} (h:lo b l):lo b (zaJ l):=by
 obtain ⟨i,_,h2,_⟩:=zfU (b:=b) l;rw [h2];exact zef h i
theorem zt9 (l:List Nat):(zaJ l).length≤l.length:=by
 obtain ⟨i,_,h2,_⟩:=zfU (b:=2) l;rw [h2,List.length_take];omega
theorem zhm {l:List Nat} (h:nzN l) (h0:l≠[]):l.getD (l.length-1) 0≠0:=by
 rcases zpM l with rfl | ⟨m,a,rfl⟩
 ·exact absurd rfl h0
 ·intro ha
  have:a=0:=by
   simpa [List.getD_eq_getElem?_getD] using ha
  subst this;have e:=congrArg List.length h;rw [ze3] at e
  have:=zt9 m
  simp at e;omega
theorem zmz (hb:0<b) {l:List Nat} (h:nzN l) (h0:l≠[]):b^(l.length-1)≤bv b l:=by
 rcases zpM l with rfl | ⟨m,a,rfl⟩
 ·exact absurd rfl h0
 ·have ha:=zhm h h0;simp [List.getD_eq_getElem?_getD] at ha;rw [zbG,zfi];simp only [List.length_append,List.length_singleton,Nat.add_sub_cancel]
  have:=Nat.mul_le_mul_left (b^m.length) (show 1≤a by omega)
  omega
theorem zwf (hb:0<b) {l:List Nat} (h:nzN l) (h0:bv b l=0):l=[]:=by
 by_cases hl:l=[]
 ·exact hl
 ·have:=zmz hb h hl
  have:=Nat.pow_pos (n:=l.length-1) hb
  omega
theorem zi7 (hb:1<b) {l m:List Nat} (hl:lo b l) (hm:nzN m) (h:l.length<m.length):bv b l<bv b m:=by
 have h1:=zd4 hl;have h2:=zmz (b:=b) (by omega) hm (fun e=>by subst e;simp at h);have h3:b^l.length≤b^(m.length-1):=Nat.pow_le_pow_right (by omega) (by omega);omega
theorem zqR {l m:List Nat} (hl:lo b l) {i:Nat} (h1:i<l.length) (h2:i<m.length) (he:l.drop (i+1)=m.drop (i+1)) (h:l.getD i 0<m.getD i 0):bv b l<bv b m:=by
 rw [zfN l (i+1) (by omega),zfN m (i+1) (by omega),he,zaW,zaW]
 have:=zd4 (zef hl i)
 rw [List.length_take,Nat.min_eq_left (by omega)] at this
 have:=Nat.mul_le_mul_left (b^i) (show l.getD i 0+1≤m.getD i 0 from h)
 rw [Nat.mul_add,Nat.mul_one] at this;omega
theorem zub (hb:1<b) {l:List Nat} {k:Nat} (h:nzN l) (hk:bv b l<b^k):l.length≤k:=by
 by_cases h0:l=[]
 ·subst h0;exact Nat.zero_le _
 ·have h1:=zmz (b:=b) (by omega) h h0;have h2:b^(l.length-1)<b^k:=Nat.lt_of_le_of_lt h1 hk
  have:=(Nat.pow_lt_pow_iff_right hb).1 h2
  omega
theorem zkl {V v1 v2 vr U u0 u1 u2 ur p t r:Nat} (hV:V=(v1*b+v2)*p+vr) (hU:U=((u0*b+u1)*b+u2)*p+ur) (hur:ur<p)
  (ht:t*v1+r=u0*b+u1) (h:r*b+u2<t*v2):U/V≤t-1:=by
 have h1:U<t*V:=by
  have e:t*((v1*b+v2)*p)=((t*v1)*b+t*v2)*p:=by
   rw [←Nat.mul_assoc,Nat.mul_add,Nat.mul_assoc]
  have h2:((u0*b+u1)*b+u2)+1≤(t*v1)*b+t*v2:=by rw [←ht,Nat.add_mul];omega
  have h3:=Nat.mul_le_mul_right p h2;rw [hV,hU,Nat.mul_add,e];rw [Nat.add_mul _ 1 p,Nat.one_mul] at h3;omega
 have hV0:0<V:=by
  rcases Nat.eq_zero_or_pos V with h | h
  ·rw [h] at h1;simp at h1
  ·exact h
 have:=(Nat.div_lt_iff_lt_mul hV0).2 h1
 omega
theorem zmd {V v1 v2 vr U u0 u1 u2 ur p t r:Nat} (hb:0<b) (hV:V=(v1*b+v2)*p+vr) (hvr:vr<p) (hU:U=((u0*b+u1)*b+u2)*p+ur) (hv1:0<v1) (hv2:v2<b) (htb:t<b)
  (ht:t*v1+r=u0*b+u1) (h:b≤r∨t*v2≤r*b+u2):t≤U/V+1:=by
 have h2:t*v2≤r*b+u2:=by
  rcases h with h | h
  ·have:=Nat.mul_le_mul (Nat.le_of_lt htb) (Nat.le_of_lt hv2)
   have:=Nat.mul_le_mul_right b h
   omega
  ·exact h
 have h3:t*(v1*b+v2)≤(u0*b+u1)*b+u2:=by
  rw [Nat.mul_add,←Nat.mul_assoc,←ht,Nat.add_mul];omega
 have hp:0<p:=by omega
 have hv1b:b≤v1*b:=Nat.le_mul_of_pos_left b hv1;have hV0:0<V:=by
  have:=Nat.mul_pos (show 0<v1*b+v2 by omega) hp
  omega
 rcases Nat.eq_zero_or_pos t with h0 | h0
 ·rw [h0];exact Nat.zero_le _
 ·obtain ⟨s,rfl⟩:∃s,t=s+1:=⟨t-1,by omega⟩;have h4:s*V≤U:=by
   have h5:V≤(v1*b+v2+1)*p:=by rw [hV,Nat.add_mul _ 1 p];omega
   have h6:=Nat.mul_le_mul_left s h5;have h7:s*(v1*b+v2+1)≤(s+1)*(v1*b+v2):=by
    rw [Nat.mul_add s,Nat.add_mul s 1];omega
   have h8:=Nat.mul_le_mul_right p (Nat.le_trans h7 h3);rw [Nat.mul_assoc] at h8;rw [hU];omega
  exact Nat.succ_le_succ ((Nat.le_div_iff_mul_le hV0).2 h4)
theorem zfv {V v1 v2 vr U u0 u1 u2 ur p:Nat} (hV:V=(v1*b+v2)*p+vr) (hU:U=((u0*b+u1)*b+u2)*p+ur) (hur:ur<p) (hu2:u2<b) (hv1:0<v1):U/V≤(u0*b+u1)/v1:=by
 by_cases hV0:V=0
 ·rw [hV0,Nat.div_zero];exact Nat.zero_le _
 ·refine (Nat.le_div_iff_mul_le hv1).2 ?_;have h1:=Nat.div_mul_le_self U V;generalize U/V=q at h1 ⊢;have h2:q*v1*(b*p)≤q*V:=by
   rw [hV,Nat.mul_assoc];refine Nat.mul_le_mul_left q ?_;rw [Nat.add_mul,Nat.mul_assoc];omega
  have h3:U<(u0*b+u1+1)*(b*p):=by
   have:(u0*b+u1)*b+u2+1≤(u0*b+u1+1)*b:=by rw [Nat.add_mul _ 1 b];omega
   have:=Nat.mul_le_mul_right p this
   rw [Nat.add_mul _ 1 p,Nat.mul_assoc _ b p] at this;omega
  have h4:q*v1*(b*p)<(u0*b+u1+1)*(b*p):=by omega
  have:=Nat.lt_of_mul_lt_mul_right h4
  omega
theorem zlp {V v1 v2 vr U u0 u1 u2 ur p:Nat} (hV:V=(v1*b+v2)*p+vr) (hU:U=((u0*b+u1)*b+u2)*p+ur) (hvr:vr<p) (hv2:v2<b) (h:U<b*V):u0≤v1:=by
 refine Nat.le_of_lt_succ ?_;have h1:V<(v1+1)*(b*p):=by
  have:v1*b+v2+1≤(v1+1)*b:=by rw [Nat.add_mul,Nat.one_mul];omega
  have:=Nat.mul_le_mul_right p this
  rw [Nat.add_mul _ 1 p,Nat.mul_assoc _ b p] at this;omega
 have h2:u0*(b*(b*p))≤U:=by
  rw [hU,Nat.add_mul,Nat.add_mul (u0*b),Nat.add_mul,Nat.mul_assoc (u0*b),Nat.mul_assoc u0];omega
 have h3:=Nat.mul_le_mul_left b (Nat.le_of_lt h1);have e:b*((v1+1)*(b*p))=(v1+1)*(b*(b*p)):=by rw [←Nat.mul_assoc,Nat.mul_comm b,Nat.mul_assoc]
 rw [e] at h3;have h4:u0*(b*(b*p))<(v1+1)*(b*(b*p)):=Nat.lt_of_le_of_lt h2 (Nat.lt_of_lt_of_le h h3);exact Nat.lt_of_mul_lt_mul_right h4
end
end VE
end
section
namespace VE
section
variable {P:zN} {L:Lib} {f:Run} {F:Nat→Run}
def Sup (f:Run) (F:Nat→Run):Prop:=∀c s r,f c s=some r→∃n,F n c s=some r
def Mon (F:Nat→Run):Prop:=∀n m,n≤m→Le (F n) (F m)
theorem zdH (h:Sup f F) (n:Nat) (vals:List AV) (r:AV) (hr:zk P L f n vals=some r):∃k,zk P L (F k) n vals=some r:=by
 unfold zk at hr ⊢
 cases hL:L.pure n with
 | some sp=>exact ⟨0,by simpa only [hL] using hr⟩
 | none=>
  simp only [hL] at hr ⊢
  cases hP:P n with
  | none=>simp [hP] at hr
  | some G=>
   simp only [hP] at hr ⊢
   cases hf:f G.body ⟨zab 0 vals,[],0,0⟩ with
   | none=>simp [hf] at hr
   | some q=>
    obtain ⟨k,hk⟩:=h _ _ _ hf;exact ⟨k,by rw [hk];simpa only [hf] using hr⟩
theorem zgS (h:Sup f F) (hp:Hp) (ct:Nat) (n:Nat) (vals:List AV) (r:AV×Hp×Nat) (hr:zbj P L f hp ct n vals=some r):∃k,zbj P L (F k) hp ct n vals=some r:=by
 unfold zbj at hr ⊢
 cases hL:L.heap n with
 | some sp=>exact ⟨0,by simpa only [hL] using hr⟩
 | none=>
  simp only [hL] at hr ⊢
  cases hP:P n with
  | none=>simp [hP] at hr
  | some G=>
   simp only [hP] at hr ⊢
   cases hf:f G.body ⟨zab 0 vals,hp,ct,ct⟩ with
   | none=>simp [hf] at hr
   | some q=>
    obtain ⟨k,hk⟩:=h _ _ _ hf;exact ⟨k,by rw [hk];simpa only [hf] using hr⟩
theorem ziD (h:Sup f F) (hm:Mon F) (hp:Hp) (ct:Nat) (l:Nat) (xs:List AV) (r:AV×Hp×Nat) (hr:zb3 f hp ct l xs=some r):∃k,zb3 (F k) hp ct l xs=some r:=by
 have key:∃k,∀g,Le (F k) g→zb3 g hp ct l xs=some r:=by
  unfold zb3 at hr
  cases hl:zq hp l with
  | none=>simp [hl] at hr
  | some o=>
   simp only [hl] at hr
   split at hr
   ·rename_i tm ps as_ body pe heq;simp only [Option.some.injEq] at heq;subst heq
    (try simp only at hr)
    cases hb:zet tm ps xs with
    | none=>simp [hb] at hr
    | some tm'=>
     simp only [hb] at hr
     cases h1:f as_ ⟨tm',hp,ct,ct⟩ with
     | none=>simp [h1] at hr
     | some q=>
      obtain ⟨k1,hk1⟩:=h _ _ _ h1;simp only [h1] at hr
      split at hr
      ·rename_i s1 heq2;simp only [Option.some.injEq] at heq2;subst heq2
       (try simp only at hr)
       split at hr
       ·rename_i tm1 ps1 as1 body1 pe1 heq3
        (try simp only at hr)
        cases h2:f body ⟨s1.tm,z7 s1.hp l (.lp tm1 ps1 as1 body1 1 pe1),s1.ct,s1.ct⟩ with
        | none=>simp [h2] at hr
        | some q2=>
         obtain ⟨k2,hk2⟩:=h _ _ _ h2;simp only [h2] at hr;refine ⟨max k1 k2,fun g hg=>?_⟩;have e1:=hg _ _ _ (hm k1 _ (Nat.le_max_left k1 k2) _ _ _ hk1);have e2:=hg _ _ _ (hm k2 _ (Nat.le_max_right k1 k2) _ _ _ hk2);unfold zb3;simp only [hl,hb,e1,heq3,e2];exact hr
       ·simp at hr
      ·simp at hr
   ·simp at hr
 obtain ⟨k,hk⟩:=key;exact ⟨k,hk _ (fun _ _ _ h=>h)⟩
theorem zky (h:Sup f F) (hm:Mon F) (hp:Hp) (ct:Nat) (m:Md) (fv:AV) (xs:List AV) (r:AV×Hp×Nat) (hr:zaw P L f hp ct m fv xs=some r):∃k,zaw P L (F k) hp ct m fv xs=some r:=by
 unfold zaw at hr ⊢
 split at hr
 ·rename_i n first cap
  cases m with
  | pure=>
   simp only at hr ⊢
   cases hz:zT zcJ hp (first++(xs++cap)) with
   | none=>simp [hz] at hr
   | some q=>
    simp only [hz] at hr ⊢
    cases hc:zk P L f n q.1 with
    | none=>simp [hc] at hr
    | some u=>
     obtain ⟨k,hk⟩:=zdH h n q.1 u hc;exact ⟨k,by rw [hk];simpa only [hc] using hr⟩
  | own=>
   simp only at hr ⊢
   cases hz:zT zcJ hp (first++(xs++cap)) with
   | none=>simp [hz] at hr
   | some q=>
    simp only [hz] at hr ⊢
    cases hc:zk P L f n q.1 with
    | none=>simp [hc] at hr
    | some u=>
     obtain ⟨k,hk⟩:=zdH h n q.1 u hc;exact ⟨k,by rw [hk];simpa only [hc] using hr⟩
  | heap=>exact zgS h _ _ _ _ _ hr
  | dyn=>
   simp only at hr ⊢
   cases hz:zn (first++(xs++cap)) with
   | true=>
    simp only [hz,cond_true] at hr ⊢
    cases hc:zk P L f n (first++(xs++cap)) with
    | none=>simp [hc] at hr
    | some u=>
     obtain ⟨k,hk⟩:=zdH h n _ u hc;exact ⟨k,by rw [hk];simpa only [hc] using hr⟩
   | false=>
    simp only [hz,cond_false] at hr ⊢;exact zgS h _ _ _ _ _ hr
 ·split at hr
  ·exact ziD h hm _ _ _ _ _ hr
  ·exact ziD h hm _ _ _ _ _ hr
  ·simp at hr
 ·simp at hr
theorem zxw (h:Sup f F) (hm:Mon F) (tm:Env) (hp:Hp) (ct:Nat) (o:Op) (r:AV×Hp×Nat) (hr:zZ P L f tm hp ct o=some r):∃k,zZ P L (F k) tm hp ct o=some r:=by
 unfold zZ at hr ⊢
 split at hr
 ·exact zky h hm _ _ _ _ _ _ hr
 ·rename_i rs fv xs
  (try simp only at hr ⊢)
  cases hc:zaw P L f hp ct .dyn (zp tm fv) (zaz tm xs) with
  | none=>simp [hc] at hr
  | some q=>
   obtain ⟨k,hk⟩:=zky h hm _ _ _ _ _ _ hc;exact ⟨k,by rw [hk];simpa only [hc] using hr⟩
 all_goals exact ⟨0,by simpa only using hr⟩
theorem zh5 (h:Sup f F) (hm:Mon F):∀(ops:List ROp) (s s':St),zaF P L f ops s=some s'→∃k,zaF P L (F k) ops s=some s'
 | [],s,s',hr=>⟨0,by simpa only [zaF] using hr⟩
 | ⟨d,gd,o⟩::r,s,s',hr=>by
  simp only [zaF] at hr ⊢
  split at hr
  ·rename_i hw
   try simp only [hw]
   cases ho:zZ P L f s.tm s.hp s.ct o with
   | none=>simp [ho] at hr
   | some q=>
    obtain ⟨k1,hk1⟩:=zxw h hm _ _ _ _ _ ho;simp only [ho] at hr;obtain ⟨k2,hk2⟩:=zh5 h hm r _ _ hr;refine ⟨max k1 k2,?_⟩;rw [zlU (hm k1 _ (Nat.le_max_left k1 k2)) _ _ _ _ _ hk1];exact zfh (hm k2 _ (Nat.le_max_right k1 k2)) r _ _ hk2
  ·rename_i hw
   (try simp only [hw])
   exact zh5 h hm r _ _ hr
  ·simp at hr
theorem zch (h:Sup f F) (hm:Mon F):∀(c:VC) (s:St) (r:Ex×St),zF P L f c s=some r→∃k,zF P L (F k) c s=some r
 | .skip,s,r,hr=>⟨0,by simpa only [zF] using hr⟩
 | .reg ops,s,r,hr=>by
  simp only [zF] at hr ⊢
  cases ho:zaF P L f ops s with
  | none=>simp [ho] at hr
  | some s'=>
   obtain ⟨k,hk⟩:=zh5 h hm _ _ _ ho;exact ⟨k,by rw [hk];simpa only [ho] using hr⟩
 | .seq a b,s,r,hr=>by
  simp only [zF] at hr ⊢
  cases ha:zF P L f a s with
  | none=>simp [ha] at hr
  | some q=>
   obtain ⟨k1,hk1⟩:=zch h hm a s q ha;obtain ⟨ex,s1⟩:=q
   cases ex with
   | normal=>
    simp only [ha] at hr;obtain ⟨k2,hk2⟩:=zch h hm b s1 r hr;refine ⟨max k1 k2,?_⟩;rw [zaS (hm k1 _ (Nat.le_max_left k1 k2)) a s _ hk1];exact zaS (hm k2 _ (Nat.le_max_right k1 k2)) b s1 r hk2
   | ret=>exact ⟨k1,by rw [hk1];simpa only [ha] using hr⟩
   | exit id=>exact ⟨k1,by rw [hk1];simpa only [ha] using hr⟩
 | .cond x a b,s,r,hr=>by
  simp only [zF] at hr ⊢
  split at hr
  ·rename_i t ht
   try simp only [ht]
   cases t with
   | true=>simp only [cond_true] at hr ⊢;exact zch h hm a s r hr
   | false=>simp only [cond_false] at hr ⊢;exact zch h hm b s r hr
  ·simp at hr
 | .blk id a,s,r,hr=>by
  simp only [zF] at hr ⊢
  cases ha:zF P L f a s with
  | none=>simp [ha] at hr
  | some q=>
   obtain ⟨k,hk⟩:=zch h hm a s q ha;exact ⟨k,by rw [hk];simpa only [ha] using hr⟩
 | .kp live,s,r,hr=>⟨0,by simpa only [zF] using hr⟩
 | .fz ts,s,r,hr=>⟨0,by simpa only [zF] using hr⟩
 | .loop live a,s,r,hr=>by
  simp only [zF] at hr ⊢
  cases ha:zF P L f a (zA live s) with
  | none=>simp [ha] at hr
  | some q=>
   obtain ⟨k1,hk1⟩:=zch h hm a _ q ha;obtain ⟨ex,s1⟩:=q
   cases ex with
   | normal=>
    simp only [ha] at hr;obtain ⟨k2,hk2⟩:=h _ _ _ hr;refine ⟨max k1 k2,?_⟩;rw [zaS (hm k1 _ (Nat.le_max_left k1 k2)) a _ _ hk1];exact hm k2 _ (Nat.le_max_right k1 k2) _ _ _ hk2
   | ret=>exact ⟨k1,by rw [hk1];simpa only [ha] using hr⟩
   | exit id=>exact ⟨k1,by rw [hk1];simpa only [ha] using hr⟩
 | .rf fv ps as_ body,s,r,hr=>by
  simp only [zF] at hr ⊢
  split at hr
  ·rename_i n first cap hx
   try simp only [hx]
   split at hr
   ·simp at hr
   ·rename_i hL
    try simp only [hL]
    cases hc:zbj P L f ((s.ct,.lp s.tm ps as_ body 0 .none)::s.hp) (s.ct+1) n (first++(.fn (.y s.ct) [] []::cap)) with
    | none=>simp [hc] at hr
    | some q=>
     obtain ⟨k,hk⟩:=zgS h _ _ _ _ _ hc;exact ⟨k,by rw [hk];simpa only [hc] using hr⟩
  ·simp at hr
 | .exit id,s,r,hr=>⟨0,by simpa only [zF] using hr⟩
 | .ret,s,r,hr=>⟨0,by simpa only [zF] using hr⟩
end
section
variable (P:zN) (L:Lib)
noncomputable def D:Run:=fun c s=>@dite _ (∃r n,ev P L n c s=some r) (Classical.propDecidable _) (fun h=>some h.choose) (fun _=>none)
variable {P L}
theorem zNP {c:VC} {s:St} {r:Ex×St} {n:Nat} (h:ev P L n c s=some r):D P L c s=some r:=by
 have hx:∃r n,ev P L n c s=some r:=⟨r,n,h⟩;unfold D;rw [dif_pos hx];obtain ⟨m,hm⟩:=hx.choose_spec;have e1:=zmA P L (Nat.le_max_left n m) _ _ _ h;have e2:=zmA P L (Nat.le_max_right n m) _ _ _ hm;rw [e1] at e2;exact e2.symm
theorem zJs {c:VC} {s:St} {r:Ex×St} (h:D P L c s=some r):∃n,ev P L n c s=some r:=by
 unfold D at h;by_cases hx:∃r n,ev P L n c s=some r
 ·rw [dif_pos hx] at h;injection h with h
  subst h;exact hx.choose_spec
 ·rw [dif_neg hx] at h;cases h
theorem zQQ (n:Nat):Le (ev P L n) (D P L):=fun _ _ _ h=>zNP h
theorem zDL:Sup (D P L) (ev P L):=fun _ _ _ h=>zJs h
theorem zE4:Mon (ev P L):=fun _ _ h=>zmA P L h
theorem zgb (c:VC) (s:St):D P L c s=zF P L (D P L) c s:=by
 cases h:D P L c s with
 | some r=>
  obtain ⟨n,hn⟩:=zJs h
  cases n with
  | zero=>rw [zhc] at hn;cases hn
  | succ n=>rw [zfV] at hn;exact (zaS (zQQ n) c s r hn).symm
 | none=>
  cases hs:zF P L (D P L) c s with
  | none=>rfl
  | some r=>
   obtain ⟨n,hn⟩:=zch zDL zE4 c s r hs;rw [←zfV] at hn;rw [zNP hn] at h;cases h
theorem zwA {f:Nat} {vals:List AV} {r:AV} (h:zk P L (D P L) f vals=some r):∃n,evF P L n f vals=some r:=zdH zDL f vals r h
end
end VE
end
