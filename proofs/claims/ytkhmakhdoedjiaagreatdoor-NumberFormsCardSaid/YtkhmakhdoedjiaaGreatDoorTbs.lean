import Derived.Test.YtkhmakhdoedjiaaGreatDoorTbr
import Derived.Test.YtkhmakhdoedjiaaGreatDoorTbj
set_option linter.all false
set_option maxRecDepth 100000
open Nat (reduceAdd reduceEqDiff reduceLT)
section
namespace VE
open Go (IntKind)
def sv:List Int→Int
 | []=>0
 | a::r=>a+1000000000*sv r
theorem zlE:∀(a b:List Int),sv (a++b)=sv a+1000000000^a.length*sv b
 | [],b=>by simp [sv]
 | x::a,b=>by
  simp only [List.cons_append,sv,zlE a b,List.length_cons,Int.pow_succ,Int.mul_add];rw [Int.mul_comm (1000000000^a.length) 1000000000,←Int.mul_assoc];omega
theorem zEb (x:Int):sv [x]=x:=by simp [sv]
theorem zhL:∀{l:List Int} {i:Nat} {x:Int},i<l.length→sv (l.set i x)=sv l+1000000000^i*(x-l.getD i 0)
 | [],i,x,h=>by simp at h
 | a::l,0,x,_=>by simp [sv];omega
 | a::l,i+1,x,h=>by
  have ih:=zhL (l:=l) (i:=i) (x:=x) (by simpa using h);simp only [List.set_cons_succ,sv,List.getD_cons_succ,ih,Int.pow_succ,Int.mul_add];rw [Int.mul_comm (1000000000^i) 1000000000,Int.mul_assoc];omega
theorem zjb {l:List Int} (i:Nat):sv (l.take (i+1))=sv (l.take i)+1000000000^i*l.getD i 0:=by
 by_cases h:i<l.length
 ·rw [List.take_succ_eq_append_getElem h,zlE,List.length_take,Nat.min_eq_left (by omega),zEb];simp [List.getD_eq_getElem?_getD,List.getElem?_eq_getElem h]
 ·rw [List.take_of_length_le (by omega),List.take_of_length_le (by omega),zfA (by omega),Int.mul_zero,Int.add_zero]
theorem zg5:∀{l:List Int},dg l→sv l=dv l
 | [],_=>rfl
 | a::l,h=>by
  obtain ⟨h1,h2⟩:=dg_append.1 (show dg ([a]++l) from h);have h1:=dg_one.1 h1;simp only [sv,dv,zg5 h2,Int.natCast_add,Int.natCast_mul];omega
section
variable {pre x post:List Int} {i:Nat}
theorem zc2:(pre++x++post).length=pre.length+x.length+post.length:=by simp [Nat.add_assoc]
theorem zfG (h:i<x.length):(pre++x++post).getD (pre.length+i) 0=x.getD i 0:=by
 simp only [List.getD_eq_getElem?_getD];rw [List.append_assoc,List.getElem?_append_right (by omega),List.getElem?_append_left (by omega),Nat.add_sub_cancel_left]
theorem zmr (a:Int) (h:i<x.length):(pre++x++post).set (pre.length+i) a=pre++x.set i a++post:=by
 rw [List.append_assoc,List.set_append_right _ _ (by omega),List.set_append_left _ _ (by omega),Nat.add_sub_cancel_left,List.append_assoc]
end
theorem zzj {l:List Int} {i m:Nat} {x:Int} (h:i≠m):(l.set i x).getD m 0=l.getD m 0:=by
 simp [List.getD_eq_getElem?_getD,List.getElem?_set_ne h]
theorem ztP {l:List Int} {i:Nat} {x:Int} (h:i<l.length):(l.set i x).getD i 0=x:=by
 simp [List.getD_eq_getElem?_getD,List.getElem?_set_self h]
abbrev H3 (q u:List Int) (f:Int):Hp:=[(2,.cells true true true 1 (q.map zh)),(1,.cells true true false 1 (u.map zh)),(0,.cells false true true 1 [zh f])]
theorem zg0 {live:List Nat} {tm:Env} {ct:Nat} {a b c:List AV} (ht:zdQ 3 (keep tm live)) (hl:(zcp (keep tm live)).length<100000):
  zA live ⟨tm,[(2,.cells true true true 1 a),(1,.cells true true false 1 b),(0,.cells false true true 1 c)],ct,3⟩=⟨keep tm live,[(2,.cells true true true 1 a),(1,.cells true true false 1 b),(0,.cells false true true 1 c)],3,3⟩:=
 ziC ht ⟨by omega,.inl rfl,by omega,.inl rfl,by omega,.inl rfl,trivial⟩ (by
  have:zaX 3 [(2,Obj.cells true true true 1 a),(1,Obj.cells true true false 1 b),(0,Obj.cells false true true 1 c)]=[]:=rfl
  rw [this,List.length_nil,Nat.add_zero];exact hl)
structure Led (x vs:List Int) (n v1 v2 u0 u1 u2:Nat):Prop where
 n2:2≤n
 nb:n≤20000000000
 lx:x.length=n+1
 lv:vs.length=n
 gx:dg x
 gv:dg vs
 hv1:vs.getD (n-1) 0=(v1:Int)
 hv2:vs.getD (n-2) 0=(v2:Int)
 h0:x.getD n 0=(u0:Int)
 h1:x.getD (n-1) 0=(u1:Int)
 h2:x.getD (n-2) 0=(u2:Int)
 pos:0<v1
 lt:dv x<1000000000*dv vs
section
variable {x vs:List Int} {n v1 v2 u0 u1 u2:Nat}
theorem Led.v1W (h:Led x vs n v1 v2 u0 u1 u2):v1<1000000000:=by have:=zbi h.gv (n-1);rw [h.hv1] at this;omega
theorem Led.v2W (h:Led x vs n v1 v2 u0 u1 u2):v2<1000000000:=by have:=zbi h.gv (n-2);rw [h.hv2] at this;omega
theorem Led.u0W (h:Led x vs n v1 v2 u0 u1 u2):u0<1000000000:=by have:=zbi h.gx n;rw [h.h0] at this;omega
theorem Led.u1W (h:Led x vs n v1 v2 u0 u1 u2):u1<1000000000:=by have:=zbi h.gx (n-1);rw [h.h1] at this;omega
theorem Led.u2W (h:Led x vs n v1 v2 u0 u1 u2):u2<1000000000:=by have:=zbi h.gx (n-2);rw [h.h2] at this;omega
theorem Led.parts (h:Led x vs n v1 v2 u0 u1 u2):∃p vr ur,dv vs=(v1*1000000000+v2)*p+vr∧vr<p∧dv x=((u0*1000000000+u1)*1000000000+u2)*p+ur∧ur<p:=by
 obtain ⟨m,hm⟩:∃m,n=m+2:=⟨n-2,by have:=h.n2;omega⟩;subst hm;have e1:=zc8 (l:=vs) (m+1);have e2:=zc8 (l:=vs) m;have f0:=zc8 (l:=x) (m+2);have f1:=zc8 (l:=x) (m+1);have f2:=zc8 (l:=x) m;have hv1:vs.getD (m+1) 0=(v1:Int):=h.hv1;have hv2:vs.getD m 0=(v2:Int):=h.hv2;have h0:x.getD (m+2) 0=(u0:Int):=h.h0;have h1:x.getD (m+1) 0=(u1:Int):=h.h1;have h2:x.getD m 0=(u2:Int):=h.h2
 rw [List.take_of_length_le (by have:=h.lv;omega),hv1,e2,hv2] at e1
 rw [List.take_of_length_le (by have:=h.lx;omega),h0,f1,h1,f2,h2] at f0;simp only [Int.toNat_natCast] at e1 f0;have g1:=zek (ze0 h.gv m)
 rw [List.length_take,Nat.min_eq_left (by have:=h.lv;omega)] at g1;have g2:=zek (ze0 h.gx m)
 rw [List.length_take,Nat.min_eq_left (by have:=h.lx;omega)] at g2;refine ⟨1000000000^m,_,_,?_,g1,?_,g2⟩
 ·rw [e1,Nat.pow_succ,zDJ]
 ·rw [f0,show 1000000000^(m+2)=1000000000^m*1000000000*1000000000 by rw [Nat.pow_succ,Nat.pow_succ],Nat.pow_succ,zDz]
theorem Led.down (h:Led x vs n v1 v2 u0 u1 u2) {t r:Nat} (ht:t*v1+r=u0*1000000000+u1) (hr:r*1000000000+u2<t*v2):dv x/dv vs≤t-1:=by
 obtain ⟨p,vr,ur,h1,h2,h3,h4⟩:=h.parts;exact zkl h1 h3 h4 ht hr
theorem Led.stop (h:Led x vs n v1 v2 u0 u1 u2) {t r:Nat} (htb:t<1000000000) (ht:t*v1+r=u0*1000000000+u1) (hr:1000000000≤r∨t*v2≤r*1000000000+u2):t≤dv x/dv vs+1:=by
 obtain ⟨p,vr,ur,h1,h2,h3,h4⟩:=h.parts;exact zmd (by decide) h1 h2 h3 h.pos h.v2W htb ht hr
theorem Led.first (h:Led x vs n v1 v2 u0 u1 u2):dv x/dv vs≤(u0*1000000000+u1)/v1:=by
 obtain ⟨p,vr,ur,h1,h2,h3,h4⟩:=h.parts;exact zfv h1 h3 h4 h.u2W h.pos
theorem Led.top (h:Led x vs n v1 v2 u0 u1 u2):u0≤v1:=by
 obtain ⟨p,vr,ur,h1,h2,h3,h4⟩:=h.parts;exact zlp h1 h3 h2 h.v2W h.lt
theorem Led.digit (h:Led x vs n v1 v2 u0 u1 u2):dv x/dv vs<1000000000:=by
 refine (Nat.div_lt_iff_lt_mul ?_).2 h.lt;rcases Nat.eq_zero_or_pos (dv vs) with h0 | h0
 ·have:=h.lt;rw [h0] at this;simp at this
 ·exact h0
theorem Led.small (h:Led x vs n v1 v2 u0 u1 u2) {t r:Nat} (ht:t*v1+r=u0*1000000000+u1) (hb:1000000000≤t):r<1000000000:=by
 have h1:=h.top;have h2:=h.u1W;have h3:=Nat.mul_le_mul_right v1 hb;have h4:=Nat.mul_le_mul_right 1000000000 h1;rw [Nat.mul_comm v1] at h4;omega
end
theorem zQs {r u:Nat} (hr:r<1000000000) (hu:u<1000000000):r*1000000000<9223372036854775808∧r*1000000000+u<9223372036854775808:=by omega
section
variable {P:zN} {L:Lib}
theorem zCA {w:AV} {x vs pre post qs:List Int} {f:Int} (hw:IsI w vs) {n v1 v2 u0 u1 u2 M:Nat} (hl:Led x vs n v1 v2 u0 u1 u2) (hM:M=pre.length+x.length+post.length) (hMb:M≤50000000000):
  ∀k s,(∃t r:Nat,zA [0,1,2,7,9,10] s=⟨[(0,.osl 1 0 M),(1,w),(2,zh pre.length),(7,zh n),(9,zh t),(10,zh r)],H3 qs (pre++x++post) f,3,3⟩∧t*v1+r=u0*1000000000+u1∧r<1000000000∧dv x/dv vs≤t∧t=k)→
   ∃ex s',D P L (.loop [0,1,2,7,9,10] zfO) s=some (ex,s')∧∃tm ct t,s'=⟨tm,H3 qs (pre++x++post) f,ct,3⟩∧((ex= .exit 0∧zc tm 9=zh (t:Nat))∨(ex= .ret∧zc tm 6=zh (t:Nat)))∧ct=3∧t<1000000000∧dv x/dv vs≤t∧t≤dv x/dv vs+1:=by
 refine zS (I:=fun k s=>∃t r:Nat,s=⟨[(0,.osl 1 0 M),(1,w),(2,zh pre.length),(7,zh n),(9,zh t),(10,zh r)],H3 qs (pre++x++post) f,3,3⟩∧t*v1+r=u0*1000000000+u1∧r<1000000000∧dv x/dv vs≤t∧t=k)
  (Q:=fun ex s'=>∃tm ct t,s'=⟨tm,H3 qs (pre++x++post) f,ct,3⟩∧((ex= .exit 0∧zc tm 9=zh (t:Nat))∨(ex= .ret∧zc tm 6=zh (t:Nat)))∧ct=3∧t<1000000000∧dv x/dv vs≤t∧t≤dv x/dv vs+1) ?_
 rintro k s ⟨t,r,rfl,ht,hr,hQ,rfl⟩;have hn2:=hl.n2;have hnb:=hl.nb;have hlx:=hl.lx;have hv1W:=hl.v1W;have hv2W:=hl.v2W;have hu2W:=hl.u2W;have hu0W:=hl.u0W;have hu1W:=hl.u1W;have hpos:=hl.pos;have ev2:=zfP hw (i:=n-2) (by have:=hl.lv;omega);have ev1:=zfP hw (i:=n-1) (by have:=hl.lv;omega);rw [hl.hv2] at ev2;rw [hl.hv1] at ev1;have eu2:=zge (l:=pre++x++post) (o:=pre.length+(n-2)) (by rw [zc2];omega);rw [zfG (by omega),hl.h2] at eu2;have n2e:(n:Int)-2=((n-2:Nat):Int):=by omega
 have n1e:(n:Int)-1=((n-1:Nat):Int):=by omega
 have pne:(pre.length:Int)+(n:Int)=((pre.length+n:Nat):Int):=rfl;have pn2:((pre.length+n:Nat):Int)-2=((pre.length+(n-2):Nat):Int):=by omega
 have httop:t≤1000000000000000000:=by
  have:=Nat.mul_le_mul_left t hpos
  omega
 have hmulb:t*1≤t*v1:=Nat.mul_le_mul_left t hpos;obtain ⟨rm1,rm2⟩:=zQs hr hu2W;by_cases hgo:1000000000≤t∨r*1000000000+u2<t*v2
 ·have ht0:0<t:=by
   rcases Nat.eq_zero_or_pos t with h0 | h0
   ·subst h0;omega
   ·exact h0
  have h1:(t-1)*v1+(r+v1)=u0*1000000000+u1:=by
   obtain ⟨p,rfl⟩:∃p,t=p+1:=⟨t-1,by omega⟩;rw [Nat.add_mul,Nat.one_mul] at ht;rw [Nat.add_sub_cancel];omega
  have hdn:dv x/dv vs≤t-1:=by
   rcases hgo with h | h
   ·have:=hl.digit;generalize dv x/dv vs=q at*;omega
   ·exact hl.down ht h
  have et1:((t:Nat):Int)-1=((t-1:Nat):Int):=by omega
  have stop:1000000000≤r+v1→t-1<1000000000∧t-1≤dv x/dv vs+1:=fun hb=>by
   have hlt:t-1<1000000000:=by
    by_cases hbb:1000000000≤t-1
    ·have:=hl.small h1 hbb;omega
    ·omega
   exact ⟨hlt,hl.stop hlt h1 (.inl hb)⟩
  by_cases hb:1000000000≤t
  ·by_cases hr2:1000000000≤r+v1
   ·right
    obtain ⟨s1,s2⟩:=stop hr2
    simp only [go_sem,reduceEqDiff,zfO,H3,show (1000000000:Int)≤(t:Int) by omega,et1,zy (n:=t-1) (by omega),n1e,zy (n:=n-1) (by omega),ev1,show (r:Int)+(v1:Int)=((r+v1:Nat):Int) from rfl,zy (n:=r+v1) (by omega),show (1000000000:Int)≤((r+v1:Nat):Int) by omega];exact ⟨_,_,rfl,by simp,_,_,t-1,rfl,.inr ⟨rfl,by simp only [go_sem]⟩,rfl,s1,hdn,s2⟩
   ·left
    simp only [go_sem,reduceEqDiff,zfO,H3,show (1000000000:Int)≤(t:Int) by omega,et1,zy (n:=t-1) (by omega),n1e,zy (n:=n-1) (by omega),ev1,show (r:Int)+(v1:Int)=((r+v1:Nat):Int) from rfl,zy (n:=r+v1) (by omega),show ¬(1000000000:Int)≤((r+v1:Nat):Int) by omega];refine ⟨_,t-1,rfl,by omega,t-1,r+v1,?_,h1,by omega,hdn,rfl⟩;rw [zg0 (by simp only [go_sem,reduceEqDiff,reduceLT,zck,zcG,zbt,za8,zba hw.pu,and_true]) (by simp only [go_sem,reduceEqDiff,reduceAdd,reduceLT,zb hw.pu])];simp only [go_sem,reduceEqDiff]
  ·have hm1:=Nat.mul_le_mul (show t≤999999999 by omega) (show v2≤999999999 by omega);have hlt2:r*1000000000+u2<t*v2:=hgo.resolve_left hb;obtain ⟨m,hm⟩:∃m,t*v2=m:=⟨_,rfl⟩;have em:(t:Int)*(v2:Int)=(m:Int):=by rw [←hm,Int.natCast_mul]
   rw [hm] at hlt2 hm1;have er1:(r:Int)*1000000000=((r*1000000000:Nat):Int):=by omega
   have er2:((r*1000000000:Nat):Int)+(u2:Int)=((r*1000000000+u2:Nat):Int):=rfl;by_cases hr2:1000000000≤r+v1
   ·right
    obtain ⟨s1,s2⟩:=stop hr2
    simp only [go_sem,reduceEqDiff,Nat.mul_one,zfO,H3,show ¬(1000000000:Int)≤(t:Int) by omega,n2e,zy (n:=n-2) (by omega),ev2,em,zy (n:=m) (by omega),er1,zy rm1,pne,zy (n:=pre.length+n) (by omega),pn2,zy (n:=pre.length+(n-2)) (by omega),zY 1 0 (show pre.length+(n-2)<M by omega),Nat.zero_add,eu2,er2,zy rm2,show ((r*1000000000+u2:Nat):Int)<(m:Int) from Int.ofNat_lt.2 hlt2,et1,zy (n:=t-1) (by omega),n1e,zy (n:=n-1) (by omega),ev1,show (r:Int)+(v1:Int)=((r+v1:Nat):Int) from rfl,zy (n:=r+v1) (by omega),show (1000000000:Int)≤((r+v1:Nat):Int) by omega];exact ⟨_,_,rfl,by simp,_,_,t-1,rfl,.inr ⟨rfl,by simp only [go_sem]⟩,rfl,s1,hdn,s2⟩
   ·left
    simp only [go_sem,reduceEqDiff,Nat.mul_one,zfO,H3,show ¬(1000000000:Int)≤(t:Int) by omega,n2e,zy (n:=n-2) (by omega),ev2,em,zy (n:=m) (by omega),er1,zy rm1,pne,zy (n:=pre.length+n) (by omega),pn2,zy (n:=pre.length+(n-2)) (by omega),zY 1 0 (show pre.length+(n-2)<M by omega),Nat.zero_add,eu2,er2,zy rm2,show ((r*1000000000+u2:Nat):Int)<(m:Int) from Int.ofNat_lt.2 hlt2,et1,zy (n:=t-1) (by omega),n1e,zy (n:=n-1) (by omega),ev1,show (r:Int)+(v1:Int)=((r+v1:Nat):Int) from rfl,zy (n:=r+v1) (by omega),show ¬(1000000000:Int)≤((r+v1:Nat):Int) by omega];refine ⟨_,t-1,rfl,by omega,t-1,r+v1,?_,h1,by omega,hdn,rfl⟩;rw [zg0 (by simp only [go_sem,reduceEqDiff,reduceLT,zck,zcG,zbt,za8,zba hw.pu,and_true]) (by simp only [go_sem,reduceEqDiff,reduceAdd,reduceLT,zb hw.pu])];simp only [go_sem,reduceEqDiff]
 ·right
  have htb:t<1000000000:=Nat.lt_of_not_le fun e=>hgo (.inl e)
  have hm1:=Nat.mul_le_mul (show t≤999999999 from Nat.le_of_lt_succ htb) (show v2≤999999999 from Nat.le_of_lt_succ hv2W);have hle2:t*v2≤r*1000000000+u2:=Nat.le_of_not_lt fun e=>hgo (.inr e)
  have hstop:=hl.stop htb ht (.inr hle2);obtain ⟨m,hm⟩:∃m,t*v2=m:=⟨_,rfl⟩;have em:(t:Int)*(v2:Int)=(m:Int):=by rw [←hm,Int.natCast_mul]
  rw [hm] at hle2 hm1;have er1:(r:Int)*1000000000=((r*1000000000:Nat):Int):=by omega
  have er2:((r*1000000000:Nat):Int)+(u2:Int)=((r*1000000000+u2:Nat):Int):=rfl
  simp only [go_sem,reduceEqDiff,Nat.mul_one,zfO,H3,show ¬(1000000000:Int)≤(t:Int) by omega,n2e,zy (n:=n-2) (by omega),ev2,em,zy (n:=m) (by omega),er1,zy rm1,pne,zy (n:=pre.length+n) (by omega),pn2,zy (n:=pre.length+(n-2)) (by omega),zY 1 0 (show pre.length+(n-2)<M by omega),Nat.zero_add,eu2,er2,zy rm2,show ¬((r*1000000000+u2:Nat):Int)<(m:Int) from fun e=>Nat.not_lt_of_le hle2 (Int.ofNat_lt.1 e)];exact ⟨_,_,rfl,by simp,_,_,t,rfl,.inl ⟨rfl,by simp only [go_sem,reduceEqDiff]⟩,rfl,htb,hQ,hstop⟩
theorem zM0 (h:Has P L 301 c301) {w:AV} {x vs pre post qs:List Int} {f:Int} (hw:IsI w vs) {n v1 v2 u0 u1 u2 M:Nat} (hl:Led x vs n v1 v2 u0 u1 u2) (hM:M=pre.length+x.length+post.length) (hMb:M≤50000000000):
  ∃t:Nat,zbj P L (D P L) (H3 qs (pre++x++post) f) 3 301 [.osl 1 0 M,w,zh pre.length]=some (zh t,H3 qs (pre++x++post) f,3)∧t<1000000000∧dv x/dv vs≤t∧t≤dv x/dv vs+1:=by
 have hn2:=hl.n2;have hnb:=hl.nb;have hlx:=hl.lx;have hbw:zcT 3 w:=zba hw.pu;have hv1W:=hl.v1W;have hu0W:=hl.u0W;have hu1W:=hl.u1W;have hpos:=hl.pos;have ev1:=zfP hw (i:=n-1) (by have:=hl.lv;omega);rw [hl.hv1] at ev1;have eu0:=zge (l:=pre++x++post) (o:=pre.length+n) (by rw [zc2];omega);rw [zfG (by omega),hl.h0] at eu0;have eu1:=zge (l:=pre++x++post) (o:=pre.length+(n-1)) (by rw [zc2];omega);rw [zfG (by omega),hl.h1] at eu1;have n1e:(n:Int)-1=((n-1:Nat):Int):=by omega
 have pne:(pre.length:Int)+(n:Int)=((pre.length+n:Nat):Int):=rfl;have pn1:((pre.length+n:Nat):Int)-1=((pre.length+(n-1):Nat):Int):=by omega
 obtain ⟨m,hm⟩:∃m,m=u0*1000000000+u1:=⟨_,rfl⟩;have em:(u0:Int)*1000000000=((u0*1000000000:Nat):Int):=by omega
 have em2:((u0*1000000000:Nat):Int)+(u1:Int)=(m:Int):=by omega
 have hdm:=Nat.div_add_mod m v1;have hmod:=Nat.mod_lt m hpos;have hfirst:=hl.first;rw [←hm] at hfirst;have hqle:m/v1≤m:=Nat.div_le_self _ _;have oq:IntKind.wrap .i64 ((m:Int).tdiv (v1:Int))=((m/v1:Nat):Int):=by
  rw [Int.tdiv_eq_ediv_of_nonneg (by omega),←Int.natCast_ediv,zy (by omega)]
 have or':(m:Int).tmod (v1:Int)=((m%v1:Nat):Int):=by rw [Int.tmod_eq_emod_of_nonneg (by omega),←Int.natCast_emod]
 rw [Nat.mul_comm] at hdm;generalize m/v1=q0 at*
 generalize m%v1=r0 at*
 have goal:∃ex tm t,D P L c301.body ⟨zab 0 [.osl 1 0 M,w,zh pre.length],H3 qs (pre++x++post) f,3,3⟩=some (ex,⟨tm,H3 qs (pre++x++post) f,3,3⟩)∧(ex= .normal∨ex= .ret)∧zc tm 6=zh (t:Nat)∧t<1000000000∧dv x/dv vs≤t∧t≤dv x/dv vs+1:=by
  simp only [go_sem,reduceEqDiff,Nat.mul_one,c301,H3,hw.len,hl.lv,pne,zy (n:=pre.length+n) (by omega),zY 1 0 (show pre.length+n<M by omega),Nat.zero_add,eu0,em,zy (n:=u0*1000000000) (by omega),pn1,zy (n:=pre.length+(n-1)) (by omega),zY 1 0 (show pre.length+(n-1)<M by omega),eu1,em2,zy (n:=m) (by omega),n1e,zy (n:=n-1) (by omega),ev1,zai _ _ _ (show (v1:Int)≠0 by omega),zaK _ _ _ (show (v1:Int)≠0 by omega),oq,or'];generalize hqq:D P L (.loop [0,1,2,7,9,10] zfO) _=qq;obtain ⟨ex,s,rfl,tm,ct,t,rfl,hres,rfl,g1,g2,g3⟩:=z8 hqq (zCA (P:=P) (L:=L) (qs:=qs) (f:=f) hw hl hM hMb q0) ⟨q0,r0,by
   rw [zg0 (by simp only [go_sem,reduceEqDiff,reduceLT,zck,zcG,zbt,za8,hbw,and_true]) (by simp only [go_sem,reduceEqDiff,reduceAdd,reduceLT,zb hw.pu])]
   simp only [go_sem,reduceEqDiff],by omega,by omega,hfirst,rfl⟩
  rcases hres with ⟨rfl,h9⟩ | ⟨rfl,h6⟩
  ·simp only [go_sem,reduceLT,H3,zg0,zck,zbt,za8,h9,and_self];exact ⟨_,_,t,rfl,.inr rfl,by simp only [go_sem],g1,g2,g3⟩
  ·simp only [go_sem];exact ⟨_,_,t,rfl,.inr rfl,h6,g1,g2,g3⟩
 obtain ⟨ex,tm,t,g1,g2,g3,g4,g5,g6⟩:=goal;exact ⟨t,zrO h g1 g2 (by show zaq _ [RV.t 6]=_;rw [zGN,zxK,g3]),g4,g5,g6⟩
end
end VE
end
section
namespace VE
open Go (IntKind)
theorem zPV {t v bo:Int} (ht:0≤t∧t<1000000000) (hv:0≤v∧v<1000000000) (hb:0≤bo∧bo<1000000000):0≤t*v∧t*v≤999999998000000001∧0≤t*v+bo∧t*v+bo≤999999999000000000:=by
 have h1:=Int.mul_nonneg ht.1 hv.1;have h2:=Int.mul_le_mul (show t≤999999999 by omega) (show v≤999999999 by omega) hv.1 (by decide);omega
theorem zPG {x p:Int} (hx:0≤x∧x<1000000000) (hp:0≤p∧p≤999999999000000000):
  (x-p.tmod 1000000000<0→0≤x-p.tmod 1000000000+1000000000∧x-p.tmod 1000000000+1000000000<1000000000∧0≤p.tdiv 1000000000+1∧p.tdiv 1000000000+1<1000000000∧x-p.tmod 1000000000+1000000000+p=x+1000000000*(p.tdiv 1000000000+1))∧
  (¬x-p.tmod 1000000000<0→x-p.tmod 1000000000<1000000000∧0≤p.tdiv 1000000000∧p.tdiv 1000000000<1000000000∧x-p.tmod 1000000000+p=x+1000000000*p.tdiv 1000000000):=by
 rw [Int.tmod_eq_emod_of_nonneg hp.1,Int.tdiv_eq_ediv_of_nonneg hp.1];omega
theorem zmf {l:List Int} (h:dg l) {i:Nat} {z:Int} (hz:0≤z∧z<1000000000):dg (l.set i z):=zmQ h hz
theorem zAy {b p z q v bo bo' x X Y S:Int} (h2:z+(q*v+bo)=x+b*bo') (h3:Y+q*X=S+p*bo):(Y+p*(z-x))+q*(X+p*v)=S+p*b*bo':=by
 have e:p*(z+(q*v+bo))=p*(x+b*bo'):=by rw [h2]
 simp only [Int.mul_add,Int.mul_sub] at e ⊢;rw [Int.mul_left_comm q p v,Int.mul_assoc p b bo'];generalize p*(q*v)=a1 at*
 generalize p*(b*bo')=a2 at*
 generalize p*z=a3 at*
 generalize p*x=a4 at*
 generalize p*bo=a5 at*
 generalize q*X=a6 at*
 omega
section
variable {P:zN} {L:Lib}
theorem zCs {w:AV} {x vs pre post qs:List Int} {f:Int} (hw:IsI w vs) {n M m:Nat} (lv:vs.length=n) (hM:M=pre.length+(n+1)+post.length) (hMb:M≤50000000000) (gv:dg vs) {t:Int} (ht:0≤t∧t<1000000000):
  ∀k s,(∃(i:Nat) (bo:Int) (y:List Int),zA [8,9,10,11,12,13,14,15,16] s=⟨[(8,.osl 0 0 1),(9,w),(10,zh n),(11,.osl 1 0 M),(12,.osl 2 0 m),(13,zh pre.length),(14,zh t),(15,zh bo),(16,zh i)],H3 qs (pre++y++post) f,3,0⟩∧i+k=n∧y.length=n+1∧dg y∧(0≤bo∧bo<1000000000)∧
    sv y+t*sv (vs.take i)=sv x+1000000000^i*bo)→
   ∃ex s',D P L (.loop [8,9,10,11,12,13,14,15,16] zim) s=some (ex,s')∧∃tm bo y,s'=⟨tm,H3 qs (pre++y++post) f,3,0⟩∧ex= .exit 4∧zc tm 8= .osl 0 0 1∧zc tm 9=w∧zc tm 10=zh n∧zc tm 11= .osl 1 0 M∧zc tm 12= .osl 2 0 m∧zc tm 13=zh pre.length∧zc tm 14=zh t∧zc tm 15=zh bo∧y.length=n+1∧dg y∧(0≤bo∧bo<1000000000)∧
    sv y+t*sv vs=sv x+1000000000^n*bo:=by
 refine zS (I:=fun k s=>∃(i:Nat) (bo:Int) (y:List Int),s=⟨[(8,.osl 0 0 1),(9,w),(10,zh n),(11,.osl 1 0 M),(12,.osl 2 0 m),(13,zh pre.length),(14,zh t),(15,zh bo),(16,zh i)],H3 qs (pre++y++post) f,3,0⟩∧i+k=n∧y.length=n+1∧dg y∧(0≤bo∧bo<1000000000)∧
    sv y+t*sv (vs.take i)=sv x+1000000000^i*bo)
  (Q:=fun ex s'=>∃tm bo y,s'=⟨tm,H3 qs (pre++y++post) f,3,0⟩∧ex= .exit 4∧zc tm 8= .osl 0 0 1∧zc tm 9=w∧zc tm 10=zh n∧zc tm 11= .osl 1 0 M∧zc tm 12= .osl 2 0 m∧zc tm 13=zh pre.length∧zc tm 14=zh t∧zc tm 15=zh bo∧y.length=n+1∧dg y∧(0≤bo∧bo<1000000000)∧
    sv y+t*sv vs=sv x+1000000000^n*bo) ?_
 rintro k s ⟨i,bo,y,rfl,hk,ly,gy,hbo,hval⟩;by_cases hi:i<n
 ·left
  have gvi:=zbi gv i;have gyi:=zbi gy i;have ev:=zfP hw (i:=i) (by omega);have ey:=zge (l:=pre++y++post) (o:=pre.length+i) (by rw [zc2];omega);rw [zfG (by omega)] at ey;have htk:=zjb (l:=vs) i;obtain ⟨a,ha⟩:∃a,a=vs.getD i 0:=⟨_,rfl⟩;obtain ⟨d,hd⟩:∃d,d=y.getD i 0:=⟨_,rfl⟩;rw [←ha] at gvi ev htk;rw [←hd] at gyi ey;obtain ⟨p1,p2,p3,p4⟩:=zPV ht gvi hbo;obtain ⟨s1,s2⟩:=zPG gyi ⟨p3,p4⟩;have hpre:(i:Int)+(pre.length:Int)=((pre.length+i:Nat):Int):=by omega
  have hst:=fun (hp:Hp) (ct:Nat) (z:Int)=>stD (hp:=hp) (ct:=ct) (id:=1) (v:=z) (ex:=false) (l:=pre++y++post) (o:=pre.length+i) (by rw [zc2];omega)
  have hmid:=fun z=>zmr (pre:=pre) (x:=y) (post:=post) (i:=i) z (by omega)
  have z7:=fun z=>zhL (l:=y) (i:=i) (x:=z) (by omega)
  rw [←hd] at z7;obtain ⟨pr,hpr⟩:∃pr,pr=t*a+bo:=⟨_,rfl⟩;obtain ⟨dm,hdm⟩:∃dm,pr.tmod 1000000000=dm:=⟨_,rfl⟩;obtain ⟨dq,hdq⟩:∃dq,pr.tdiv 1000000000=dq:=⟨_,rfl⟩;have hdmr:0≤dm∧dm<1000000000:=by rw [←hdm,Int.tmod_eq_emod_of_nonneg (by omega)];omega
  have hdqr:0≤dq∧dq<1000000000:=by rw [←hdq,Int.tdiv_eq_ediv_of_nonneg (by omega)];omega
  rw [←hpr,hdm,hdq] at s1 s2;have key:∀z bo',z+(t*a+bo)=d+1000000000*bo'→sv (y.set i z)+t*sv (vs.take (i+1))=sv x+1000000000^(i+1)*bo':=fun z bo' h=>by
   rw [z7,htk,Int.pow_succ];exact zAy h hval
  rw [←hpr] at key;by_cases hneg:d-dm<0
  ·obtain ⟨q1,q2,q3,q4,q5⟩:=s1 hneg;have kk:=key _ _ q5;obtain ⟨dr,hdr⟩:∃dr,d-dm=dr:=⟨_,rfl⟩;rw [hdr] at hneg kk q1 q2
   simp only [go_sem,reduceEqDiff,Nat.mul_one,zim,H3,show (i:Int)<(n:Int) by omega,ev,ze (n:=t*a) (by omega) (by omega),←hpr,ze (n:=pr) (by omega) (by omega),hpre,zy (n:=pre.length+i) (by omega),zY 1 0 (show pre.length+i<M by omega),Nat.zero_add,ey,zaK _ _ _ (show (1000000000:Int)≠0 by decide),zai _ _ _ (show (1000000000:Int)≠0 by decide),hdm,hdq,hdr,ze (n:=dr) (by omega) (by omega),ze (n:=dq) (by omega) (by omega),hneg,ze (n:=dr+1000000000) (by omega) (by omega),ze (n:=dq+1) (by omega) (by omega),hst,hmid];refine ⟨_,k-1,rfl,by omega,i+1,dq+1,y.set i (dr+1000000000),?_,by omega,by simp [ly],zmf gy ⟨q1,q2⟩,⟨q3,q4⟩,kk⟩;rw [ze (by omega) (by omega)];simp only [go_sem,reduceEqDiff,reduceAdd,za,zb hw.pu,zd _ hw.pu]<;>rfl
  ·obtain ⟨q2,q3,q4,q5⟩:=s2 hneg;have kk:=key _ _ q5;obtain ⟨dr,hdr⟩:∃dr,d-dm=dr:=⟨_,rfl⟩;rw [hdr] at hneg kk q2
   simp only [go_sem,reduceEqDiff,Nat.mul_one,zim,H3,show (i:Int)<(n:Int) by omega,ev,ze (n:=t*a) (by omega) (by omega),←hpr,ze (n:=pr) (by omega) (by omega),hpre,zy (n:=pre.length+i) (by omega),zY 1 0 (show pre.length+i<M by omega),Nat.zero_add,ey,zaK _ _ _ (show (1000000000:Int)≠0 by decide),zai _ _ _ (show (1000000000:Int)≠0 by decide),hdm,hdq,hdr,ze (n:=dr) (by omega) (by omega),ze (n:=dq) (by omega) (by omega),hneg,hst,hmid];refine ⟨_,k-1,rfl,by omega,i+1,dq,y.set i dr,?_,by omega,by simp [ly],zmf gy ⟨by omega,q2⟩,⟨q3,q4⟩,kk⟩;rw [ze (by omega) (by omega)];simp only [go_sem,reduceEqDiff,reduceAdd,za,zb hw.pu,zd _ hw.pu]<;>rfl
 ·right
  have:i=n:=by omega
  subst this;rw [List.take_of_length_le (by omega)] at hval;simp only [go_sem,reduceEqDiff,zim,H3,show ¬(i:Int)<(i:Int) by omega];exact ⟨_,_,rfl,by simp,_,bo,y,rfl,rfl,by simp only [go_sem,reduceEqDiff],by simp only [go_sem,reduceEqDiff],by simp only [go_sem,reduceEqDiff],by simp only [go_sem,reduceEqDiff],by simp only [go_sem,reduceEqDiff],by simp only [go_sem,reduceEqDiff],by simp only [go_sem,reduceEqDiff],by simp only [go_sem,reduceEqDiff],ly,gy,hbo,hval⟩
theorem zBI {b p z v c c' x X Y S:Int} (h2:z+b*c'=x+v+c) (h3:Y+p*c=S+X):(Y+p*(z-x))+p*b*c'=S+(X+p*v):=by
 have e:p*(z+b*c')=p*(x+v+c):=by rw [h2]
 simp only [Int.mul_add,Int.mul_sub] at e ⊢;rw [Int.mul_assoc p b c'];generalize p*(b*c')=a2 at*
 generalize p*z=a3 at*
 generalize p*x=a4 at*
 generalize p*c=a5 at*
 generalize p*v=a6 at*
 omega
theorem zAV {w:AV} {y0 vs pre post qs:List Int} {f:Int} (hw:IsI w vs) {n M m:Nat} (lv:vs.length=n) (hM:M=pre.length+(n+1)+post.length) (hMb:M≤50000000000) (gv:dg vs) {t top:Int}:
  ∀k s,(∃(i:Nat) (c:Int) (y:List Int),zA [8,9,10,11,12,13,14,19,20] s=⟨[(8,.osl 0 0 1),(9,w),(10,zh n),(11,.osl 1 0 M),(12,.osl 2 0 m),(13,zh pre.length),(14,zh t),(19,zh c),(20,zh i)],H3 qs (pre++y++post) f,3,0⟩∧i+k=n∧y.length=n+1∧dg (y.take n)∧y.getD n 0=top∧(0≤c∧c≤1)∧
    sv y+1000000000^i*c=sv y0+sv (vs.take i))→
   ∃ex s',D P L (.loop [8,9,10,11,12,13,14,19,20] zjn) s=some (ex,s')∧∃tm c y,s'=⟨tm,H3 qs (pre++y++post) f,3,0⟩∧ex= .exit 6∧zc tm 8= .osl 0 0 1∧zc tm 9=w∧zc tm 10=zh n∧zc tm 11= .osl 1 0 M∧zc tm 12= .osl 2 0 m∧zc tm 13=zh pre.length∧zc tm 14=zh t∧zc tm 19=zh c∧y.length=n+1∧dg (y.take n)∧y.getD n 0=top∧(0≤c∧c≤1)∧
    sv y+1000000000^n*c=sv y0+sv vs:=by
 refine zS (I:=fun k s=>∃(i:Nat) (c:Int) (y:List Int),s=⟨[(8,.osl 0 0 1),(9,w),(10,zh n),(11,.osl 1 0 M),(12,.osl 2 0 m),(13,zh pre.length),(14,zh t),(19,zh c),(20,zh i)],H3 qs (pre++y++post) f,3,0⟩∧i+k=n∧y.length=n+1∧dg (y.take n)∧y.getD n 0=top∧(0≤c∧c≤1)∧
    sv y+1000000000^i*c=sv y0+sv (vs.take i))
  (Q:=fun ex s'=>∃tm c y,s'=⟨tm,H3 qs (pre++y++post) f,3,0⟩∧ex= .exit 6∧zc tm 8= .osl 0 0 1∧zc tm 9=w∧zc tm 10=zh n∧zc tm 11= .osl 1 0 M∧zc tm 12= .osl 2 0 m∧zc tm 13=zh pre.length∧zc tm 14=zh t∧zc tm 19=zh c∧y.length=n+1∧dg (y.take n)∧y.getD n 0=top∧(0≤c∧c≤1)∧
    sv y+1000000000^n*c=sv y0+sv vs) ?_
 rintro k s ⟨i,c,y,rfl,hk,ly,gy,htop,hc,hval⟩;by_cases hi:i<n
 ·left
  have gvi:=zbi gv i;have gyi:=zbi gy i;have e0:(y.take n).getD i 0=y.getD i 0:=by
   simp [List.getD_eq_getElem?_getD,hi]
  rw [e0] at gyi;have ev:=zfP hw (i:=i) (by omega);have ey:=zge (l:=pre++y++post) (o:=pre.length+i) (by rw [zc2];omega);rw [zfG (by omega)] at ey;have htk:=zjb (l:=vs) i;obtain ⟨a,ha⟩:∃a,a=vs.getD i 0:=⟨_,rfl⟩;obtain ⟨d,hd⟩:∃d,d=y.getD i 0:=⟨_,rfl⟩;rw [←ha] at gvi ev htk;rw [←hd] at gyi ey;have hpre:(i:Int)+(pre.length:Int)=((pre.length+i:Nat):Int):=by omega
  have z7:=fun z=>zhL (l:=y) (i:=i) (x:=z) (by omega)
  rw [←hd] at z7;have hmod:(d+a+c).tmod 1000000000=(d+a+c)%1000000000:=Int.tmod_eq_emod_of_nonneg (by omega);have hdiv:(d+a+c).tdiv 1000000000=(d+a+c)/1000000000:=Int.tdiv_eq_ediv_of_nonneg (by omega);obtain ⟨z,hz⟩:∃z,z=(d+a+c)%1000000000:=⟨_,rfl⟩;obtain ⟨c',hc'⟩:∃z,z=(d+a+c)/1000000000:=⟨_,rfl⟩;have hzr:z+1000000000*c'=d+a+c:=by omega
  rw [←hz] at hmod;rw [←hc'] at hdiv;have hst:=fun (hp:Hp) (ct:Nat)=>stD (hp:=hp) (ct:=ct) (id:=1) (v:=z) (ex:=false) (l:=pre++y++post) (o:=pre.length+i) (by rw [zc2];omega)
  have hmid:=zmr (pre:=pre) (x:=y) (post:=post) (i:=i) z (by omega)
  simp only [go_sem,reduceEqDiff,Nat.mul_one,zjn,H3,show (i:Int)<(n:Int) by omega,ev,hpre,zy (n:=pre.length+i) (by omega),zY 1 0 (show pre.length+i<M by omega),Nat.zero_add,ey,ze (n:=d+a) (by omega) (by omega),ze (n:=d+a+c) (by omega) (by omega),zaK _ _ _ (show (1000000000:Int)≠0 by decide),zai _ _ _ (show (1000000000:Int)≠0 by decide),hmod,hdiv,ze (n:=c') (by omega) (by omega),hst,hmid];refine ⟨_,k-1,rfl,by omega,i+1,c',y.set i z,?_,by omega,by simp [ly],?_,by rw [zzj (by omega)];exact htop,⟨by omega,by omega⟩,?_⟩
  ·rw [ze (by omega) (by omega)];simp only [go_sem,reduceEqDiff,reduceAdd,za,zb hw.pu,zd _ hw.pu]<;>rfl
  ·rw [List.take_set];exact zmf gy ⟨by omega,by omega⟩
  ·rw [z7,htk,Int.pow_succ];exact zBI hzr hval
 ·right
  have:i=n:=by omega
  subst this;rw [List.take_of_length_le (show vs.length≤i by omega)] at hval;simp only [go_sem,reduceEqDiff,zjn,H3,show ¬(i:Int)<(i:Int) by omega];exact ⟨_,_,rfl,by simp,_,c,y,rfl,rfl,by simp only [go_sem,reduceEqDiff],by simp only [go_sem,reduceEqDiff],by simp only [go_sem,reduceEqDiff],by simp only [go_sem,reduceEqDiff],by simp only [go_sem,reduceEqDiff],by simp only [go_sem,reduceEqDiff],by simp only [go_sem,reduceEqDiff],by simp only [go_sem,reduceEqDiff],ly,gy,htop,hc,hval⟩
theorem zBa {A V t:Nat} {y:List Int} {n:Nat} (hV:0<V) (ly:y.length=n+1) (gy:dg (y.take n)) (h:sv y=(A:Int)-t*V) (h1:A/V≤t) (h2:t≤A/V+1):
  (¬y.getD n 0<0→t=A/V∧sv y=((A%V:Nat):Int))∧(y.getD n 0<0→t=A/V+1∧sv y+V=((A%V:Nat):Int)):=by
 have hdm:=Nat.div_add_mod A V;have hm:=Nat.mod_lt A hV;have htk:=zjb (l:=y) n;rw [List.take_of_length_le (by omega),zg5 gy] at htk;have hlow:=zek gy;rw [List.length_take,Nat.min_eq_left (by omega)] at hlow;have hp:(0:Int)<1000000000^n:=Int.pow_pos (by decide);have hcast:((1000000000^n:Nat):Int)=(1000000000:Int)^n:=by simp
 have hlow':(dv (y.take n):Int)<1000000000^n:=by rw [←hcast];omega
 generalize y.getD n 0=top at*
 generalize A/V=Q at*
 generalize A%V=R at*
 have hA:(A:Int)=(Q:Int)*V+R:=by
  have:=congrArg (fun x:Nat=>(x:Int)) hdm
  simp only [Int.natCast_add,Int.natCast_mul] at this;rw [Int.mul_comm] at this;exact this.symm
 have hq:t=Q∨t=Q+1:=by omega
 constructor
 ·intro h0;have h3:0≤(1000000000:Int)^n*top:=Int.mul_nonneg (Int.le_of_lt hp) (by omega);rcases hq with rfl | rfl
  ·exact ⟨rfl,by rw [h,hA];omega⟩
  ·rw [hA,Int.natCast_add,Int.add_mul] at h;simp only [Int.natCast_one,Int.one_mul] at h;omega
 ·intro h0;have h3:(1000000000:Int)^n*top≤-(1000000000^n):=by
   have:=Int.mul_le_mul_of_nonneg_left (show top≤-1 by omega) (Int.le_of_lt hp)
   rw [Int.mul_neg,Int.mul_one] at this;exact this
  rcases hq with rfl | rfl
  ·rw [hA] at h;omega
  ·refine ⟨rfl,?_⟩;rw [hA,Int.natCast_add,Int.add_mul] at h;simp only [Int.natCast_one,Int.one_mul] at h;omega
theorem zng {y:List Int} {n:Nat} (ly:y.length=n+1) (gy:dg (y.take n)) (h0:0≤sv y) (h1:sv y<1000000000^n):y.getD n 0=0∧dg y∧sv y=dv y:=by
 have htk:=zjb (l:=y) n;rw [List.take_of_length_le (by omega),zg5 gy] at htk;have hlow:=zek gy;rw [List.length_take,Nat.min_eq_left (by omega)] at hlow;have hp:(0:Int)<1000000000^n:=Int.pow_pos (by decide);have hcast:((1000000000^n:Nat):Int)=(1000000000:Int)^n:=by simp
 have hlow':(dv (y.take n):Int)<1000000000^n:=by rw [←hcast];omega
 have ht:y.getD n 0=0:=by
  generalize y.getD n 0=top at*
  rcases Int.lt_trichotomy top 0 with h | h | h
  ·have:=Int.mul_le_mul_of_nonneg_left (show top≤-1 by omega) (Int.le_of_lt hp)
   rw [Int.mul_neg,Int.mul_one] at this;omega
  ·exact h
  ·have:=Int.mul_le_mul_of_nonneg_left (show 1≤top by omega) (Int.le_of_lt hp)
   rw [Int.mul_one] at this;omega
 have hg:dg y:=by
  have e:y=y.take n++[0]:=by
   have h1:y=y.take n++y.drop n:=(List.take_append_drop n y).symm;have h2:y.drop n=[0]:=by
    rw [List.drop_eq_getElem_cons (by omega),List.drop_eq_nil_of_le (by omega)]
    have:y[n]=y.getD n 0:=by simp [List.getD_eq_getElem?_getD,List.getElem?_eq_getElem (show n<y.length by omega)]
    rw [this,ht]
   rw [h2] at h1;exact h1
  rw [e];exact dg_append.2 ⟨gy,dg_one.2 ⟨by decide,by decide⟩⟩
 exact ⟨ht,hg,zg5 hg⟩
end
end VE
end
