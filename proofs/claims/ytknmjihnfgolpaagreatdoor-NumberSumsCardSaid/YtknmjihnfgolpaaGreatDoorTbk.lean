import Derived.Test.YtknmjihnfgolpaaGreatDoorTbj
import Derived.Test.YtknmjihnfgolpaaGreatDoorTbg
import Derived.Test.YtknmjihnfgolpaaGreatDoorTas
set_option linter.all false
set_option maxRecDepth 100000
open Nat (reduceEqDiff)
section
namespace VE
open Go (IntKind)
section
variable {P:zU} {L:Lib} {f:Run}
theorem zIO {y s v1 v2 u u2 z:Nat} (hy:y=v1*4294967296+v2) (hv2:v2<4294967296) (hv0:0<v1) (hv1:v1<4294967296) (hu:u<y) (hu2:u2<4294967296):
  ∀k st,(∃q r:Nat,zC [2,8,9,10,14,15,16,17,18] st=⟨[(2,uc y),(8,uc s),(9,uc v1),(10,uc v2),(14,uc u2),(15,uc z),(16,uc r),(17,uc u),(18,uc q)],[],0,0⟩∧q*v1+r=u∧r<4294967296∧(u*4294967296+u2)/y≤q∧q=k)→
   ∃ex st',D P L (.loop [2,8,9,10,14,15,16,17,18] zfI) st=some (ex,st')∧∃tm ct,st'=⟨tm,[],ct,0⟩∧ex= .exit 2∧zc tm 2=uc y∧zc tm 8=uc s∧zc tm 9=uc v1∧zc tm 10=uc v2∧zc tm 14=uc u2∧zc tm 15=uc z∧zc tm 17=uc u∧zc tm 18=uc ((u*4294967296+u2)/y):=by
 refine zT (I:=fun k st=>∃q r:Nat,st=⟨[(2,uc y),(8,uc s),(9,uc v1),(10,uc v2),(14,uc u2),(15,uc z),(16,uc r),(17,uc u),(18,uc q)],[],0,0⟩∧q*v1+r=u∧r<4294967296∧(u*4294967296+u2)/y≤q∧q=k)
  (Q:=fun ex st'=>∃tm ct,st'=⟨tm,[],ct,0⟩∧ex= .exit 2∧zc tm 2=uc y∧zc tm 8=uc s∧zc tm 9=uc v1∧zc tm 10=uc v2∧zc tm 14=uc u2∧zc tm 15=uc z∧zc tm 17=uc u∧zc tm 18=uc ((u*4294967296+u2)/y)) ?_
 rintro k st ⟨q,r,rfl,hq,hr,hQ,rfl⟩;obtain ⟨g1,g2⟩:=ziw hy hv2 hv0 hv1 hu hu2 hq hr hQ;have hqb:q*1≤q*v1:=Nat.mul_le_mul_left q hv0;have hv1m:=Nat.mul_le_mul_right 4294967296 (show v1≤4294967295 by omega);have hqW:q<18446744073709551616:=by omega
 have hbr:=Nat.mul_le_mul_left 4294967296 (show r≤4294967295 by omega);have e1:=ziX 4294967296 r;rw [show uc 4294967296=AV.int .u64 4294967296 from rfl,Nat.mod_eq_of_lt (show 4294967296*r<18446744073709551616 by omega)] at e1;have e2:=ziQ (4294967296*r) u2;rw [Nat.mod_eq_of_lt (show 4294967296*r+u2<18446744073709551616 by omega)] at e2;have e4:=ziQ r v1;rw [Nat.mod_eq_of_lt (show r+v1<18446744073709551616 by omega)] at e4;by_cases hc:4294967296≤q∨4294967296*r+u2<q*v2
 ·obtain ⟨h0,h1,h2,h3⟩:=g1 hc;have e3:binOp .sub (uc q) (.int .u64 1)=some (uc (q-1)):=zpD (b:=1) (by omega) (by omega);by_cases hb:4294967296≤r+v1
  ·right
   have hQ1:=h3 hb;rcases (show 4294967296≤q∨(¬4294967296≤q∧4294967296*r+u2<q*v2) by omega) with t1 | ⟨t1,t2⟩
   ·simp only [go_sem,reduceEqDiff,zfI,show (4294967296:Int)≤(q:Int) by omega,e3,e4,show (4294967296:Int)≤((r+v1:Nat):Int) by omega];exact ⟨_,_,rfl,by simp,_,_,rfl,rfl,by simp only [go_sem,reduceEqDiff],by simp only [go_sem,reduceEqDiff],by simp only [go_sem,reduceEqDiff],by simp only [go_sem,reduceEqDiff],by simp only [go_sem,reduceEqDiff],by simp only [go_sem,reduceEqDiff],by simp only [go_sem,reduceEqDiff],by rw [hQ1];simp only [go_sem,reduceEqDiff]⟩
   ·have hqv:=Nat.mul_le_mul (show q≤4294967295 by omega) (show v2≤4294967295 by omega);have e5:=ziX q v2;rw [Nat.mod_eq_of_lt (show q*v2<18446744073709551616 by omega)] at e5;simp only [go_sem,reduceEqDiff,zfI,show ¬(4294967296:Int)≤(q:Int) by omega,e5,e1,e2,show ((4294967296*r+u2:Nat):Int)<((q*v2:Nat):Int) by omega,e3,e4,show (4294967296:Int)≤((r+v1:Nat):Int) by omega];exact ⟨_,_,rfl,by simp,_,_,rfl,rfl,by simp only [go_sem,reduceEqDiff],by simp only [go_sem,reduceEqDiff],by simp only [go_sem,reduceEqDiff],by simp only [go_sem,reduceEqDiff],by simp only [go_sem,reduceEqDiff],by simp only [go_sem,reduceEqDiff],by simp only [go_sem,reduceEqDiff],by rw [hQ1];simp only [go_sem,reduceEqDiff]⟩
  ·left
   rcases (show 4294967296≤q∨(¬4294967296≤q∧4294967296*r+u2<q*v2) by omega) with t1 | ⟨t1,t2⟩
   ·simp only [go_sem,reduceEqDiff,zfI,show (4294967296:Int)≤(q:Int) by omega,e3,e4,show ¬(4294967296:Int)≤((r+v1:Nat):Int) by omega];exact ⟨_,q-1,rfl,by omega,q-1,r+v1,by simp only [go_sem,reduceEqDiff,za],h1,by omega,h2,rfl⟩
   ·have hqv:=Nat.mul_le_mul (show q≤4294967295 by omega) (show v2≤4294967295 by omega);have e5:=ziX q v2;rw [Nat.mod_eq_of_lt (show q*v2<18446744073709551616 by omega)] at e5;simp only [go_sem,reduceEqDiff,zfI,show ¬(4294967296:Int)≤(q:Int) by omega,e5,e1,e2,show ((4294967296*r+u2:Nat):Int)<((q*v2:Nat):Int) by omega,e3,e4,show ¬(4294967296:Int)≤((r+v1:Nat):Int) by omega];exact ⟨_,q-1,rfl,by omega,q-1,r+v1,by simp only [go_sem,reduceEqDiff,za],h1,by omega,h2,rfl⟩
 ·right
  have hQ1:=g2 (by omega) (by omega);have hqv:=Nat.mul_le_mul (show q≤4294967295 by omega) (show v2≤4294967295 by omega);have e5:=ziX q v2;rw [Nat.mod_eq_of_lt (show q*v2<18446744073709551616 by omega)] at e5;simp only [go_sem,reduceEqDiff,zfI,show ¬(4294967296:Int)≤(q:Int) by omega,e5,e1,e2,show ¬((4294967296*r+u2:Nat):Int)<((q*v2:Nat):Int) by omega];exact ⟨_,_,rfl,by simp,_,_,rfl,rfl,by simp only [go_sem,reduceEqDiff],by simp only [go_sem,reduceEqDiff],by simp only [go_sem,reduceEqDiff],by simp only [go_sem,reduceEqDiff],by simp only [go_sem,reduceEqDiff],by simp only [go_sem,reduceEqDiff],by simp only [go_sem,reduceEqDiff],by rw [hQ1];simp only [go_sem,reduceEqDiff]⟩
theorem zD8 (a:Nat):binOp .shr (.int .u64 (a:Int)) (.int .u64 32)=some (uc (a/4294967296)):=zx9 .u64 a (s:=32) (by decide)
theorem zO0 (a:Nat) {b:Nat} (ha:a<18446744073709551616) (hb:0<b):binOp .quo (uc a) (uc b)=some (uc (a/b)):=by
 rw [zaC _ _ _ (by omega),Int.tdiv_eq_ediv_of_nonneg (by omega),←Int.natCast_ediv,zkY,Nat.mod_eq_of_lt];exact Nat.lt_of_le_of_lt (Nat.div_le_self a b) ha
theorem zQC (a:Nat) {b:Nat} (hb:0<b):binOp .rem (uc a) (uc b)=some (uc (a%b)):=by
 rw [zaO _ _ _ (by omega),Int.tmod_eq_emod_of_nonneg (by omega),←Int.natCast_emod]
theorem zud {hi lo y s u z Y:Nat} (hs:s<64) (hlo:lo<18446744073709551616) (hY:Y=y*2^s) (hu:u=hi*2^s+lo/2^(64-s)) (hz:z=lo*2^s%18446744073709551616):
  (hi*18446744073709551616+lo)*2^s=u*18446744073709551616+z:=by
 have e:18446744073709551616=2^(64-s)*2^s:=by rw [←Nat.pow_add,show 64-s+s=64 by omega]
 have h1:lo*2^s/18446744073709551616=lo/2^(64-s):=by
  rw [e,Nat.mul_div_mul_right _ _ (Nat.two_pow_pos s)]
 have h2:=Nat.div_add_mod (lo*2^s) 18446744073709551616;rw [h1,←hz] at h2;rw [hu,Nat.add_mul,Nat.add_mul,←h2,Nat.mul_right_comm];omega
theorem zls {Y q a b:Nat} (h1:a<Y) (h2:b<4294967296) (h3:q=(a*4294967296+b)/Y):q<4294967296:=by
 rw [h3];exact (Nat.div_lt_iff_lt_mul (by omega)).2 (by omega)
theorem zxK {u w x z z0 z1 q0 q1 Y:Nat} (hd1:q1*Y+w=u*4294967296+z1) (hd0:q0*Y+x=w*4294967296+z0) (hz:z=z1*4294967296+z0):u*18446744073709551616+z=(q1*4294967296+q0)*Y+x:=by
 have e:u*18446744073709551616=u*4294967296*4294967296:=by rw [Nat.mul_assoc]
 have h1:(q1*Y+w)*4294967296=(u*4294967296+z1)*4294967296:=by rw [hd1]
 have h2:(q1*4294967296+q0)*Y=q1*Y*4294967296+q0*Y:=by rw [Nat.add_mul,Nat.mul_right_comm]
 rw [Nat.add_mul,Nat.add_mul] at h1;have h3:w*4294967296+z0=q0*Y+x:=hd0.symm;rw [e,h2,hz];clear e h2 hz hd1 hd0;rw [show u*4294967296*4294967296+(z1*4294967296+z0)=(u*4294967296*4294967296+z1*4294967296)+z0 from (Nat.add_assoc _ _ _).symm,←h1,Nat.add_assoc,Nat.add_assoc,h3]
theorem zpz {q1 q0:Nat} (h1:q1<4294967296) (h0:q0<4294967296):q1*4294967296<18446744073709551616∧q1*4294967296+q0<18446744073709551616:=by
 have e:4294967296*4294967296=18446744073709551616:=rfl;have h2:=Nat.mul_le_mul_right 4294967296 (show q1+1≤4294967296 from h1);rw [e,Nat.add_mul,Nat.one_mul] at h2;exact ⟨Nat.lt_of_lt_of_le (Nat.lt_add_of_pos_right (by decide)) h2,Nat.lt_of_lt_of_le (Nat.add_lt_add_left h0 _) h2⟩
theorem zOk (h:Has P L 165 zwv) (h167:L.pure 167=some zlE) {hi lo y:Nat} (hhi:hi<y) (hlo:lo<18446744073709551616) (hy:y<18446744073709551616):
  zF P L 165 [uc hi,uc lo,uc y] (.tup [uc ((hi*18446744073709551616+lo)/y),uc ((hi*18446744073709551616+lo)%y)]):=by
 have hy0:0<y:=by omega
 by_cases h0:hi=0
 ·subst h0;have e1:=zO0 lo hlo hy0;have e2:=zQC lo hy0;rw [Nat.zero_mul,Nat.zero_add];unfold zF;rw [zd h];simp only [go_sem,reduceEqDiff,zwv,show ¬(y:Int)=0 by omega,show ¬(y:Int)≤0 by omega,show ((0:Nat):Int)=0 from rfl,e1,e2];rfl
 ·obtain ⟨s,hs⟩:∃s,s=64-zb5 64 y:=⟨_,rfl⟩;have hl:=zv5 (P:=P) (f:=D P L) h167 hy;obtain ⟨l1,l2,l3⟩:=zjR hy0 hy;rw [←hs] at hl l1 l2 l3;obtain ⟨Y,hY⟩:∃Y,Y=y*2^s:=⟨_,rfl⟩;obtain ⟨u,hu⟩:∃u,u=hi*2^s+lo/2^(64-s):=⟨_,rfl⟩;obtain ⟨z,hz⟩:∃z,z=lo*2^s%18446744073709551616:=⟨_,rfl⟩;have hdiv:=zud l1 hlo hY hu hz;rw [←hY] at l2 l3;have hp:=Nat.two_pow_pos s;obtain ⟨v1,hv1⟩:∃v,v=Y/4294967296:=⟨_,rfl⟩;obtain ⟨v2,hv2⟩:∃v,v=Y%4294967296:=⟨_,rfl⟩;have hYv:Y=v1*4294967296+v2:=by omega
  obtain ⟨z1,hz1⟩:∃v,v=z/4294967296:=⟨_,rfl⟩;obtain ⟨z0,hz0⟩:∃v,v=z%4294967296:=⟨_,rfl⟩;have hzW:z<18446744073709551616:=by omega
  have hhY:hi*2^s<Y:=by rw [hY];exact Nat.mul_lt_mul_of_pos_right hhi hp
  have hcl:lo/2^(64-s)<2^s:=by
   refine (Nat.div_lt_iff_lt_mul (Nat.two_pow_pos _)).2 ?_;rw [←Nat.pow_add,show s+(64-s)=64 by omega];exact hlo
  have hor:hi*2^s|||lo/2^(64-s)=u:=by rw [zph hcl,hu]
  have hN:hi*18446744073709551616+lo<y*18446744073709551616:=by
   have:=Nat.mul_le_mul_right 18446744073709551616 (show hi+1≤y from hhi)
   omega
  have huY:u<Y:=by
   have h1:=Nat.mul_lt_mul_of_pos_right hN hp;rw [hdiv,Nat.mul_right_comm,←hY] at h1;omega
  obtain ⟨q1,hq1⟩:∃q,q=(u*4294967296+z1)/Y:=⟨_,rfl⟩;obtain ⟨w,hw⟩:∃q,q=(u*4294967296+z1)%Y:=⟨_,rfl⟩;obtain ⟨q0,hq0⟩:∃q,q=(w*4294967296+z0)/Y:=⟨_,rfl⟩;obtain ⟨x,hx⟩:∃q,q=(w*4294967296+z0)%Y:=⟨_,rfl⟩;have hwY:w<Y:=by rw [hw];exact Nat.mod_lt _ (by omega)
  have hxY:x<Y:=by rw [hx];exact Nat.mod_lt _ (by omega)
  have hd1:=Nat.div_add_mod (u*4294967296+z1) Y;rw [←hq1,←hw,Nat.mul_comm] at hd1;have hd0:=Nat.div_add_mod (w*4294967296+z0) Y;rw [←hq0,←hx,Nat.mul_comm] at hd0;have hq1B:=zls huY (show z1<4294967296 by omega) hq1;have hq0B:=zls hwY (show z0<4294967296 by omega) hq0;obtain ⟨td1,td2⟩:=zpz hq1B hq0B;have hfin:(hi*18446744073709551616+lo)*2^s=(q1*4294967296+q0)*Y+x:=by
   rw [hdiv];exact zxK hd1 hd0 (by omega)
  have r1:(hi*18446744073709551616+lo)/y=q1*4294967296+q0:=by
   rw [←Nat.mul_div_mul_right _ _ hp,hfin,←hY,Nat.mul_comm _ Y,Nat.mul_add_div (by omega),Nat.div_eq_of_lt hxY,Nat.add_zero]
  have r2:x/2^s=(hi*18446744073709551616+lo)%y:=by
   have h1:x=(hi*18446744073709551616+lo)*2^s%(y*2^s):=by
    rw [hfin,←hY,Nat.mul_comm _ Y,Nat.mul_add_mod,Nat.mod_eq_of_lt hxY]
   rw [h1,Nat.mul_mod_mul_right,Nat.mul_div_cancel _ hp]
  have o1:=zyM .u64 y (s:=s) (by omega);rw [←hY,Nat.mod_eq_of_lt l3] at o1;have o2:=zD8 Y;rw [←hv1] at o2;have o3:=zNV Y;rw [←hv2] at o3;have o4:=zyM .u64 hi (s:=s) (by omega);rw [Nat.mod_eq_of_lt (show hi*2^s<18446744073709551616 by omega)] at o4;have o5:binOp .sub (.int .u64 64) (uc s)=some (uc (64-s)):=zpD (a:=64) (by omega) (by omega);have o6:=zx9 .u64 lo (s:=64-s) (by omega);have o7:=orU (a:=hi*2^s) (b:=lo/2^(64-s)) (by omega) (Nat.lt_of_le_of_lt (Nat.div_le_self _ _) hlo);rw [hor] at o7;have o8:=zyM .u64 lo (s:=s) (by omega);rw [←hz] at o8;have o9:=zD8 z;rw [←hz1] at o9;have o10:=zNV z;rw [←hz0] at o10;have hv10:0<v1:=by omega
  have guess:∀{a:Nat},a<Y→binOp .quo (uc a) (uc v1)=some (uc (a/v1))∧binOp .mul (uc (a/v1)) (uc v1)=some (uc (a/v1*v1))∧binOp .sub (uc a) (uc (a/v1*v1))=some (uc (a%v1)):=fun {a} ha=>by
   have h1:=Nat.div_add_mod a v1;rw [Nat.mul_comm] at h1;have h2:=ziX (a/v1) v1;generalize a/v1*v1=m at*
   rw [Nat.mod_eq_of_lt (show m<18446744073709551616 by omega)] at h2;exact ⟨zO0 a (by omega) hv10,h2,zpD (by omega) (by omega)⟩
  obtain ⟨g1,g2,g3⟩:=guess huY;obtain ⟨g4,g5,g6⟩:=guess hwY;have first:∀{a b:Nat},b<4294967296→(a*4294967296+b)/Y≤a/v1:=fun {a b} hb=>by
   have:=zfS (b:=4294967296) (V:=Y) (v1:=v1) (v2:=v2) (vr:=0) (U:=a*4294967296+b) (u0:=0) (u1:=a) (u2:=b) (ur:=0) (p:=1) (by omega) (by omega) (by decide) hb hv10
   simpa using this
  have back:∀{a b q x:Nat},a*4294967296+b=q*Y+x→x<Y→binOp .mul (uc a) (.int .u64 4294967296)=some (uc (a*4294967296%18446744073709551616))∧binOp .add (uc (a*4294967296%18446744073709551616)) (uc b)=some (uc ((a*4294967296%18446744073709551616+b)%18446744073709551616))∧
    binOp .mul (uc q) (uc Y)=some (uc (q*Y%18446744073709551616))∧binOp .sub (uc ((a*4294967296%18446744073709551616+b)%18446744073709551616)) (uc (q*Y%18446744073709551616))=some (uc x):=fun {a b q x} h1 h2=>by
   refine ⟨ziX a 4294967296,ziQ _ _,ziX q Y,zpD ?_ (by omega)⟩;generalize q*Y=m at*
   omega
  obtain ⟨k1,k2,k3,k4⟩:=back hd1.symm hwY;obtain ⟨k5,k6,k7,k8⟩:=back hd0.symm hxY;have m1:=ziX q1 4294967296;rw [Nat.mod_eq_of_lt td1,show uc 4294967296=AV.int .u64 4294967296 from rfl] at m1;have m2:=ziQ (q1*4294967296) q0;rw [Nat.mod_eq_of_lt td2] at m2;have m3:=zx9 .u64 x (s:=s) (by omega);rw [r1,←r2];unfold zF;rw [zd h];simp only [go_sem,reduceEqDiff,zwv,show ¬(y:Int)=0 by omega,show ¬(y:Int)≤(hi:Int) by omega,show ¬(hi:Int)=0 by omega,hl,zO6,Nat.mod_eq_of_lt (show s<18446744073709551616 by omega),o1,o2,o3,o4,o5,o6,o7,o8,o9,o10,g1,g2,g3];generalize hqq:D P L (.loop [2,8,9,10,11,13,14,15,16] zfJ) _=qq
  obtain ⟨ex,st,rfl,tm,ct,rfl,rfl,t2,t8,t9,t10,t11,t13,t14,t15⟩:=zae hqq (zKF (P:=P) (L:=L) (s:=s) (z:=z0) hYv (by omega) hv10 (by omega) huY (show z1<4294967296 by omega) (u/v1)) ⟨u/v1,u%v1,by simp only [go_sem,reduceEqDiff,za],by rw [Nat.mul_comm];exact Nat.div_add_mod u v1,by have:=Nat.mod_lt u hv10;omega,first (by omega),rfl⟩
  rw [←hq1] at t15;simp only [go_sem,reduceEqDiff,za,t2,t8,t9,t10,t11,t13,t14,t15,k1,k2,k3,k4,g4,g5,g6];generalize hqq2:D P L (.loop [2,8,9,10,14,15,16,17,18] zfI) _=qq2;obtain ⟨ex,st,rfl,tm2,ct2,rfl,rfl,t2,t8,t9,t10,t14,t15,t17,t18⟩:=zae hqq2 (zIO (P:=P) (L:=L) (s:=s) (z:=q1) hYv (by omega) hv10 (by omega) hwY (show z0<4294967296 by omega) (w/v1)) ⟨w/v1,w%v1,by simp only [go_sem,reduceEqDiff,za],by rw [Nat.mul_comm];exact Nat.div_add_mod w v1,by have:=Nat.mod_lt w hv10;omega,first (by omega),rfl⟩
  rw [←hq0] at t18;simp only [go_sem,reduceEqDiff,za,t2,t8,t14,t15,t17,t18,m1,m2,k5,k6,k7,k8,m3];rfl
end
end VE
end
section
namespace VE
open Go (IntKind)
mutual
def zc3 (n:Nat):AV→Prop
 | .ptr id _=>id<n
 | .osl id _ _=>id<n
 | .map id=>id<n
 | .it id=>id<n
 | .fn (.f _) first cap=>zd2 n first∧zd2 n cap
 | .fn (.y l) first cap=>l<n∧first=[]∧cap=[]
 | .agg cs=>zd2 n cs
 | .tup cs=>zd2 n cs
 | _=>True
def zd2 (n:Nat):List AV→Prop
 | []=>True
 | v::r=>zc3 n v∧zd2 n r
end
def zdZ (n:Nat):Env→Prop
 | []=>True
 | (_,v)::r=>zc3 n v∧zdZ n r
def zgQ (n:Nat):Obj→Prop
 | .cells _ pu _ _ cs=>pu=true∨zd2 n cs
 | .mp _ ks vs=>zd2 n ks∧zd2 n vs
 | .si _ _=>True
 | .lp tm _ _ _ _ _=>zdZ n tm
def zkX (b n:Nat):Hp→Prop
 | []=>True
 | (id,o)::r=>id<b∧zgQ n o∧zkX b n r
mutual
theorem zlr {f:Nat→Option Nat} {n:Nat} (hf:∀x,x<n→f x=some x):∀{v:AV},zc3 n v→ren f v=v
 | .int _ _,_ | .bool _,_ | .flt _ _,_ | .str _,_ | .nilp,_ | .vptr _,_ | .nils,_ | .vsl _ _ _,_ | .nilf,_ | .nilm,_ | .vmap _ _,_ | .undef,_ | .fsl _ _ _ _,_=>rfl
 | .ptr id o,h=>by simp only [ren,hf id h]
 | .osl id o k,h=>by simp only [ren,hf id h]
 | .map id,h=>by simp only [ren,hf id h]
 | .it id,h=>by simp only [ren,hf id h]
 | .fn (.y l) first cap,h=>by
  obtain ⟨h1,rfl,rfl⟩:=h;simp only [ren,hf l h1,zcZ]
 | .fn (.f _) first cap,h=>by
  simp only [ren,zb2 hf h.1,zb2 hf h.2]
 | .agg cs,h=>by simp only [zc3] at h;simp only [ren,zb2 hf h]
 | .tup cs,h=>by simp only [zc3] at h;simp only [ren,zb2 hf h]
theorem zb2 {f:Nat→Option Nat} {n:Nat} (hf:∀x,x<n→f x=some x):∀{vs:List AV},zd2 n vs→zcZ f vs=vs
 | [],_=>rfl
 | v::r,h=>by simp only [zcZ,zlr hf h.1,zb2 hf h.2]
end
theorem zgF {f:Nat→Option Nat} {n:Nat} (hf:∀x,x<n→f x=some x):∀{tm:Env},zdZ n tm→zfD f tm=tm
 | [],_=>rfl
 | (_,v)::r,h=>by simp only [zfD,zlr hf h.1,zgF hf h.2]
theorem zpe {f:Nat→Option Nat} {n:Nat} (hf:∀x,x<n→f x=some x):∀{o:Obj},zgQ n o→zge f o=o
 | .cells _ pu _ _ cs,h=>by
  cases pu with
  | true=>rfl
  | false=>simp only [zgQ,Bool.false_eq_true,false_or] at h;simp only [zge,cond_false,zb2 hf h]
 | .mp _ ks vs,h=>by simp only [zge,zb2 hf h.1,zb2 hf h.2]
 | .si _ _,_=>rfl
 | .lp tm _ _ _ _ _,h=>by simp only [zgQ] at h;simp only [zge,zgF hf h]
mutual
theorem zke {n:Nat}:∀{v:AV},zc3 n v→∀x,x∈zcG v→x<n
 | .int _ _,_,x,h | .bool _,_,x,h | .flt _ _,_,x,h | .str _,_,x,h | .nilp,_,x,h | .vptr _,_,x,h | .nils,_,x,h | .vsl _ _ _,_,x,h | .nilf,_,x,h | .nilm,_,x,h | .vmap _ _,_,x,h | .undef,_,x,h | .fsl _ _ _ _,_,x,h=>by simp [zcG] at h
 | .ptr id o,h,x,hx=>by simp only [zcG,List.mem_singleton] at hx;subst hx;exact h
 | .osl id o k,h,x,hx=>by simp only [zcG,List.mem_singleton] at hx;subst hx;exact h
 | .map id,h,x,hx=>by simp only [zcG,List.mem_singleton] at hx;subst hx;exact h
 | .it id,h,x,hx=>by simp only [zcG,List.mem_singleton] at hx;subst hx;exact h
 | .fn (.y l) first cap,h,x,hx=>by simp only [zcG,List.mem_singleton] at hx;subst hx;exact h.1
 | .fn (.f _) first cap,h,x,hx=>by
  simp only [zcG,List.mem_append] at hx;exact hx.elim (zbB h.1 x) (zbB h.2 x)
 | .agg cs,h,x,hx=>by simp only [zc3] at h;simp only [zcG] at hx;exact zbB h x hx
 | .tup cs,h,x,hx=>by simp only [zc3] at h;simp only [zcG] at hx;exact zbB h x hx
theorem zbB {n:Nat}:∀{vs:List AV},zd2 n vs→∀x,x∈zcC vs→x<n
 | [],_,x,h=>by simp [zcC] at h
 | v::r,h,x,hx=>by
  simp only [zcC,List.mem_append] at hx;exact hx.elim (zke h.1 x) (zbB h.2 x)
end
theorem zfP {n:Nat}:∀{tm:Env},zdZ n tm→∀x,x∈zcF tm→x<n
 | [],_,x,h=>by simp [zcF] at h
 | (_,v)::r,h,x,hx=>by
  simp only [zcF,List.mem_append] at hx;exact hx.elim (zke h.1 x) (zfP h.2 x)
theorem zor {n:Nat}:∀{o:Obj},zgQ n o→∀x,x∈zeh o→x<n
 | .cells _ pu _ _ cs,h,x,hx=>by
  cases pu with
  | true=>simp [zeh] at hx
  | false=>simp only [zgQ,Bool.false_eq_true,false_or] at h;simp only [zeh,cond_false] at hx;exact zbB h x hx
 | .mp _ ks vs,h,x,hx=>by
  simp only [zeh,List.mem_append] at hx;exact hx.elim (zbB h.1 x) (zbB h.2 x)
 | .si _ _,_,x,hx=>by simp [zeh] at hx
 | .lp tm _ _ _ _ _,h,x,hx=>by simp only [zgQ] at h;simp only [zeh] at hx;exact zfP h x hx
def zc1 (B:Nat):List (List AV)→Hp
 | []=>[]
 | cs::r=>(B+r.length,.cells true true true 1 cs)::zc1 B r
def zkz (B:Nat):List (List AV)→Hp→Hp
 | [],acc=>acc
 | cs::r,acc=>zkz (B+1) r ((B,.cells true true true 1 cs)::acc)
theorem zkl:∀(l:List (List AV)) (B:Nat) (x:List AV) (acc:Hp),zkz B (l++[x]) acc=(B+l.length,.cells true true true 1 x)::zkz B l acc
 | [],B,x,acc=>rfl
 | c::l,B,x,acc=>by
  simp only [List.cons_append,zkz,zkl l,List.length_cons];rw [show B+1+l.length=B+(l.length+1) by omega]
theorem zly (B:Nat) (acc:Hp):∀rs:List (List AV),zkz B rs.reverse acc=zc1 B rs++acc
 | []=>rfl
 | c::r=>by
  simp only [List.reverse_cons,zkl,zly B acc r,List.length_reverse,zc1,List.cons_append]
theorem zlC {B:Nat} {old:Hp}:∀{rs:List (List AV)} {i:Nat} (h:i<rs.length),zt (zc1 B rs++old) (B+i)=some (.cells true true true 1 (rs.reverse[i]'(by simpa using h)))
 | c::r,i,h=>by
  simp only [zc1,List.cons_append,List.reverse_cons];by_cases hi:i=r.length
  ·subst hi;rw [zt,Nat.beq_refl,cond_true]
   simp
  ·have hlt:i<r.length:=by simp only [List.length_cons] at h;omega
   rw [zt,zaQ (by omega),cond_false,zlC hlt]
   congr 2
   rw [List.getElem_append_left]
theorem zgB {a b:Nat} (h:a<b):Nat.blt a b=true:=Nat.ble_eq_true_of_le h
theorem zj1 {a b:Nat} (h:b≤a):Nat.blt a b=false:=by
 cases hq:Nat.blt a b with
 | false=>rfl
 | true=>have:=Nat.le_of_ble_eq_true hq;omega
theorem zeS {B:Nat} {old:Hp}:∀rs:List (List AV),za7 B (zc1 B rs++old)=za7 B old
 | []=>rfl
 | c::r=>by
  simp only [zc1,List.cons_append];rw [za7,zj1 (by omega),cond_false,zeS r]
theorem zjY {B:Nat} {old:Hp} {f:Nat→Option Nat}:∀rs:List (List AV),zea B f (zc1 B rs++old)=zea B f old
 | []=>rfl
 | c::r=>by
  simp only [zc1,List.cons_append];rw [zea,zj1 (by omega),cond_false,zjY r]
theorem ziu {B n:Nat} {f:Nat→Option Nat} (hf:∀x,x<n→f x=some x):∀{old:Hp},zkX B n old→zea B f old=old
 | [],_=>rfl
 | (id,o)::r,h=>by
  rw [zea,zgB h.1,cond_true,zpe hf h.2.1,ziu hf h.2.2]
theorem zqf {B s x:Nat} (h:B+s≤x):zgf x (List.range' B s)=false:=by
 induction s generalizing B with
 | zero=>rfl
 | succ s ih=>rw [List.range'_succ,zgf,zaQ (by omega),cond_false,ih (by omega)]
theorem zgM {hp:Hp} {B R:Nat} (hrow:∀i,i<R→∃rw ex sz cs,zt hp (B+i)=some (.cells rw true ex sz cs)):
  ∀(W:List Nat) (fuel s:Nat),W.length<fuel→s≤R→W.filter (fun x=> !Nat.blt x B)=List.range' (B+s) (R-s)→zfo hp B fuel W (List.range' B s)=List.range' B R
 | [],0,s,hf,_,_=>by simp at hf
 | [],fuel+1,s,hf,hs,h=>by
  rw [List.filter_nil] at h
  have:R-s=0:=by
   have:=congrArg List.length h
   simpa using this.symm
  rw [zfo,show R=s by omega]
 | id::W,0,s,hf,_,_=>by simp at hf
 | id::W,fuel+1,s,hf,hs,h=>by
  have hf':W.length<fuel:=by simpa using hf
  rw [zfo];by_cases hid:id<B
  ·rw [zgB hid,Bool.true_or,cond_true];rw [List.filter_cons,zgB hid] at h;exact zgM hrow W fuel s hf' hs (by simpa using h)
  ·rw [List.filter_cons,zj1 (by omega)] at h;simp only [Bool.not_false,if_true] at h;have hRs:R-s=(R-s-1)+1:=by
    have:=congrArg List.length h
    simp only [List.length_cons,List.length_range'] at this;omega
   rw [hRs,List.range'_succ] at h;injection h with h1 h2
   subst h1;rw [zj1 (by omega),Bool.false_or,zqf (Nat.le_refl _),cond_false];obtain ⟨rw,ex,sz,cs,ho⟩:=hrow s (by omega);simp only [ho,zeh,cond_true,List.nil_append];have e:List.range' B s++[B+s]=List.range' B (s+1):=by rw [List.range'_concat];simp
   rw [e];exact zgM hrow W fuel (s+1) hf' (by omega) (by rw [h2,show R-s-1=R-(s+1) by omega,show B+s+1=B+(s+1) by omega])
theorem zo0 {B s i k:Nat} (h:i<s):zgO (B+i) (List.range' B s) k=some (k+i):=by
 induction s generalizing B i k with
 | zero=>omega
 | succ s ih=>
  rw [List.range'_succ,zgO];by_cases hi:i=0
  ·subst hi;simp
  ·rw [zaQ (by omega),cond_false]
   have:=ih (B:=B+1) (i:=i-1) (k:=k+1) (by omega)
   rw [show B+1+(i-1)=B+i by omega,show k+1+(i-1)=k+i by omega] at this;exact this
theorem znq {B R x:Nat} (h:x<B+R):zdy B (List.range' B R) x=some x:=by
 unfold zdy;by_cases hx:x<B
 ·rw [zgB hx,cond_true]
 ·rw [zj1 (by omega),cond_false]
  have:=zo0 (B:=B) (s:=R) (i:=x-B) (k:=B) (by omega)
  rw [show B+(x-B)=x by omega] at this;exact this
theorem zkm {hp:Hp} {f:Nat→Option Nat}:∀(ro:List (List AV)) (B:Nat) (acc:Hp),(∀i (h:i<ro.length),zt hp (B+i)=some (.cells true true true 1 ro[i]))→zdt hp f (List.range' B ro.length) B acc=zkz B ro acc
 | [],B,acc,_=>rfl
 | c::r,B,acc,h=>by
  have h0:=h 0 (by simp);simp only [Nat.add_zero,List.getElem_cons_zero] at h0;rw [List.length_cons,List.range'_succ,zdt];simp only [h0,zge,cond_true,zkz]
  exact zkm r (B+1) _ (fun i hi=>by
   have:=h (i+1) (by simpa using hi)
   rw [show B+1+i=B+(i+1) by omega,this]
   simp)
theorem zmu {live:List Nat} {tm:Env} {B ct:Nat} {old:Hp} {rs:List (List AV)} (ht:zdZ B (keep tm live)) (ho:zkX B (B+rs.length) old) (hl:(zcF (keep tm live)).length+(za7 B old).length<100000)
  (hr:(za7 B old).filter (fun x=> !Nat.blt x B)=List.range' B rs.length):zC live ⟨tm,zc1 B rs++old,ct,B⟩=⟨keep tm live,zc1 B rs++old,B+rs.length,B⟩:=by
 have hrow:∀i (h:i<rs.length),zt (zc1 B rs++old) (B+i)=some (.cells true true true 1 (rs.reverse[i]'(by simpa using h))):=fun i h=>zlC h
 have hseen:zfo (zc1 B rs++old) B 100000 (zcF (keep tm live)++za7 B (zc1 B rs++old)) []=List.range' B rs.length:=by
  have:=zgM (hp:=zc1 B rs++old) (B:=B) (R:=rs.length) (fun i hi=>⟨_,_,_,_,hrow i hi⟩) (zcF (keep tm live)++za7 B (zc1 B rs++old)) 100000 0 (by rw [zeS,List.length_append];exact hl) (Nat.zero_le _) (by
   rw [List.filter_append,zeS,hr,List.filter_eq_nil_iff.2 (fun x hx=>by
    have:=zfP ht x hx
    simp [zgB this])]
   simp)
  simpa using this
 have hid:∀x,x<B+rs.length→zdy B (List.range' B rs.length) x=some x:=fun x hx=>znq hx
 have hn:=zkm (hp:=zc1 B rs++old) (f:=zdy B (List.range' B rs.length)) rs.reverse B old (fun i hi=>hrow i (by simpa using hi));rw [List.length_reverse] at hn;simp only [zC,hseen,zjY,ziu hid ho,hn,zly,List.length_range']
 rw [zgF (n:=B) (fun x hx=>hid x (by omega)) ht]
theorem zku {B b n:Nat} (hb:b≤B):∀{H:Hp},zkX b n H→∀x,x∈za7 B H→x<n
 | [],_,x,hx=>by simp [za7] at hx
 | (id,o)::r,h,x,hx=>by
  rw [za7,zgB (by have:=h.1;omega),cond_true,List.mem_append] at hx;exact hx.elim (zor h.2.1 x) (zku hb h.2.2 x)
theorem ziW {live:List Nat} {tm:Env} {B ct:Nat} {old:Hp} (ht:zdZ B (keep tm live)) (ho:zkX B B old) (hl:(zcF (keep tm live)).length+(za7 B old).length<100000):
  zC live ⟨tm,old,ct,B⟩=⟨keep tm live,old,B,B⟩:=by
 have:=zmu (rs:=[]) (ct:=ct) ht (by simpa using ho) hl (by
  rw [List.filter_eq_nil_iff.2 (fun x hx=>by have:=zku (Nat.le_refl B) ho x hx;simp [zgB this])]
  rfl)
 simpa [zc1] using this
end VE
end
section
namespace VE
open Go (IntKind)
section
variable {P:zU} {L:Lib}
theorem zrk {n:Nat} {F:Fnc} (h:Has P L n F) {hp:Hp} {ct:Nat} {vals:List AV} {ex:Ex} {s:St} {v:AV} (hD:D P L F.body ⟨zai 0 vals,hp,ct,ct⟩=some (ex,s)) (he:ex= .normal∨ex= .ret) (hr:zax s F.res=some v):
  zbs P L (D P L) hp ct n vals=some (v,s.hp,s.ct):=by
 simp only [zbs,h.heap,h.code,hD];rcases he with rfl | rfl<;>simp only [hr]
mutual
theorem zbh {n:Nat}:∀{v:AV},zA v=true→zc3 n v
 | .int _ _,_ | .bool _,_ | .flt _ _,_ | .str _,_ | .nilp,_ | .vptr _,_ | .nils,_ | .vsl _ _ _,_ | .nilf,_ | .nilm,_ | .vmap _ _,_ | .undef,_=>trivial
 | .fsl _ _ _ _,_=>trivial
 | .ptr _ _,h | .osl _ _ _,h | .map _,h | .it _,h=>by simp [zA] at h
 | .fn (.y _) _ _,h=>by simp [zA] at h
 | .fn (.f _) _ _,h=>by
  simp only [zA,Bool.and_eq_true] at h;exact ⟨zdx h.1,zdx h.2⟩
 | .agg cs,h=>by simp only [zA] at h;simp only [zc3];exact zdx h
 | .tup cs,h=>by simp only [zA] at h;simp only [zc3];exact zdx h
theorem zdx {n:Nat}:∀{vs:List AV},zp vs=true→zd2 n vs
 | [],_=>trivial
 | _::_,h=>by
  simp only [zp,Bool.and_eq_true] at h;exact ⟨zbh h.1,zdx h.2⟩
end
end
end VE
end
