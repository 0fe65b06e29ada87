import Derived.Test.YtlkgmaenobiooaaGreatDoorTar
import Derived.Test.YtlkgmaenobiooaaGreatDoorTah
set_option linter.all false
set_option maxRecDepth 100000
open Bool renaming and_eq_true→yg,and_self→we,false_and→wg,false_eq_true→yE
open Int renaming reduceEq→tj
open List renaming append_assoc→xD,append_nil→wG,cons_append→xk,drop→wK,drop_drop→vG,drop_eq_getElem_cons→yX,drop_left'→td,drop_zero→ye,filter_cons→yaK,filter_eq_nil_iff→tP,length_cons→yx,length_drop→wm,length_nil→yJ,length_pos_iff→uT,length_reverse→yaj,length_take→yR,map_append→xR,mem_append→wI,mem_singleton→wY,nil_append→xZ,range'→wa,range'_succ→vN,replicate→yF,reverse_cons→yay,set_append_right→tW,take_append_drop→xS,take_of_length_le→yK
open Nat renaming add_comm→yaR,add_mul→wL,add_sub_cancel→tz,add_zero→yW,beq_refl→vj,ble_eq_true_of_le→yy,blt→yL,div_add_mod→xM,div_eq_of_lt→wj,div_le_self→wV,div_lt_iff_lt_mul→wi,eq_zero_or_pos→xj,le_refl→yA,le_trans→yS,lt_of_le_of_lt→xL,lt_of_lt_of_le→yO,min_eq_left→xP,mod_add_div→yaV,mod_eq_of_lt→yP,mod_lt→xr,mul_add→xz,mul_add_div→tn,mul_add_mod→tp,mul_assoc→xo,mul_comm→xB,mul_div_mul_right→uo,mul_le_mul→ve,mul_le_mul_left→yT,mul_le_mul_right→yY,mul_lt_mul_of_pos_right→wJ,mul_mod_mul_right→vB,mul_one→yj,mul_zero→xG,or_comm→ybW,pos_of_ne_zero→tB,pow_add→xO,pow_le_pow_right→xx,pow_succ→xh,pow_zero→ybO,reduceAdd→yb,reduceEqDiff→ya,reduceLT→yr,reduceLeDiff→yi,reduceMul→xT,two_pow_pos→wB,zero_add→yd,zero_le→uF,zero_mul→tV
namespace VE
section
open Go (IntKind)
section
variable {P:aJ} {L:Lib} {f:cN}
def aAW {y s v1 v2 u u2 z:Nat} (hy:y=v1*4294967296+v2) (dM:v2<4294967296) (II:0<v1) (fg:v1<4294967296) (hu:u<y) (Bn:u2<4294967296):
  ∀k st,(∃q r:Nat,bS [2,8,9,10,14,15,16,17,18] st=⟨[(2,uc y),(8,uc s),(9,uc v1),(10,uc v2),(14,uc u2),(15,uc z),(16,uc r),(17,uc u),(18,uc q)],[],0,0⟩/\q*v1+r=u/\r<4294967296/\(u*4294967296+u2)/y<=q/\q=k)->
   ∃ex st',D P L (.loop [2,8,9,10,14,15,16,17,18] Cc) st=some (ex,st')/\∃tm ct,st'=⟨tm,[],ct,0⟩/\ex= .exit 2/\ak tm 2=uc y/\ak tm 8=uc s/\ak tm 9=uc v1/\ak tm 10=uc v2/\ak tm 14=uc u2/\ak tm 15=uc z/\ak tm 17=uc u/\ak tm 18=uc ((u*4294967296+u2)/y):=by
 refine cR (I:=fun k st=>∃q r:Nat,st=⟨[(2,uc y),(8,uc s),(9,uc v1),(10,uc v2),(14,uc u2),(15,uc z),(16,uc r),(17,uc u),(18,uc q)],[],0,0⟩/\q*v1+r=u/\r<4294967296/\(u*4294967296+u2)/y<=q/\q=k)
  (Q:=fun ex st'=>∃tm ct,st'=⟨tm,[],ct,0⟩/\ex= .exit 2/\ak tm 2=uc y/\ak tm 8=uc s/\ak tm 9=uc v1/\ak tm 10=uc v2/\ak tm 14=uc u2/\ak tm 15=uc z/\ak tm 17=uc u/\ak tm 18=uc ((u*4294967296+u2)/y)) ?_
 rintro k st ⟨q,r,rfl,hq,hr,hQ,rfl⟩;obtain ⟨g1,g2⟩:=aer hy dM II fg hu Bn hq hr hQ;have hqb:q*1<=q*v1:=yT q II;have aDV:=yY 4294967296 (show v1<=4294967295 by omega);have oY:q<18446744073709551616:=by omega
 have hbr:=yT 4294967296 (show r<=4294967295 by omega);have e1:=p7 4294967296 r;rw [show uc 4294967296=AV.int .u64 4294967296 from rfl,yP (show 4294967296*r<18446744073709551616 by omega)] at e1;have e2:=Cq (4294967296*r) u2;rw [yP (show 4294967296*r+u2<18446744073709551616 by omega)] at e2;have e4:=Cq r v1;rw [yP (show r+v1<18446744073709551616 by omega)] at e4;by_cases hc:4294967296<=q\/4294967296*r+u2<q*v2
 ·obtain ⟨h0,h1,h2,h3⟩:=g1 hc;have e3:binOp .sub (uc q) (.int .u64 1)=some (uc (q-1)):=EZ (b:=1) (by omega) (by omega);by_cases hb:4294967296<=r+v1
  ·right
   have Bp:=h3 hb;rcases (show 4294967296<=q\/(¬4294967296<=q/\4294967296*r+u2<q*v2) by omega) with t1 | ⟨t1,t2⟩
   ·simp only [go_sem,ya,Cc,show (4294967296:Int)<=(q:Int) by omega,e3,e4,show (4294967296:Int)<=((r+v1:Nat):Int) by omega];exact ⟨_,_,rfl,by simp,_,_,rfl,rfl,by simp only [go_sem,ya],by simp only [go_sem,ya],by simp only [go_sem,ya],by simp only [go_sem,ya],by simp only [go_sem,ya],by simp only [go_sem,ya],by simp only [go_sem,ya],by rw [Bp];simp only [go_sem,ya]⟩
   ·have hqv:=ve (show q<=4294967295 by omega) (show v2<=4294967295 by omega);have e5:=p7 q v2;rw [yP (show q*v2<18446744073709551616 by omega)] at e5;simp only [go_sem,ya,Cc,show ¬(4294967296:Int)<=(q:Int) by omega,e5,e1,e2,show ((4294967296*r+u2:Nat):Int)<((q*v2:Nat):Int) by omega,e3,e4,show (4294967296:Int)<=((r+v1:Nat):Int) by omega];exact ⟨_,_,rfl,by simp,_,_,rfl,rfl,by simp only [go_sem,ya],by simp only [go_sem,ya],by simp only [go_sem,ya],by simp only [go_sem,ya],by simp only [go_sem,ya],by simp only [go_sem,ya],by simp only [go_sem,ya],by rw [Bp];simp only [go_sem,ya]⟩
  ·left
   rcases (show 4294967296<=q\/(¬4294967296<=q/\4294967296*r+u2<q*v2) by omega) with t1 | ⟨t1,t2⟩
   ·simp only [go_sem,ya,Cc,show (4294967296:Int)<=(q:Int) by omega,e3,e4,show ¬(4294967296:Int)<=((r+v1:Nat):Int) by omega];exact ⟨_,q-1,rfl,by omega,q-1,r+v1,by simp only [go_sem,ya,aH],h1,by omega,h2,rfl⟩
   ·have hqv:=ve (show q<=4294967295 by omega) (show v2<=4294967295 by omega);have e5:=p7 q v2;rw [yP (show q*v2<18446744073709551616 by omega)] at e5;simp only [go_sem,ya,Cc,show ¬(4294967296:Int)<=(q:Int) by omega,e5,e1,e2,show ((4294967296*r+u2:Nat):Int)<((q*v2:Nat):Int) by omega,e3,e4,show ¬(4294967296:Int)<=((r+v1:Nat):Int) by omega];exact ⟨_,q-1,rfl,by omega,q-1,r+v1,by simp only [go_sem,ya,aH],h1,by omega,h2,rfl⟩
 ·right
  have Bp:=g2 (by omega) (by omega);have e5:=p7 q v2;rw [yP (show q*v2<18446744073709551616 by omega)] at e5;simp only [go_sem,ya,Cc,show ¬(4294967296:Int)<=(q:Int) by omega,e5,e1,e2,show ¬((4294967296*r+u2:Nat):Int)<((q*v2:Nat):Int) by omega];exact ⟨_,_,rfl,by simp,_,_,rfl,rfl,by simp only [go_sem,ya],by simp only [go_sem,ya],by simp only [go_sem,ya],by simp only [go_sem,ya],by simp only [go_sem,ya],by simp only [go_sem,ya],by simp only [go_sem,ya],by rw [Bp];simp only [go_sem,ya]⟩
def alH (a:Nat):binOp .shr (.int .u64 (a:Int)) (.int .u64 32)=some (uc (a/4294967296)):=ME .u64 a (s:=32) (by decide)
def ang (a:Nat) {b:Nat} (ha:a<18446744073709551616) (hb:0<b):binOp .quo (uc a) (uc b)=some (uc (a/b)):=by
 rw [fq _ _ _ (by omega),Int.tdiv_eq_ediv_of_nonneg (by omega),<-Int.natCast_ediv,wrapM,yP];exact xL (wV a b) ha
def aDW (a:Nat) {b:Nat} (hb:0<b):binOp .rem (uc a) (uc b)=some (uc (a%b)):=by
 rw [gF _ _ _ (by omega),Int.tmod_eq_emod_of_nonneg (by omega),<-Int.natCast_emod]
def atb {hi lo y s u z Y:Nat} (hs:s<64) (a8:lo<18446744073709551616) (hY:Y=y*2^s) (hu:u=hi*2^s+lo/2^(64-s)) (hz:z=lo*2^s%18446744073709551616):
  (hi*18446744073709551616+lo)*2^s=u*18446744073709551616+z:=by
 have e:18446744073709551616=2^(64-s)*2^s:=by rw [<-xO,show 64-s+s=64 by omega]
 have h1:lo*2^s/18446744073709551616=lo/2^(64-s):=by
  rw [e,uo _ _ (wB s)]
 grind
def afH {Y q a b:Nat} (h1:a<Y) (h2:b<4294967296) (h3:q=(a*4294967296+b)/Y):q<4294967296:=by
 rw [h3];exact (wi (by omega)).2 (by omega)
def avg {u w x z z0 z1 q0 q1 Y:Nat} (kP:q1*Y+w=u*4294967296+z1) (gS:q0*Y+x=w*4294967296+z0) (hz:z=z1*4294967296+z0):u*18446744073709551616+z=(q1*4294967296+q0)*Y+x:=by grind
def arz {q1 q0:Nat} (h1:q1<4294967296) (h0:q0<4294967296):q1*4294967296<18446744073709551616/\q1*4294967296+q0<18446744073709551616:=by omega
def anh (h:Has P L 165 LV) (MF:L.pure 167=some GY) {hi lo y:Nat} (fB:hi<y) (a8:lo<18446744073709551616) (hy:y<18446744073709551616):
  ai P L 165 [uc hi,uc lo,uc y] (.af [uc ((hi*18446744073709551616+lo)/y),uc ((hi*18446744073709551616+lo)%y)]):=by
 have gD:0<y:=by omega
 by_cases h0:hi=0
 ·subst h0;have e1:=ang lo a8 gD;have e2:=aDW lo gD;rw [tV,yd];unfold ai;rw [ax h];simp only [go_sem,ya,LV,show ¬(y:Int)=0 by omega,show ¬(y:Int)<=0 by omega,show ((0:Nat):Int)=0 from rfl,e1,e2];rfl
 ·obtain ⟨s,hs⟩:∃s,s=64-eU 64 y:=⟨_,rfl⟩;have hl:=akV (P:=P) (f:=D P L) MF hy;obtain ⟨l1,l2,l3⟩:=Vj gD hy;rw [<-hs] at hl l1 l2 l3;obtain ⟨Y,hY⟩:∃Y,Y=y*2^s:=⟨_,rfl⟩;obtain ⟨u,hu⟩:∃u,u=hi*2^s+lo/2^(64-s):=⟨_,rfl⟩;obtain ⟨z,hz⟩:∃z,z=lo*2^s%18446744073709551616:=⟨_,rfl⟩;have hdiv:=atb l1 a8 hY hu hz;rw [<-hY] at l2 l3;have hp:=wB s;obtain ⟨v1,fg⟩:∃v,v=Y/4294967296:=⟨_,rfl⟩;obtain ⟨v2,dM⟩:∃v,v=Y%4294967296:=⟨_,rfl⟩;have hYv:Y=v1*4294967296+v2:=by omega
  obtain ⟨z1,mT⟩:∃v,v=z/4294967296:=⟨_,rfl⟩;obtain ⟨z0,mo⟩:∃v,v=z%4294967296:=⟨_,rfl⟩;have IJ:z<18446744073709551616:=by omega
  have hhY:hi*2^s<Y:=by rw [hY];exact wJ fB hp
  have lF:lo/2^(64-s)<2^s:=by
   refine (wi (wB _)).2 ?_;rw [<-xO,show s+(64-s)=64 by omega];exact a8
  have oT:hi*2^s|||lo/2^(64-s)=u:=by rw [V5 lF,hu]
  have hN:hi*18446744073709551616+lo<y*18446744073709551616:=by
   have:=yY 18446744073709551616 (show hi+1<=y from fB)
   omega
  have huY:u<Y:=by
   have h1:=wJ hN hp;rw [hdiv,Nat.mul_right_comm,<-hY] at h1;omega
  obtain ⟨q1,fJ⟩:∃q,q=(u*4294967296+z1)/Y:=⟨_,rfl⟩;obtain ⟨w,hw⟩:∃q,q=(u*4294967296+z1)%Y:=⟨_,rfl⟩;obtain ⟨q0,Bo⟩:∃q,q=(w*4294967296+z0)/Y:=⟨_,rfl⟩;obtain ⟨x,hx⟩:∃q,q=(w*4294967296+z0)%Y:=⟨_,rfl⟩;have Tg:w<Y:=by rw [hw];exact xr _ (by omega)
  have hxY:x<Y:=by rw [hx];exact xr _ (by omega)
  have kP:=xM (u*4294967296+z1) Y;rw [<-fJ,<-hw,xB] at kP;have gS:=xM (w*4294967296+z0) Y;rw [<-Bo,<-hx,xB] at gS;have aDX:=afH huY (show z1<4294967296 by omega) fJ;have aDY:=afH Tg (show z0<4294967296 by omega) Bo;obtain ⟨td1,td2⟩:=arz aDX aDY;have R8:(hi*18446744073709551616+lo)*2^s=(q1*4294967296+q0)*Y+x:=by
   rw [hdiv];exact avg kP gS (by omega)
  have r1:(hi*18446744073709551616+lo)/y=q1*4294967296+q0:=by
   rw [<-uo _ _ hp,R8,<-hY,xB _ Y,tn (by omega),wj hxY,yW]
  have r2:x/2^s=(hi*18446744073709551616+lo)%y:=by
   have h1:x=(hi*18446744073709551616+lo)*2^s%(y*2^s):=by
    rw [R8,<-hY,xB _ Y,tp,yP hxY]
   rw [h1,vB,Nat.mul_div_cancel _ hp]
  have o1:=MD .u64 y (s:=s) (by omega);rw [<-hY,yP l3] at o1;have o2:=alH Y;rw [<-fg] at o2;have o3:=anf Y;rw [<-dM] at o3;have o4:=MD .u64 hi (s:=s) (by omega);rw [yP (show hi*2^s<18446744073709551616 by omega)] at o4;have o5:binOp .sub (.int .u64 64) (uc s)=some (uc (64-s)):=EZ (a:=64) (by omega) (by omega);have o6:=ME .u64 lo (s:=64-s) (by omega);have o7:=orU (a:=hi*2^s) (b:=lo/2^(64-s)) (by omega) (xL (wV _ _) a8);rw [oT] at o7;have o8:=MD .u64 lo (s:=s) (by omega);rw [<-hz] at o8;have o9:=alH z;rw [<-mT] at o9;have o10:=anf z;rw [<-mo] at o10;have HZ:0<v1:=by omega
  have alI:∀{a:Nat},a<Y->binOp .quo (uc a) (uc v1)=some (uc (a/v1))/\binOp .mul (uc (a/v1)) (uc v1)=some (uc (a/v1*v1))/\binOp .sub (uc a) (uc (a/v1*v1))=some (uc (a%v1)):=fun {a} ha=>by
   have h1:=xM a v1;rw [xB] at h1;have h2:=p7 (a/v1) v1;generalize a/v1*v1=m at*
   rw [yP (show m<18446744073709551616 by omega)] at h2;exact ⟨ang a (by omega) HZ,h2,EZ (by omega) (by omega)⟩
  obtain ⟨g1,g2,g3⟩:=alI huY;obtain ⟨g4,g5,g6⟩:=alI Tg;have first:∀{a b:Nat},b<4294967296->(a*4294967296+b)/Y<=a/v1:=fun {a b} hb=>by
   have:=Ud (b:=4294967296) (V:=Y) (v1:=v1) (v2:=v2) (vr:=0) (U:=a*4294967296+b) (u0:=0) (u1:=a) (u2:=b) (ur:=0) (p:=1) (by omega) (by omega) (by decide) hb HZ
   simpa using this
  have back:∀{a b q x:Nat},a*4294967296+b=q*Y+x->x<Y->binOp .mul (uc a) (.int .u64 4294967296)=some (uc (a*4294967296%18446744073709551616))/\binOp .add (uc (a*4294967296%18446744073709551616)) (uc b)=some (uc ((a*4294967296%18446744073709551616+b)%18446744073709551616))/\
    binOp .mul (uc q) (uc Y)=some (uc (q*Y%18446744073709551616))/\binOp .sub (uc ((a*4294967296%18446744073709551616+b)%18446744073709551616)) (uc (q*Y%18446744073709551616))=some (uc x):=fun {a b q x} h1 h2=>by
   refine ⟨p7 a 4294967296,Cq _ _,p7 q Y,EZ ?_ (by omega)⟩;generalize q*Y=m at*
   omega
  obtain ⟨k1,k2,k3,k4⟩:=back kP.symm Tg;obtain ⟨k5,k6,k7,k8⟩:=back gS.symm hxY;have m1:=p7 q1 4294967296;rw [yP td1,show uc 4294967296=AV.int .u64 4294967296 from rfl] at m1;have m2:=Cq (q1*4294967296) q0;rw [yP td2] at m2;have m3:=ME .u64 x (s:=s) (by omega);rw [r1,<-r2];unfold ai;rw [ax h];simp only [go_sem,ya,LV,show ¬(y:Int)=0 by omega,show ¬(y:Int)<=(hi:Int) by omega,show ¬(hi:Int)=0 by omega,hl,aCJ,yP (show s<18446744073709551616 by omega),o1,o2,o3,o4,o5,o6,o7,o8,o9,o10,g1,g2,g3];generalize mX:D P L (.loop [2,8,9,10,11,13,14,15,16] Cb) _=qq
  obtain ⟨ex,st,rfl,tm,ct,rfl,rfl,t2,t8,t9,t10,t11,t13,t14,t15⟩:=cG mX (aAV (P:=P) (L:=L) (s:=s) (z:=z0) hYv (by omega) HZ (by omega) huY (show z1<4294967296 by omega) (u/v1)) ⟨u/v1,u%v1,by simp only [go_sem,ya,aH],by rw [xB];exact xM u v1,by have:=xr u HZ;omega,first (by omega),rfl⟩
  rw [<-fJ] at t15;simp only [go_sem,ya,aH,t2,t8,t9,t10,t11,t13,t14,t15,k1,k2,k3,k4,g4,g5,g6];generalize E0:D P L (.loop [2,8,9,10,14,15,16,17,18] Cc) _=qq2;obtain ⟨ex,st,rfl,sZ,ct2,rfl,rfl,t2,t8,t9,t10,t14,t15,t17,t18⟩:=cG E0 (aAW (P:=P) (L:=L) (s:=s) (z:=q1) hYv (by omega) HZ (by omega) Tg (show z0<4294967296 by omega) (w/v1)) ⟨w/v1,w%v1,by simp only [go_sem,ya,aH],by rw [xB];exact xM w v1,by have:=xr w HZ;omega,first (by omega),rfl⟩
  rw [<-Bo] at t18;simp only [go_sem,ya,aH,t2,t8,t14,t15,t17,t18,m1,m2,k5,k6,k7,k8,m3];rfl
end
end
section
open Go (IntKind)
mutual
def below (n:Nat):AV->Prop
 | .ptr id _=>id<n
 | .ay id _ _=>id<n
 | .map id=>id<n
 | .it id=>id<n
 | .fn (.f _) first cap=>rm n first/\rm n cap
 | .fn (.y l) first cap=>l<n/\first=[]/\cap=[]
 | .agg cs=>rm n cs
 | .af cs=>rm n cs
 | _=>True
def rm (n:Nat):List AV->Prop
 | []=>True
 | v::r=>below n v/\rm n r
end
def rn (n:Nat):Env->Prop
 | []=>True
 | (_,v)::r=>below n v/\rn n r
def Eg (n:Nat):Obj->Prop
 | .cells _ pu _ _ cs=>pu=true\/rm n cs
 | .mp _ ks vs=>rm n ks/\rm n vs
 | .si _ _=>True
 | .lp tm _ _ _ _ _=>rn n tm
def Lj (b n:Nat):Hp->Prop
 | []=>True
 | (id,o)::r=>id<b/\Eg n o/\Lj b n r
mutual
def afI {f:Nat->Option Nat} {n:Nat} (hf:∀x,x<n->f x=some x):∀{v:AV},below n v->cy f v=v
 | .int _ _,_ | .bool _,_ | .b5 _ _,_ | .str _,_ | .lm,_ | .cz _,_ | .aa,_ | .ap _ _ _,_ | .jd,_ | .kD,_ | .jD _ _,_ | .undef,_ | .bV _ _ _ _,_=>rfl
 | .ptr id o,h=>by simp only [cy,hf id h]
 | .ay id o k,h=>by simp only [cy,hf id h]
 | .map id,h=>by simp only [cy,hf id h]
 | .it id,h=>by simp only [cy,hf id h]
 | .fn (.y l) first cap,h=>by
  obtain ⟨h1,rfl,rfl⟩:=h;simp only [cy,hf l h1,fN]
 | .fn (.f _) first cap,h=>by
  simp only [cy,BK hf h.1,BK hf h.2]
 | .agg cs,h=>by simp only [below] at h;simp only [cy,BK hf h]
 | .af cs,h=>by simp only [below] at h;simp only [cy,BK hf h]
def BK {f:Nat->Option Nat} {n:Nat} (hf:∀x,x<n->f x=some x):∀{vs:List AV},rm n vs->fN f vs=vs
 | [],_=>rfl
 | v::r,h=>by simp only [fN,afI hf h.1,BK hf h.2]
end
def Ut {f:Nat->Option Nat} {n:Nat} (hf:∀x,x<n->f x=some x):∀{tm:Env},rn n tm->lz f tm=tm
 | [],_=>rfl
 | (_,v)::r,h=>by simp only [lz,afI hf h.1,Ut hf h.2]
def arA {f:Nat->Option Nat} {n:Nat} (hf:∀x,x<n->f x=some x):∀{o:Obj},Eg n o->lW f o=o
 | .cells _ pu _ _ cs,h=>by
  cases pu with
  | true=>rfl
  | false=>simp only [Eg,yE,ybF] at h;simp only [lW,yM,BK hf h]
 | .mp _ ks vs,h=>by simp only [lW,BK hf h.1,BK hf h.2]
 | .si _ _,_=>rfl
 | .lp tm _ _ _ _ _,h=>by simp only [Eg] at h;simp only [lW,Ut hf h]
mutual
def aeZ {n:Nat}:∀{v:AV},below n v->∀x,x∈refs v->x<n
 | .int _ _,_,x,h | .bool _,_,x,h | .b5 _ _,_,x,h | .str _,_,x,h | .lm,_,x,h | .cz _,_,x,h | .aa,_,x,h | .ap _ _ _,_,x,h | .jd,_,x,h | .kD,_,x,h | .jD _ _,_,x,h | .undef,_,x,h | .bV _ _ _ _,_,x,h=>by simp [refs] at h
 | .ptr id o,h,x,hx=>by simp only [refs,wY] at hx;subst hx;exact h
 | .ay id o k,h,x,hx=>by simp only [refs,wY] at hx;subst hx;exact h
 | .map id,h,x,hx=>by simp only [refs,wY] at hx;subst hx;exact h
 | .it id,h,x,hx=>by simp only [refs,wY] at hx;subst hx;exact h
 | .fn (.y l) first cap,h,x,hx=>by simp only [refs,wY] at hx;subst hx;exact h.1
 | .fn (.f _) first cap,h,x,hx=>by
  simp only [refs,wI] at hx;exact hx.elim (BI h.1 x) (BI h.2 x)
 | .agg cs,h,x,hx=>by simp only [below] at h;simp only [refs] at hx;exact BI h x hx
 | .af cs,h,x,hx=>by simp only [below] at h;simp only [refs] at hx;exact BI h x hx
def BI {n:Nat}:∀{vs:List AV},rm n vs->∀x,x∈jB vs->x<n
 | [],_,x,h=>by simp [jB] at h
 | v::r,h,x,hx=>by
  simp only [jB,wI] at hx;exact hx.elim (aeZ h.1 x) (BI h.2 x)
end
def Ue {n:Nat}:∀{tm:Env},rn n tm->∀x,x∈jC tm->x<n
 | [],_,x,h=>by simp [jC] at h
 | (_,v)::r,h,x,hx=>by
  simp only [jC,wI] at hx;exact hx.elim (aeZ h.1 x) (Ue h.2 x)
def aqR {n:Nat}:∀{o:Obj},Eg n o->∀x,x∈pN o->x<n
 | .cells _ pu _ _ cs,h,x,hx=>by
  cases pu with
  | true=>simp [pN] at hx
  | false=>simp only [Eg,yE,ybF] at h;exact BI h x hx
 | .mp _ ks vs,h,x,hx=>by
  simp only [pN,wI] at hx;exact hx.elim (BI h.1 x) (BI h.2 x)
 | .si _ _,_,x,hx=>by simp [pN] at hx
 | .lp tm _ _ _ _ _,h,x,hx=>by simp only [Eg] at h;exact Ue h x hx
def kB (B:Nat):List (List AV)->Hp
 | []=>[]
 | cs::r=>(B+r.length,.cells true true true 1 cs)::kB B r
def Er (B:Nat):List (List AV)->Hp->Hp
 | [],acc=>acc
 | cs::r,acc=>Er (B+1) r ((B,.cells true true true 1 cs)::acc)
def ae0:∀(l:List (List AV)) (B:Nat) (x:List AV) (acc:Hp),Er B (l++[x]) acc=(B+l.length,.cells true true true 1 x)::Er B l acc
 | [],B,x,acc=>rfl
 | c::l,B,x,acc=>by
  simp only [xk,Er,ae0 l,yx]
  grind
def afJ (B:Nat) (acc:Hp):∀rs:List (List AV),Er B rs.reverse acc=kB B rs++acc
 | []=>rfl
 | c::r=>by
  simp only [yay,ae0,afJ B acc r,yaj,kB,xk]
def afK {B:Nat} {old:Hp}:∀{rs:List (List AV)} {i:Nat} (h:i<rs.length),aF (kB B rs++old) (B+i)=some (.cells true true true 1 (rs.reverse[i]'(by simpa using h)))
 | c::r,i,h=>by
  simp only [kB,xk,yay];by_cases hi:i=r.length
  ·subst hi;rw [aF,vj,yB]
   simp
  ·have aZ:i<r.length:=by grind
   rw [aF,ig (by omega),yM,afK aZ]
   grind
def Eh {a b:Nat} (h:a<b):yL a b=true:=by simp_all
def Lk {a b:Nat} (h:b<=a):yL a b=false:=by
 cases hq:yL a b with
 | false=>rfl
 | true=>have:=Nat.le_of_ble_eq_true hq;omega
def TZ {B:Nat} {old:Hp}:∀rs:List (List AV),ju B (kB B rs++old)=ju B old
 | []=>rfl
 | c::r=>by
  simp only [kB,xk];rw [ju,Lk (by omega),yM,TZ r]
def ae1 {B:Nat} {old:Hp} {f:Nat->Option Nat}:∀rs:List (List AV),mE B f (kB B rs++old)=mE B f old
 | []=>rfl
 | c::r=>by
  simp only [kB,xk];rw [mE,Lk (by omega),yM,ae1 r]
def aes {B n:Nat} {f:Nat->Option Nat} (hf:∀x,x<n->f x=some x):∀{old:Hp},Lj B n old->mE B f old=old
 | [],_=>rfl
 | (id,o)::r,h=>by
  rw [mE,Eh h.1,yB,arA hf h.2.1,aes hf h.2.2]
def arB {B s x:Nat} (h:B+s<=x):lX x (wa B s)=false:=by
 induction s generalizing B with
 | zero=>rfl
 | succ s ih=>rw [vN,lX,ig (by omega),yM,ih (by omega)]
def Uu {hp:Hp} {B R:Nat} (H4:∀i,i<R->∃rw ex sz cs,aF hp (B+i)=some (.cells rw true ex sz cs)):
  ∀(W:List Nat) (bk s:Nat),W.length<bk->s<=R->W.filter (fun x=> !yL x B)=wa (B+s) (R-s)->reach hp B bk W (wa B s)=wa B R
 | [],0,s,hf,_,_=>by simp at hf
 | [],bk+1,s,hf,hs,h=>by
  have:R-s=0:=by
   grind
  rw [reach,show R=s by omega]
 | id::W,0,s,hf,_,_=>by simp at hf
 | id::W,bk+1,s,hf,hs,h=>by
  have Da:W.length<bk:=by simp_all
  rw [reach];by_cases hid:id<B
  ·rw [Eh hid,Bool.true_or,yB];rw [yaK,Eh hid] at h;exact Uu H4 W bk s Da hs (by simpa using h)
  ·rw [yaK,Lk (by omega)] at h;have hRs:R-s=(R-s-1)+1:=by
    have:=congrArg List.length h
    grind
   rw [hRs,vN] at h;injection h with h1 h2
   subst h1;rw [Lk (by omega),Bool.false_or,arB (yA _),yM];obtain ⟨rw,ex,sz,cs,ho⟩:=H4 s (by omega);simp only [ho,pN,yB,xZ];have e:wa B s++[B+s]=wa B (s+1):=by rw [List.range'_concat];simp
   rw [e];exact Uu H4 W bk (s+1) Da (by omega) (by rw [h2,show R-s-1=R-(s+1) by omega,show B+s+1=B+(s+1) by omega])
def arC {B s i k:Nat} (h:i<s):mH (B+i) (wa B s) k=some (k+i):=by
 induction s generalizing B i k with
 | zero=>omega
 | succ s ih=>
  rw [vN,mH];by_cases hi:i=0
  ·simp_all
  ·rw [ig (by omega),yM]
   have:=ih (B:=B+1) (i:=i-1) (k:=k+1) (by omega)
   grind
def aqS {B R x:Nat} (h:x<B+R):lf B (wa B R) x=some x:=by
 unfold lf;by_cases hx:x<B
 ·rw [Eh hx,yB]
 ·rw [Lk (by omega),yM]
  have:=arC (B:=B) (s:=R) (i:=x-B) (k:=B) (by omega)
  grind
def ae2 {hp:Hp} {f:Nat->Option Nat}:∀(ro:List (List AV)) (B:Nat) (acc:Hp),(∀i (h:i<ro.length),aF hp (B+i)=some (.cells true true true 1 ro[i]))->lh hp f (wa B ro.length) B acc=Er B ro acc
 | [],B,acc,_=>rfl
 | c::r,B,acc,h=>by
  have h0:=h 0 (by simp);simp only [yW,List.getElem_cons_zero] at h0;rw [yx,vN,lh];simp only [h0,lW,yB,Er]
  exact ae2 r (B+1) _ (fun i hi=>by
   have:=h (i+1) (by simpa using hi)
   rw [show B+1+i=B+(i+1) by omega,this]
   simp)
def aqm {live:List Nat} {tm:Env} {B ct:Nat} {old:Hp} {rs:List (List AV)} (ht:rn B (eC tm live)) (ho:Lj B (B+rs.length) old) (hl:(jC (eC tm live)).length+(ju B old).length<100000)
  (hr:(ju B old).filter (fun x=> !yL x B)=wa B rs.length):bS live ⟨tm,kB B rs++old,ct,B⟩=⟨eC tm live,kB B rs++old,B+rs.length,B⟩:=by
 have H4:∀i (h:i<rs.length),aF (kB B rs++old) (B+i)=some (.cells true true true 1 (rs.reverse[i]'(by simpa using h))):=fun i h=>afK h
 have alm:reach (kB B rs++old) B 100000 (jC (eC tm live)++ju B (kB B rs++old)) []=wa B rs.length:=by
  have:=Uu (hp:=kB B rs++old) (B:=B) (R:=rs.length) (fun i hi=>⟨_,_,_,_,H4 i hi⟩) (jC (eC tm live)++ju B (kB B rs++old)) 100000 0 (by rw [TZ,List.length_append];exact hl) (uF _) (by
   rw [List.filter_append,TZ,hr,tP.2 (fun x hx=>by
    have:=Ue ht x hx
    simp [Eh this])]
   simp)
  grind
 have hid:∀x,x<B+rs.length->lf B (wa B rs.length) x=some x:=fun x hx=>aqS hx
 have hn:=ae2 (hp:=kB B rs++old) (f:=lf B (wa B rs.length)) rs.reverse B old (fun i hi=>H4 i (by simpa using hi));rw [yaj] at hn;simp only [bS,alm,ae1,aes hid ho,hn,afJ,List.length_range']
 rw [Ut (n:=B) (fun x hx=>hid x (by omega)) ht]
def ae3 {B b n:Nat} (hb:b<=B):∀{H:Hp},Lj b n H->∀x,x∈ju B H->x<n
 | [],_,x,hx=>by simp [ju] at hx
 | (id,o)::r,h,x,hx=>by
  rw [ju,Eh (by have:=h.1;omega),yB,wI] at hx;exact hx.elim (aqR h.2.1 x) (ae3 hb h.2.2 x)
def aet {live:List Nat} {tm:Env} {B ct:Nat} {old:Hp} (ht:rn B (eC tm live)) (ho:Lj B B old) (hl:(jC (eC tm live)).length+(ju B old).length<100000):
  bS live ⟨tm,old,ct,B⟩=⟨eC tm live,old,B,B⟩:=by
 have:=aqm (rs:=[]) (ct:=ct) ht (by simpa using ho) hl (by
  rw [tP.2 (fun x hx=>by have:=ae3 (yA B) ho x hx;simp [Eh this])]
  rfl)
 simpa [kB] using this
end
section
open Go (IntKind)
section
variable {P:aJ} {L:Lib}
def ajP {n:Nat} {F:aI} (h:Has P L n F) {hp:Hp} {ct:Nat} {av:List AV} {ex:Ex} {s:St} {v:AV} (hD:D P L F.body ⟨fL 0 av,hp,ct,ct⟩=some (ex,s)) (he:ex= .normal\/ex= .ret) (hr:iX s F.dU=some v):
  ja P L (D P L) hp ct n av=some (v,s.hp,s.ct):=by
 simp only [ja,h.heap,h.code,hD]
 grind
mutual
def qX {n:Nat}:∀{v:AV},bg v=true->below n v
 | .int _ _,_ | .bool _,_ | .b5 _ _,_ | .str _,_ | .lm,_ | .cz _,_ | .aa,_ | .ap _ _ _,_ | .jd,_ | .kD,_ | .jD _ _,_ | .undef,_=>trivial
 | .bV _ _ _ _,_=>trivial
 | .ptr _ _,h | .ay _ _ _,h | .map _,h | .it _,h=>by simp [bg] at h
 | .fn (.y _) _ _,h=>by simp [bg] at h
 | .fn (.f _) _ _,h=>by
  simp only [bg,yg] at h;exact ⟨JZ h.1,JZ h.2⟩
 | .agg cs,h=>by simp only [bg] at h;simp only [below];exact JZ h
 | .af cs,h=>by simp only [bg] at h;simp only [below];exact JZ h
def JZ {n:Nat}:∀{vs:List AV},aO vs=true->rm n vs
 | [],_=>trivial
 | _::_,h=>by
  simp only [aO,yg] at h;exact ⟨qX h.1,JZ h.2⟩
end
end
end
section
open Go (IntKind)
section
variable {pre x post:List Nat} {i:Nat}
def pz:(pre++x++post).length=pre.length+x.length+post.length:=by grind
def DZ (h:i<x.length):(pre++x++post).getD (pre.length+i) 0=x.getD i 0:=by grind
def Pc (a:Nat) (h:i<x.length):(pre++x++post).set (pre.length+i) a=pre++x.set i a++post:=by simp_all
end
def mD (n:Nat) (k:IntKind) (a:Int):below n (.int k a)=True:=rfl
def nA (n id o k:Nat):below n (.ay id o k)=(id<n):=rfl
def mz (n:Nat):rn n []=True:=rfl
def mw (n i:Nat) (v:AV) (r:Env):rn n ((i,v)::r)=(below n v/\rn n r):=rfl
def q9 {live:List Nat} {tm:Env} {ct:Nat} {a b:List AV} (ht:rn 2 (eC tm live)) (hl:(jC (eC tm live)).length<100000):
  bS live ⟨tm,[(1,.cells true true true 1 a),(0,.cells true true true 1 b)],ct,2⟩=⟨eC tm live,[(1,.cells true true true 1 a),(0,.cells true true true 1 b)],2,2⟩:=
 aet ht ⟨by omega,.inl rfl,by omega,.inl rfl,trivial⟩ (by
  have:ju 2 [(1,Obj.cells true true true 1 a),(0,Obj.cells true true true 1 b)]=[]:=rfl
  rw [this,yJ,yW];exact hl)
section
variable {P:aJ} {L:Lib}
def arD {x s c:Nat} (hs:s<64) (hx:x<18446744073709551616) (hc:c<2^s):
  c|||(x*2^s%18446744073709551616)<18446744073709551616/\c<18446744073709551616/\x/2^(64-s)<2^s/\(c|||(x*2^s%18446744073709551616))+18446744073709551616*(x/2^(64-s))=x*2^s+c:=by
 have e:18446744073709551616=2^(64-s)*2^s:=by rw [<-xO,show 64-s+s=64 by omega]
 have h1:x*2^s%18446744073709551616=(x%2^(64-s))*2^s:=by rw [e,vB]
 have h2:x/2^(64-s)<2^s:=by
  refine (wi (wB _)).2 ?_
  grind
 have h3:c|||(x*2^s%18446744073709551616)=(x%2^(64-s))*2^s+c:=by rw [h1,ybW,V5 hc]
 have h4:(x%2^(64-s))*2^s+c<18446744073709551616:=by
  have:=yY (2^s) (show x%2^(64-s)+1<=2^(64-s) from xr _ (wB _))
  grind
 have h5:=yaV x (2^(64-s))
 grind
def aAX {v:AV} {w:List Nat} (hv:bO v w) (hw:lo 18446744073709551616 w) (lw:w.length<=99999999999) {s n:Nat} (hs:s<64) (hn:n=w.length+1):
  ∀k st,(∃(i:Nat) (out:List Nat),bS [1,5,12,13,14] st=⟨[(1,ab s),(5,.ay 0 0 n),(12,v),(13,ab w.length),(14,ab i)],[(0,.cells true true true 1 (out.map uc))],1,0⟩/\i+k=w.length/\out.length=n/\lo 18446744073709551616 out/\bv 18446744073709551616 out=bv 18446744073709551616 (w.take i)*2^s/\out.getD i 0<2^s/\(∀m,i<m->out.getD m 0=0))->
   ∃ex st',D P L (.loop [1,5,12,13,14] Gz) st=some (ex,st')/\∃tm out,st'=⟨tm,[(0,.cells true true true 1 (out.map uc))],1,0⟩/\ex= .exit 0/\ak tm 5= .ay 0 0 n/\out.length=n/\lo 18446744073709551616 out/\bv 18446744073709551616 out=bv 18446744073709551616 w*2^s:=by
 refine cR (I:=fun k st=>∃(i:Nat) (out:List Nat),st=⟨[(1,ab s),(5,.ay 0 0 n),(12,v),(13,ab w.length),(14,ab i)],[(0,.cells true true true 1 (out.map uc))],1,0⟩/\i+k=w.length/\out.length=n/\lo 18446744073709551616 out/\bv 18446744073709551616 out=bv 18446744073709551616 (w.take i)*2^s/\out.getD i 0<2^s/\(∀m,i<m->out.getD m 0=0))
  (Q:=fun ex st'=>∃tm out,st'=⟨tm,[(0,.cells true true true 1 (out.map uc))],1,0⟩/\ex= .exit 0/\ak tm 5= .ay 0 0 n/\out.length=n/\lo 18446744073709551616 out/\bv 18446744073709551616 out=bv 18446744073709551616 w*2^s) ?_
 rintro k st ⟨i,out,rfl,hk,hlen,a8,aM,hc,fB⟩;by_cases hi:i<w.length
 ·left
  have gx:=gI (show 0<18446744073709551616 by decide) hw i;have ex:=hv.bz hi;have ec:=Ak (l:=out) (o:=i) (by omega);have bf:=ow (b:=18446744073709551616) (l:=out) (i:=i) (x:=out.getD i 0|||(w.getD i 0*2^s%18446744073709551616)) (by omega);have hz:out.getD (i+1) 0=0:=fB _ (by omega);have eX:=jw (b:=18446744073709551616) (l:=w) i;generalize out.getD i 0=c at*
  generalize w.getD i 0=x at*
  obtain ⟨s1,s2,s3,s4⟩:=arD hs gx hc;have o1:=MD .i64 x (s:=s) (by omega);have o2:=orU s2 (xr (x*2^s) (by decide));have o3:binOp .sub (.int .i64 64) (ab s)=some (ab (64-s:Nat)):=by
   rw [O9,wrap64 (by omega) (by omega)];congr 2;omega
  have o4:=ME .i64 x (s:=64-s) (by omega);generalize qP:c|||(x*2^s%18446744073709551616)=c' at*
  by_cases h0:0<s
  ·have P1:=ow (b:=18446744073709551616) (l:=out.set i c') (i:=i+1) (x:=x/2^(64-s)) (by simp;omega);rw [py (by omega),hz,xG,yW] at P1;have aDZ:x/2^(64-s)<18446744073709551616:=xL (wV _ _) gx;generalize x/2^(64-s)=y at*
   simp only [go_sem,ya,yj,Gz,show (i:Int)<w.length by omega,ex,dD 0 0 (show i<n by omega),yd,ec,o1,o2,kU (l:=out) (o:=i) (by omega),show (0:Int)<(s:Int) by omega,show (i:Int)+1=((i+1:Nat):Int) from rfl,wrapN (n:=i+1) (by omega),o3,o4,dD 0 0 (show i+1<n by omega),kU (l:=out.set i c') (o:=i+1) (by simp;omega)];refine ⟨_,k-1,rfl,by omega,i+1,(out.set i c').set (i+1) y,by simp only [go_sem,ya,yb,aH,aR hv.pu,aW _ hv.pu]<;>rfl,by omega,by simp [hlen],mC (mC a8 s1) aDZ,?_,by rw [arc (by simp;omega)];exact s3,fun m hm=>by rw [py (by omega),py (by omega)];exact fB m (by omega)⟩
   rw [eX,wL,P1,<-aM,xh,xo,xo (18446744073709551616^i)];have e:=congrArg (fun t=>18446744073709551616^i*t) s4;simp only [xz] at e;generalize 18446744073709551616^i*(18446744073709551616*y)=p1 at*
   generalize 18446744073709551616^i*(x*2^s)=p2 at*
   generalize 18446744073709551616^i*c'=p3 at*
   omega
  ·have A9:s=0:=by omega
   subst A9;have lJ:c=0:=by simpa using hc
   have Bq:x/2^(64-0)=0:=wj gx;rw [Bq,xG,yW,ybO,yj] at s4
   simp only [go_sem,ya,yj,Gz,show (i:Int)<w.length by omega,ex,dD 0 0 (show i<n by omega),yd,ec,o1,o2,kU (l:=out) (o:=i) (by omega),show ¬(0:Int)<((0:Nat):Int) by omega,show (i:Int)+1=((i+1:Nat):Int) from rfl,wrapN (n:=i+1) (by omega)];refine ⟨_,k-1,rfl,by omega,i+1,out.set i c',by simp only [go_sem,ya,yb,aH,aR hv.pu,aW _ hv.pu]<;>rfl,by omega,by simp [hlen],mC a8 s1,?_,by rw [py (by omega),hz];exact wB _,fun m hm=>by rw [py (by omega)];exact fB m (by omega)⟩
   rw [ybO,yj] at aM ⊢;rw [eX,<-aM];rw [lJ,xG,yW] at bf;rw [bf,s4,lJ,yW]
 ·right
  have:i=w.length:=by omega
  subst this;rw [List.take_length] at aM;simp only [go_sem,ya,Gz,show ¬(w.length:Int)<w.length by omega];exact ⟨_,_,rfl,by simp,_,out,rfl,rfl,by simp only [go_sem,ya],hlen,a8,aM⟩
def ani (h:Has P L 168 Qp) {v:AV} {w:List Nat} (hv:bO v w) (hw:lo 18446744073709551616 w) (lw:w.length<=99999999999) {s:Nat} (hs:s<64):
  ∃out,ai P L 168 [v,ab s] (.bV true 1 (w.length+1) (out.map uc))/\out.length=w.length+1/\lo 18446744073709551616 out/\bv 18446744073709551616 out=bv 18446744073709551616 w*2^s:=by
 obtain ⟨n,hn⟩:∃n,n=w.length+1:=⟨_,rfl⟩;unfold ai;rw [ax h]
 simp only [go_sem,ya,yb,Qp,hv.len,wrapN (n:=n) (by omega),show (w.length:Int)+1=((w.length+1:Nat):Int) from rfl,<-hn,EY (n:=n) _ (by omega)];generalize hq:D P L (.loop [1,5,12,13,14] Gz) _=q;obtain ⟨ex,st,rfl,tm,o,rfl,rfl,t5,hlen,a8,aM⟩:=cG hq (aAX (P:=P) (L:=L) hv hw lw hs hn w.length)
  ⟨0,yF n 0,by simp only [go_sem,ya,yb,aH,aR hv.pu,aW _ hv.pu]<;>rfl,by omega,by simp,GL (by decide) n,by rw [GM];simp [bv],by rw [DY];exact wB _,fun m _=>DY n m⟩
 refine ⟨o,?_,hlen,a8,aM⟩;simp only [go_sem,yb,aH,t5];exact Ur (ON _ _ _) (by simp [hlen]) (by decide)
end
end
section
open Go (IntKind)
abbrev H2 (a b:List Nat):Hp:=[(1,.cells true true true 1 (a.map uc)),(0,.cells true true true 1 (b.map uc))]
structure gh (x vs:List Nat) (n v1 v2 u0 u1 u2:Nat):Prop where
 n2:2<=n
 nb:n<=99999999999
 lx:x.length=n+1
 lv:vs.length=n
 gx:lo 18446744073709551616 x
 gv:lo 18446744073709551616 vs
 fg:vs.getD (n-1) 0=v1
 dM:vs.getD (n-2) 0=v2
 h0:x.getD n 0=u0
 h1:x.getD (n-1) 0=u1
 h2:x.getD (n-2) 0=u2
 pos:0<v1
 lt:bv 18446744073709551616 x<18446744073709551616*bv 18446744073709551616 vs
def aCK (b p a v1 v2:Nat):a+p*v2+p*b*v1=(v1*b+v2)*p+a:=by grind
def aCL (b p a v0 v1 v2:Nat):a+p*v2+p*b*v1+p*b*b*v0=((v0*b+v1)*b+v2)*p+a:=by grind
section
variable {x vs:List Nat} {n v1 v2 u0 u1 u2:Nat}
def gh.ND (h:gh x vs n v1 v2 u0 u1 u2):v1<18446744073709551616:=h.fg▸gI (by decide) h.gv _
def gh.FA (h:gh x vs n v1 v2 u0 u1 u2):v2<18446744073709551616:=h.dM▸gI (by decide) h.gv _
def gh.u0W (h:gh x vs n v1 v2 u0 u1 u2):u0<18446744073709551616:=h.h0▸gI (by decide) h.gx _
def gh.NE (h:gh x vs n v1 v2 u0 u1 u2):u1<18446744073709551616:=h.h1▸gI (by decide) h.gx _
def gh.NF (h:gh x vs n v1 v2 u0 u1 u2):u2<18446744073709551616:=h.h2▸gI (by decide) h.gx _
def gh.parts (h:gh x vs n v1 v2 u0 u1 u2):∃p vr ur,bv 18446744073709551616 vs=(v1*18446744073709551616+v2)*p+vr/\vr<p/\bv 18446744073709551616 x=((u0*18446744073709551616+u1)*18446744073709551616+u2)*p+ur/\ur<p:=by
 obtain ⟨m,hm⟩:∃m,n=m+2:=⟨n-2,by have:=h.n2;omega⟩;subst hm;have e1:=jw (b:=18446744073709551616) (l:=vs) (m+1);have e2:=jw (b:=18446744073709551616) (l:=vs) m;have f0:=jw (b:=18446744073709551616) (l:=x) (m+2);have f1:=jw (b:=18446744073709551616) (l:=x) (m+1);have f2:=jw (b:=18446744073709551616) (l:=x) m;have fg:vs.getD (m+1) 0=v1:=h.fg;have dM:vs.getD m 0=v2:=h.dM;have h0:x.getD (m+2) 0=u0:=h.h0;have h1:x.getD (m+1) 0=u1:=h.h1;have h2:x.getD m 0=u2:=h.h2
 rw [yK (by have:=h.lv;omega),fg,e2,dM] at e1
 rw [yK (by have:=h.lx;omega),h0,f1,h1,f2,h2] at f0;have g1:=mG (BX h.gv m)
 rw [yR,xP (by have:=h.lv;omega)] at g1;have g2:=mG (BX h.gx m)
 rw [yR,xP (by have:=h.lx;omega)] at g2;refine ⟨18446744073709551616^m,_,_,?_,g1,?_,g2⟩
 ·grind
 ·grind
def gh.down (h:gh x vs n v1 v2 u0 u1 u2) {t r:Nat} (ht:t*v1+r=u0*18446744073709551616+u1) (hr:r*18446744073709551616+u2<t*v2):bv 18446744073709551616 x/bv 18446744073709551616 vs<=t-1:=by
 obtain ⟨p,vr,ur,h1,h2,h3,h4⟩:=h.parts;exact aeU h1 h3 h4 ht hr
def gh.stop (h:gh x vs n v1 v2 u0 u1 u2) {t r:Nat} (kS:t<18446744073709551616) (ht:t*v1+r=u0*18446744073709551616+u1) (hr:18446744073709551616<=r\/t*v2<=r*18446744073709551616+u2):t<=bv 18446744073709551616 x/bv 18446744073709551616 vs+1:=by
 obtain ⟨p,vr,ur,h1,h2,h3,h4⟩:=h.parts;exact afC (by decide) h1 h2 h3 h.pos h.FA kS ht hr
def gh.first (h:gh x vs n v1 v2 u0 u1 u2):bv 18446744073709551616 x/bv 18446744073709551616 vs<=(u0*18446744073709551616+u1)/v1:=by
 obtain ⟨p,vr,ur,h1,h2,h3,h4⟩:=h.parts;exact Ud h1 h3 h4 h.NF h.pos
def gh.top (h:gh x vs n v1 v2 u0 u1 u2):u0<=v1:=by
 obtain ⟨p,vr,ur,h1,h2,h3,h4⟩:=h.parts;exact afD h1 h3 h2 h.FA h.lt
def gh.digit (h:gh x vs n v1 v2 u0 u1 u2):bv 18446744073709551616 x/bv 18446744073709551616 vs<18446744073709551616:=by
 refine (wi ?_).2 h.lt;rcases xj (bv 18446744073709551616 vs) with h0 | h0
 ·have:=h.lt;rw [h0] at this;simp at this
 ·exact h0
end
section
variable {P:aJ} {L:Lib}
def akX (mO:L.pure 143=some sr) (gO:L.pure 171=some ol) {w:AV} {x vs pre post qs:List Nat} (hw:bO w vs) {n v1 v2 u0 u1 u2:Nat} (hl:gh x vs n v1 v2 u0 u1 u2):
  ∀k s,(∃q r:Nat,bS [0,1,5,6,7,8] s=⟨[(0,.ay 0 pre.length (n+1)),(1,w),(5,ab n),(6,uc q),(7,uc (r%18446744073709551616)),(8,uc (r/18446744073709551616))],H2 qs (pre++x++post),2,2⟩/\q*v1+r=u0*18446744073709551616+u1/\r<2*18446744073709551616/\q<18446744073709551616/\bv 18446744073709551616 x/bv 18446744073709551616 vs<=q/\q=k)->
   ∃ex s',D P L (.loop [0,1,5,6,7,8] Ac) s=some (ex,s')/\∃tm q,s'=⟨tm,H2 qs (pre++x++post),2,2⟩/\ex= .exit 0/\ak tm 0= .ay 0 pre.length (n+1)/\ak tm 1=w/\ak tm 5=ab n/\ak tm 6=uc q/\q<18446744073709551616/\bv 18446744073709551616 x/bv 18446744073709551616 vs<=q/\q<=bv 18446744073709551616 x/bv 18446744073709551616 vs+1:=by
 refine cR (I:=fun k s=>∃q r:Nat,s=⟨[(0,.ay 0 pre.length (n+1)),(1,w),(5,ab n),(6,uc q),(7,uc (r%18446744073709551616)),(8,uc (r/18446744073709551616))],H2 qs (pre++x++post),2,2⟩/\q*v1+r=u0*18446744073709551616+u1/\r<2*18446744073709551616/\q<18446744073709551616/\bv 18446744073709551616 x/bv 18446744073709551616 vs<=q/\q=k)
  (Q:=fun ex s'=>∃tm q,s'=⟨tm,H2 qs (pre++x++post),2,2⟩/\ex= .exit 0/\ak tm 0= .ay 0 pre.length (n+1)/\ak tm 1=w/\ak tm 5=ab n/\ak tm 6=uc q/\q<18446744073709551616/\bv 18446744073709551616 x/bv 18446744073709551616 vs<=q/\q<=bv 18446744073709551616 x/bv 18446744073709551616 vs+1) ?_
 rintro k s ⟨q,r,rfl,hq,hr,oY,hQ,rfl⟩;have eM:=hl.n2;have qI:=hl.nb;by_cases mi:r<18446744073709551616
 ·have IK:r%18446744073709551616=r:=yP mi;have Dp:r/18446744073709551616=0:=wj mi;rw [IK,Dp];have H5:=hl.ND;have abn:=hl.FA;have anj:=hl.NF;have qQ:=hw.bz (i:=n-2) (by have:=hl.lv;omega);have fh:=hw.bz (i:=n-1) (by have:=hl.lv;omega);rw [hl.dM] at qQ;rw [hl.fg] at fh;have zx:=Ak (l:=pre++x++post) (o:=pre.length+(n-2)) (by rw [pz];have:=hl.lx;omega)
  rw [DZ (by have:=hl.lx;omega),hl.h2] at zx;have f1:=PA (P:=P) (f:=D P L) mO oY abn;have f2:=Ef (P:=P) (f:=D P L) gO (x:=r) (y:=v1) (c:=0) mi H5 (by omega);rw [show (uc 0)=AV.int .u64 0 from rfl] at f2;have fK:=xM (q*v2) 18446744073709551616;have a8:=xr (q*v2) (show 0<18446744073709551616 by decide);obtain ⟨H,hH⟩:∃H,H=q*v2/18446744073709551616:=⟨_,rfl⟩;obtain ⟨G,hG⟩:∃G,G=q*v2%18446744073709551616:=⟨_,rfl⟩;rw [<-hH,<-hG] at f1 fK;rw [<-hG] at a8;have Br:(n:Int)-2=((n-2:Nat):Int):=by omega
  have qR:(n:Int)-1=((n-1:Nat):Int):=by omega
  by_cases c1:H<r
  ·right
   simp only [go_sem,ya,Ac,H2,show ((0:Nat):Int)=0 from rfl,Br,wrapN (n:=n-2) (by omega),qQ,f1,show (H:Int)<(r:Int) by omega];exact ⟨_,_,rfl,by simp,_,q,rfl,rfl,by simp only [go_sem,ya],by simp only [go_sem,ya],by simp only [go_sem,ya],by simp only [go_sem,ya],oY,hQ,hl.stop oY hq (.inr (by omega))⟩
  ·by_cases c2:H=r/\G<=u2
   ·right
    obtain ⟨c2,c3⟩:=c2
    simp only [go_sem,ya,Ac,H2,show ((0:Nat):Int)=0 from rfl,Br,wrapN (n:=n-2) (by omega),qQ,f1,show (H:Int)=(r:Int) by omega];simp only [show ¬(r:Int)<(r:Int) by omega,yk]
    simp only [go_sem,ya,yj,Br,wrapN (n:=n-2) (by omega),dD 0 pre.length (show n-2<n+1 by omega),zx,show (G:Int)<=(u2:Int) by omega];exact ⟨_,_,rfl,by simp,_,q,rfl,rfl,by simp only [go_sem,ya],by simp only [go_sem,ya],by simp only [go_sem,ya],by simp only [go_sem,ya],oY,hQ,hl.stop oY hq (.inr (by omega))⟩
   ·left
    have Ix:r*18446744073709551616+u2<q*v2:=by omega
    have Bo:0<q:=by
     rcases xj q with h0 | h0
     ·subst h0;omega
     ·exact h0
    have e3:binOp .sub (uc q) (.int .u64 1)=some (uc (q-1)):=EZ (b:=1) (by omega) (by omega);have h1:(q-1)*v1+(r+v1)=u0*18446744073709551616+u1:=by
     obtain ⟨p,rfl⟩:∃p,q=p+1:=⟨q-1,by omega⟩;rw [wL,Nat.one_mul] at hq;rw [tz];omega
    have FB:=hl.down hq Ix;rw [yW] at f2;by_cases c3:H=r
    ·have c4:¬G<=u2:=fun h=>c2 ⟨c3,h⟩
     subst c3
     simp only [go_sem,ya,xT,yj,Ac,H2,show ((0:Nat):Int)=0 from rfl,Br,qR,wrapN (n:=n-2) (by omega),wrapN (n:=n-1) (by omega),qQ,fh,f1,f2,show ¬(H:Int)<(H:Int) by omega,dD 0 pre.length (show n-2<n+1 by omega),zx,show ¬(G:Int)<=(u2:Int) by omega,e3];refine ⟨_,q-1,rfl,by omega,q-1,H+v1,?_,h1,by omega,by omega,FB,rfl⟩;rw [q9 (by simp only [go_sem,ya,yr,mD,nA,mz,mw,qX hw.pu,wM]) (by simp only [go_sem,ya,yb,yr,aR hw.pu])];simp only [go_sem,ya]
    ·simp only [go_sem,ya,xT,Ac,H2,show ((0:Nat):Int)=0 from rfl,Br,qR,wrapN (n:=n-2) (by omega),wrapN (n:=n-1) (by omega),qQ,fh,f1,f2,show ¬(H:Int)<(r:Int) by omega,show ¬(H:Int)=(r:Int) by omega,e3];refine ⟨_,q-1,rfl,by omega,q-1,r+v1,?_,h1,by omega,by omega,FB,rfl⟩;rw [q9 (by simp only [go_sem,ya,yr,mD,nA,mz,mw,qX hw.pu,wM]) (by simp only [go_sem,ya,yb,yr,aR hw.pu])];simp only [go_sem,ya]
 ·right
  have Dp:r/18446744073709551616=1:=by omega
  rw [Dp];simp only [go_sem,ya,Ac,H2,show ((1:Nat):Int)=1 from rfl,tj];exact ⟨_,_,rfl,by simp,_,q,rfl,rfl,by simp only [go_sem,ya],by simp only [go_sem,ya],by simp only [go_sem,ya],by simp only [go_sem,ya],oY,hQ,hl.stop oY hq (.inl (by omega))⟩
end
end
section
open Go (IntKind)
def atc {b p x y z nY c bo Bs ca q v X Y:Nat} (h1:q*v+c=b*ca+nY) (h2:z+nY+bo=x+b*Bs) (h3:Y+q*X=y+p*(c+bo)) (W:Nat) (hW:W+p*x=Y+p*z):
  W+q*(X+p*v)=y+p*b*(ca+Bs):=by grind
def atd {q v c:Nat} (hq:q<18446744073709551616) (hv:v<18446744073709551616) (hc:c<18446744073709551616):
  q*v+c=18446744073709551616*(q*v/18446744073709551616+(q*v%18446744073709551616+c+0)/18446744073709551616)+(q*v%18446744073709551616+c+0)%18446744073709551616/\
  q*v/18446744073709551616+(q*v%18446744073709551616+c+0)/18446744073709551616<18446744073709551616:=by
 have h:=ve (show q<=18446744073709551615 by omega) (show v<=18446744073709551615 by omega)
 grind
section
variable {P:aJ} {L:Lib}
def aAY (mO:L.pure 143=some sr) (gO:L.pure 171=some ol) (sN:L.pure 173=some Ca) {w:AV} {x vs pre post qs:List Nat} (hw:bO w vs) {n:Nat} (qI:n<=99999999999) (lv:vs.length=n) (gv:lo 18446744073709551616 vs) {q:Nat} (hq:q<18446744073709551616):
  ∀k s,(∃(i c bo:Nat) (y:List Nat),bS [0,1,5,6,11,12,104,105] s=⟨[(0,.ay 0 pre.length (n+1)),(1,w),(5,ab n),(6,uc q),(11,uc bo),(12,uc c),(104,ab n),(105,ab i)],H2 qs (pre++y++post),2,2⟩/\i+k=n/\y.length=n+1/\lo 18446744073709551616 y/\c<18446744073709551616/\bo<=1/\
    bv 18446744073709551616 y+q*bv 18446744073709551616 (vs.take i)=bv 18446744073709551616 x+18446744073709551616^i*(c+bo))->
   ∃ex s',D P L (.loop [0,1,5,6,11,12,104,105] KW) s=some (ex,s')/\∃tm c bo y,s'=⟨tm,H2 qs (pre++y++post),2,2⟩/\ex= .exit 2/\ak tm 0= .ay 0 pre.length (n+1)/\ak tm 1=w/\ak tm 5=ab n/\ak tm 6=uc q/\ak tm 11=uc bo/\ak tm 12=uc c/\y.length=n+1/\lo 18446744073709551616 y/\c<18446744073709551616/\bo<=1/\
    bv 18446744073709551616 y+q*bv 18446744073709551616 vs=bv 18446744073709551616 x+18446744073709551616^n*(c+bo):=by
 refine cR (I:=fun k s=>∃(i c bo:Nat) (y:List Nat),s=⟨[(0,.ay 0 pre.length (n+1)),(1,w),(5,ab n),(6,uc q),(11,uc bo),(12,uc c),(104,ab n),(105,ab i)],H2 qs (pre++y++post),2,2⟩/\i+k=n/\y.length=n+1/\lo 18446744073709551616 y/\c<18446744073709551616/\bo<=1/\
    bv 18446744073709551616 y+q*bv 18446744073709551616 (vs.take i)=bv 18446744073709551616 x+18446744073709551616^i*(c+bo))
  (Q:=fun ex s'=>∃tm c bo y,s'=⟨tm,H2 qs (pre++y++post),2,2⟩/\ex= .exit 2/\ak tm 0= .ay 0 pre.length (n+1)/\ak tm 1=w/\ak tm 5=ab n/\ak tm 6=uc q/\ak tm 11=uc bo/\ak tm 12=uc c/\y.length=n+1/\lo 18446744073709551616 y/\c<18446744073709551616/\bo<=1/\
    bv 18446744073709551616 y+q*bv 18446744073709551616 vs=bv 18446744073709551616 x+18446744073709551616^n*(c+bo)) ?_
 rintro k s ⟨i,c,bo,y,rfl,hk,ly,gy,hc,jn,aM⟩;by_cases hi:i<n
 ·left
  have ej:(0:Nat)<18446744073709551616:=by decide
  have rR:=gI ej gv i;have qS:=gI ej gy i;have ev:=hw.bz (i:=i) (by omega);have ey:=Ak (l:=pre++y++post) (o:=pre.length+i) (by rw [pz];omega);rw [DZ (by omega)] at ey;have eX:=jw (b:=18446744073709551616) (l:=vs) i;obtain ⟨a,ha⟩:∃a,a=vs.getD i 0:=⟨_,rfl⟩;obtain ⟨d,hd⟩:∃d,d=y.getD i 0:=⟨_,rfl⟩;rw [<-ha] at rR ev eX;rw [<-hd] at qS ey;obtain ⟨m1,m2⟩:=atd hq rR hc;have f1:=PA (P:=P) (f:=D P L) mO hq rR;have f2:=Ef (P:=P) (f:=D P L) gO (x:=q*a%18446744073709551616) (y:=c) (c:=0) (xr _ ej) hc (by omega);obtain ⟨nY,ank⟩:∃t,t=(q*a%18446744073709551616+c+0)%18446744073709551616:=⟨_,rfl⟩;obtain ⟨c1,eN⟩:∃t,t=(q*a%18446744073709551616+c+0)/18446744073709551616:=⟨_,rfl⟩;have anl:nY<18446744073709551616:=by rw [ank];exact xr _ ej
  rw [<-ank,<-eN] at f2 m1;rw [<-eN] at m2;obtain ⟨h1,jj⟩:∃t,t=q*a/18446744073709551616:=⟨_,rfl⟩;rw [<-jj] at f1 m1 m2;rw [show (uc 0)=AV.int .u64 0 from rfl] at f2;have f3:=V4 (P:=P) (f:=D P L) sN qS anl jn;have gE:=Vi qS anl jn;obtain ⟨z,hz⟩:∃t,t=(d+18446744073709551616*2-nY-bo)%18446744073709551616:=⟨_,rfl⟩;obtain ⟨b',da⟩:∃t,t=(if nY+bo<=d then 0 else 1):=⟨_,rfl⟩;have kQ:b'<=1:=by rw [da];split<;>omega
  have IJ:z<18446744073709551616:=by rw [hz];exact xr _ ej
  rw [<-hz,<-da] at f3 gE;have f4:binOp .add (uc h1) (uc c1)=some (uc (h1+c1)):=by
   rw [Cq,yP m2]
  have bf:=ow (b:=18446744073709551616) (l:=y) (i:=i) (x:=z) (by omega);rw [<-hd] at bf;have aY:=fun (hp:Hp) (ct:Nat)=>kU (hp:=hp) (ct:=ct) (id:=0) (v:=z) (ex:=true) (l:=pre++y++post) (o:=pre.length+i) (by rw [pz];omega)
  have oI:=Pc (pre:=pre) (x:=y) (post:=post) (i:=i) z (by omega);simp only [go_sem,ya,yj,KW,H2,show (i:Int)<(n:Int) by omega,ev,f1,f2,f4,dD 0 pre.length (show i<n+1 by omega),ey,f3,aY,oI];refine ⟨_,k-1,rfl,by omega,i+1,h1+c1,b',y.set i z,?_,by omega,by simp [ly],mC gy IJ,m2,kQ,?_⟩
  ·rw [q9 (by simp only [go_sem,ya,yr,mD,nA,mz,mw,qX hw.pu,wM]) (by simp only [go_sem,ya,yb,yr,aR hw.pu])];rw [wrap64 (by omega) (by omega)];simp only [go_sem,ya]<;>rfl
  ·rw [eX,xh];exact atc m1 gE aM _ bf
 ·right
  have:i=n:=by omega
  subst this;rw [yK (by omega)] at aM;simp only [go_sem,ya,KW,H2,show ¬(i:Int)<(i:Int) by omega];exact ⟨_,_,rfl,by simp,_,c,bo,y,rfl,rfl,by simp only [go_sem,ya],by simp only [go_sem,ya],by simp only [go_sem,ya],by simp only [go_sem,ya],by simp only [go_sem,ya],by simp only [go_sem,ya],ly,gy,hc,jn,aM⟩
def aAZ (gO:L.pure 171=some ol) {w:AV} {y0 vs pre post qs:List Nat} (hw:bO w vs) {n:Nat} (qI:n<=99999999999) (lv:vs.length=n) (gv:lo 18446744073709551616 vs) {q:Nat}:
  ∀k s,(∃(i c:Nat) (y:List Nat),bS [0,1,5,6,17,156,157] s=⟨[(0,.ay 0 pre.length (n+1)),(1,w),(5,ab n),(6,uc q),(17,uc c),(156,ab n),(157,ab i)],H2 qs (pre++y++post),2,2⟩/\i+k=n/\y.length=n+1/\lo 18446744073709551616 y/\c<=1/\
    bv 18446744073709551616 y+18446744073709551616^i*c=bv 18446744073709551616 y0+bv 18446744073709551616 (vs.take i))->
   ∃ex s',D P L (.loop [0,1,5,6,17,156,157] KX) s=some (ex,s')/\∃tm c y,s'=⟨tm,H2 qs (pre++y++post),2,2⟩/\ex= .exit 4/\ak tm 0= .ay 0 pre.length (n+1)/\ak tm 5=ab n/\ak tm 6=uc q/\ak tm 17=uc c/\y.length=n+1/\lo 18446744073709551616 y/\c<=1/\
    bv 18446744073709551616 y+18446744073709551616^n*c=bv 18446744073709551616 y0+bv 18446744073709551616 vs:=by
 refine cR (I:=fun k s=>∃(i c:Nat) (y:List Nat),s=⟨[(0,.ay 0 pre.length (n+1)),(1,w),(5,ab n),(6,uc q),(17,uc c),(156,ab n),(157,ab i)],H2 qs (pre++y++post),2,2⟩/\i+k=n/\y.length=n+1/\lo 18446744073709551616 y/\c<=1/\
    bv 18446744073709551616 y+18446744073709551616^i*c=bv 18446744073709551616 y0+bv 18446744073709551616 (vs.take i))
  (Q:=fun ex s'=>∃tm c y,s'=⟨tm,H2 qs (pre++y++post),2,2⟩/\ex= .exit 4/\ak tm 0= .ay 0 pre.length (n+1)/\ak tm 5=ab n/\ak tm 6=uc q/\ak tm 17=uc c/\y.length=n+1/\lo 18446744073709551616 y/\c<=1/\
    bv 18446744073709551616 y+18446744073709551616^n*c=bv 18446744073709551616 y0+bv 18446744073709551616 vs) ?_
 rintro k s ⟨i,c,y,rfl,hk,ly,gy,hc,aM⟩;by_cases hi:i<n
 ·left
  have ej:(0:Nat)<18446744073709551616:=by decide
  have rR:=gI ej gv i;have qS:=gI ej gy i;have ev:=hw.bz (i:=i) (by omega);have ey:=Ak (l:=pre++y++post) (o:=pre.length+i) (by rw [pz];omega);rw [DZ (by omega)] at ey;have eX:=jw (b:=18446744073709551616) (l:=vs) i;obtain ⟨a,ha⟩:∃a,a=vs.getD i 0:=⟨_,rfl⟩;obtain ⟨d,hd⟩:∃d,d=y.getD i 0:=⟨_,rfl⟩;rw [<-ha] at rR ev eX;rw [<-hd] at qS ey;have f1:=Ef (P:=P) (f:=D P L) gO qS rR hc;have bf:=ow (b:=18446744073709551616) (l:=y) (i:=i) (x:=(d+a+c)%18446744073709551616) (by omega);rw [<-hd] at bf;have jm:=On (18446744073709551616^i) 18446744073709551616 (d+a+c);have qP:(d+a+c)/18446744073709551616<=1:=by omega
  have IJ:(d+a+c)%18446744073709551616<18446744073709551616:=xr _ ej;generalize (d+a+c)%18446744073709551616=z at*
  generalize (d+a+c)/18446744073709551616=c' at*
  have aY:=fun (hp:Hp) (ct:Nat)=>kU (hp:=hp) (ct:=ct) (id:=0) (v:=z) (ex:=true) (l:=pre++y++post) (o:=pre.length+i) (by rw [pz];omega)
  have oI:=Pc (pre:=pre) (x:=y) (post:=post) (i:=i) z (by omega);simp only [go_sem,ya,yj,KX,H2,show (i:Int)<(n:Int) by omega,ev,f1,dD 0 pre.length (show i<n+1 by omega),ey,aY,oI];refine ⟨_,k-1,rfl,by omega,i+1,c',y.set i z,?_,by omega,by simp [ly],mC gy IJ,qP,?_⟩
  ·rw [q9 (by simp only [go_sem,ya,yr,mD,nA,mz,mw,qX hw.pu,wM]) (by simp only [go_sem,ya,yb,yr,aR hw.pu])];rw [wrap64 (by omega) (by omega)];simp only [go_sem,ya]<;>rfl
  ·rw [eX,xh];rw [xz,xz] at jm;omega
 ·right
  have:i=n:=by omega
  subst this;rw [yK (by omega)] at aM;simp only [go_sem,ya,KX,H2,show ¬(i:Int)<(i:Int) by omega];exact ⟨_,_,rfl,by simp,_,c,y,rfl,rfl,by simp only [go_sem,ya],by simp only [go_sem,ya],by simp only [go_sem,ya],by simp only [go_sem,ya],ly,gy,hc,aM⟩
end
end
section
open Go (IntKind)
def step_end {A V q Y B bo:Nat} (hV:0<V) (h:Y+q*V=A+B*bo) (h1:A/V<=q) (h2:q<=A/V+1) (hY:Y<B) (hVB:V<=B) (jn:bo<=1):
  (bo=0->q=A/V/\Y=A%V)/\(bo=1->q=A/V+1/\Y+V=B+A%V):=by
 have fK:=xM A V;have hm:=xr A hV;generalize A/V=Q at*
 have hq:q=Q\/q=Q+1:=by omega
 constructor
 ·rintro rfl;rcases hq with rfl | rfl
  ·grind
  ·grind
 ·grind
section
variable {P:aJ} {L:Lib}
structure Wd (P:aJ) (L:Lib):Prop where
 mO:L.pure 143=some sr
 gO:L.pure 171=some ol
 sN:L.pure 173=some Ca
 MF:L.pure 167=some GY
 anm:Has P L 165 LV
 mN:Has P L 166 CA
 ann:Has P L 168 Qp
 aD0:Has P L 169 sG
 ano:Has P L 158 Hh
 aD1:Has P L 157 LU
 anp:Has P L 159 Qo
 aD2:Has P L 144 Ql
 abo:Has P L 137 LS
def aD:VC->VC
 | .seq _ b=>b
 | c=>c
def aA0 (h:Wd P L) {w:AV} {x vs pre post qs:List Nat} (hw:bO w vs) {n v1 v2 u0 u1 u2:Nat} (hl:gh x vs n v1 v2 u0 u1 u2) {q:Nat} (hq:q<18446744073709551616) (fJ:bv 18446744073709551616 x/bv 18446744073709551616 vs<=q) (Th:q<=bv 18446744073709551616 x/bv 18446744073709551616 vs+1):
  ∃tm x',D P L (aD (aD (aD (aD (aD (aD sG.body)))))) ⟨[(0,.ay 0 pre.length (n+1)),(1,w),(5,ab n),(6,uc q)],H2 qs (pre++x++post),2,2⟩=some (.ret,⟨tm,H2 qs (pre++x'++post),2,2⟩)/\ak tm 4=uc (bv 18446744073709551616 x/bv 18446744073709551616 vs)/\x'.length=n+1/\lo 18446744073709551616 x'/\bv 18446744073709551616 x'=bv 18446744073709551616 x%bv 18446744073709551616 vs:=by
 have eM:=hl.n2;have qI:=hl.nb;have ej:(0:Nat)<18446744073709551616:=by decide
 have hV:0<bv 18446744073709551616 vs:=by
  rcases xj (bv 18446744073709551616 vs) with h0 | h0
  ·have:=hl.lt;rw [h0] at this;simp at this
  ·exact h0
 have zy:below 2 w:=qX hw.pu;have NG:=mG hl.gv;rw [hl.lv] at NG;have aKP:18446744073709551616^n<=18446744073709551616^(n+1):=xx (by decide) (by omega);have aKQ:aD (aD (aD (aD (aD (aD sG.body)))))=aD (aD (aD (aD (aD (aD sG.body))))):=rfl;simp only [go_sem,ya,sG,aD,H2];generalize mX:D P L (.loop [0,1,5,6,11,12,104,105] KW) _=qq;obtain ⟨ex,s,rfl,tm,c,bo,y,rfl,rfl,t0,t1,t5,t6,t11,t12,ly,gy,hc,jn,aM⟩:=cG mX (aAY (P:=P) (L:=L) h.mO h.gO h.sN hw qI hl.lv hl.gv hq (x:=x) (pre:=pre) (post:=post) (qs:=qs) n) ⟨0,0,0,x,by
  rw [q9 (by simp only [go_sem,ya,yr,mD,nA,mz,mw,zy,wM]) (by simp only [go_sem,ya,yb,yr,aR hw.pu])]
  simp only [go_sem,ya]<;>rfl,by omega,hl.lx,hl.gx,ej,by omega,by simp [bv]⟩
 have gyn:=gI ej gy n;have ey:=Ak (l:=pre++y++post) (o:=pre.length+n) (by rw [pz];omega);rw [DZ (by omega)] at ey;obtain ⟨d,hd⟩:∃d,d=y.getD n 0:=⟨_,rfl⟩;rw [<-hd] at gyn ey;have f3:=V4 (P:=P) (f:=D P L) h.sN gyn hc jn;have gE:=Vi gyn hc jn;obtain ⟨z,hz⟩:∃t,t=(d+18446744073709551616*2-c-bo)%18446744073709551616:=⟨_,rfl⟩;obtain ⟨b',da⟩:∃t,t=(if c+bo<=d then 0 else 1):=⟨_,rfl⟩;have kQ:b'<=1:=by rw [da];split<;>omega
 have IJ:z<18446744073709551616:=by rw [hz];exact xr _ ej
 rw [<-hz,<-da] at f3 gE;have bf:=ow (b:=18446744073709551616) (l:=y) (i:=n) (x:=z) (by omega);rw [<-hd] at bf;have aY:=fun (hp:Hp) (ct:Nat)=>kU (hp:=hp) (ct:=ct) (id:=0) (v:=z) (ex:=true) (l:=pre++y++post) (o:=pre.length+n) (by rw [pz];omega)
 have oI:=Pc (pre:=pre) (x:=y) (post:=post) (i:=n) z (by omega);have FC:lo 18446744073709551616 (y.set n z):=mC gy IJ;have Dq:(y.set n z).length=n+1:=by simp [ly]
 have hY:=mG FC;rw [Dq] at hY;have aD3:bv 18446744073709551616 (y.set n z)+q*bv 18446744073709551616 vs=bv 18446744073709551616 x+18446744073709551616^(n+1)*b':=by
  have e2:=congrArg (fun t=>18446744073709551616^n*t) gE;rw [xh,xo];simp only [xz] at e2 aM;generalize 18446744073709551616^n*(18446744073709551616*b')=p1 at*
  generalize 18446744073709551616^n*z=p2 at*
  generalize 18446744073709551616^n*d=p3 at*
  generalize 18446744073709551616^n*c=p4 at*
  generalize 18446744073709551616^n*bo=p5 at*
  omega
 obtain ⟨s0,s1⟩:=step_end hV aD3 fJ Th hY (by omega) kQ;simp only [go_sem,ya,yb,yr,yj,q9,mD,nA,mz,mw,zy,wM,aR hw.pu,t0,t1,t5,t6,t11,t12,dD 0 pre.length (show n<n+1 by omega),ey,f3,aY,oI];by_cases mo:b'=0
 ·obtain ⟨e1,e2⟩:=s0 mo;simp only [go_sem,ya,show (b':Int)=0 by omega];exact ⟨_,y.set n z,rfl,by rw [<-e1];simp only [go_sem],Dq,FC,e2⟩
 ·obtain ⟨e1,e2⟩:=s1 (by omega);simp only [go_sem,ya,show ¬(b':Int)=0 by omega];generalize E0:D P L (.loop [0,1,5,6,17,156,157] KX) _=qq2;obtain ⟨ex,s,rfl,sZ,c2,y2,rfl,rfl,t0,t5,t6,t17,ly2,Ti,zj,aCM⟩:=cG E0 (aAZ (P:=P) (L:=L) h.gO hw qI hl.lv hl.gv (y0:=y.set n z) (pre:=pre) (post:=post) (qs:=qs) (q:=q) n) ⟨0,0,y.set n z,by
   rw [q9 (by simp only [go_sem,ya,yr,mD,nA,mz,mw,zy,wM]) (by simp only [go_sem,ya,yb,yr,aR hw.pu])]
   simp only [go_sem,ya]<;>rfl,by omega,Dq,FC,by omega,by simp [bv]⟩
  have aD4:=gI ej Ti n;have ey2:=Ak (l:=pre++y2++post) (o:=pre.length+n) (by rw [pz];omega);rw [DZ (by omega)] at ey2;obtain ⟨d2,hZ⟩:∃d,d=y2.getD n 0:=⟨_,rfl⟩;rw [<-hZ] at aD4 ey2;have f4:=Cq d2 c2;have P1:=ow (b:=18446744073709551616) (l:=y2) (i:=n) (x:=(d2+c2)%18446744073709551616) (by omega);rw [<-hZ] at P1;have jm:=On (18446744073709551616^n) 18446744073709551616 (d2+c2);have aD5:(d2+c2)%18446744073709551616<18446744073709551616:=xr _ ej;have hc3:(d2+c2)/18446744073709551616<=1:=by omega
  generalize (d2+c2)%18446744073709551616=z2 at*
  generalize (d2+c2)/18446744073709551616=c3 at*
  have R9:=fun (hp:Hp) (ct:Nat)=>kU (hp:=hp) (ct:=ct) (id:=0) (v:=z2) (ex:=true) (l:=pre++y2++post) (o:=pre.length+n) (by rw [pz];omega)
  have P2:=Pc (pre:=pre) (x:=y2) (post:=post) (i:=n) z2 (by omega);have Tj:lo 18446744073709551616 (y2.set n z2):=mC Ti aD5;have NH:(y2.set n z2).length=n+1:=by simp [ly2]
  have hY3:=mG Tj;rw [NH] at hY3;have Bo:0<q:=by rw [e1];exact Nat.succ_pos _
  have hq3:bv 18446744073709551616 x/bv 18446744073709551616 vs=q-1:=by rw [e1,tz]
  have f5:binOp .sub (uc q) (.int .u64 1)=some (uc (q-1)):=EZ (b:=1) (by omega) (by omega);simp only [go_sem,ya,yb,yr,yj,q9,mD,nA,mz,mw,wM,t0,t5,t6,t17,dD 0 pre.length (show n<n+1 by omega),ey2,f4,R9,P2,f5];refine ⟨_,y2.set n z2,rfl,by rw [hq3];simp only [go_sem],NH,Tj,?_⟩;have e3:bv 18446744073709551616 (y2.set n z2)+18446744073709551616^(n+1)*c3=18446744073709551616^(n+1)+bv 18446744073709551616 x%bv 18446744073709551616 vs:=by
   rw [<-e2,<-aCM,xh];rw [xz] at jm;omega
  rcases (show c3=0\/c3=1 by omega) with rfl | rfl
  ·omega
  ·omega
def aD6 (h:Wd P L) {w:AV} {x vs pre post qs:List Nat} (hw:bO w vs) {n v1 v2 u0 u1 u2:Nat} (hl:gh x vs n v1 v2 u0 u1 u2):
  ∃x',ja P L (D P L) (H2 qs (pre++x++post)) 2 169 [.ay 0 pre.length (n+1),w]=some (uc (bv 18446744073709551616 x/bv 18446744073709551616 vs),H2 qs (pre++x'++post),2)/\x'.length=n+1/\lo 18446744073709551616 x'/\bv 18446744073709551616 x'=bv 18446744073709551616 x%bv 18446744073709551616 vs:=by
 have eM:=hl.n2;have qI:=hl.nb;have zy:below 2 w:=qX hw.pu;have qR:(n:Int)-1=((n-1:Nat):Int):=by omega
 have fh:=hw.bz (i:=n-1) (by have:=hl.lv;omega);rw [hl.fg] at fh;have Dr:=Ak (l:=pre++x++post) (o:=pre.length+n) (by rw [pz];have:=hl.lx;omega)
 rw [DZ (by have:=hl.lx;omega),hl.h0] at Dr;have Ds:=Ak (l:=pre++x++post) (o:=pre.length+(n-1)) (by rw [pz];have:=hl.lx;omega)
 rw [DZ (by have:=hl.lx;omega),hl.h1] at Ds;have H5:=hl.ND;have Sa:=hl.NE;have oJ:=hl.top;have iz:∃tm x',D P L sG.body ⟨fL 0 [.ay 0 pre.length (n+1),w],H2 qs (pre++x++post),2,2⟩=some (.ret,⟨tm,H2 qs (pre++x'++post),2,2⟩)/\ak tm 4=uc (bv 18446744073709551616 x/bv 18446744073709551616 vs)/\x'.length=n+1/\lo 18446744073709551616 x'/\bv 18446744073709551616 x'=bv 18446744073709551616 x%bv 18446744073709551616 vs:=by
  have behind:∀(jU:Env) (q:Nat),ak jU 0= .ay 0 pre.length (n+1)->ak jU 1=w->ak jU 5=ab n->ak jU 6=uc q->q<18446744073709551616->bv 18446744073709551616 x/bv 18446744073709551616 vs<=q->q<=bv 18446744073709551616 x/bv 18446744073709551616 vs+1->
    ∃tm x',nF P L (nF P L (Ai 0 (some (Ex.exit 0,⟨jU,H2 qs (pre++x++post),2,2⟩))) (.kp [0,1,5,6])) (aD (aD (aD (aD (aD (aD sG.body))))))=some (.ret,⟨tm,H2 qs (pre++x'++post),2,2⟩)/\ak tm 4=uc (bv 18446744073709551616 x/bv 18446744073709551616 vs)/\x'.length=n+1/\lo 18446744073709551616 x'/\bv 18446744073709551616 x'=bv 18446744073709551616 x%bv 18446744073709551616 vs:=by
   intro jU q t0 t1 t5 t6 g1 g2 g3;have hk:eC jU [0,1,5,6]=[(0,.ay 0 pre.length (n+1)),(1,w),(5,ab n),(6,uc q)]:=by simp only [go_sem,t0,t1,t5,t6]
   rw [ajK,fY,am6,q9 (by rw [hk];simp only [go_sem,yr,mD,nA,mz,mw,zy,wM]) (by rw [hk];simp only [go_sem,yb,yr,aR hw.pu]),fY,hk];exact aA0 h hw hl g1 g2 g3
  by_cases hc:u0<v1
  ·have f1:=anh h.anm h.MF (P:=P) (L:=L) hc Sa H5;have fK:=xM (u0*18446744073709551616+u1) v1;have sP:=xr (u0*18446744073709551616+u1) hl.pos;have oY:(u0*18446744073709551616+u1)/v1<18446744073709551616:=by
    refine (wi hl.pos).2 ?_
    have:=yY 18446744073709551616 (show u0+1<=v1 from hc)
    rw [xB 18446744073709551616 v1];omega
   have PB:=hl.first;rw [xB] at fK;generalize (u0*18446744073709551616+u1)/v1=q0 at*
   generalize (u0*18446744073709551616+u1)%v1=r0 at*
   simp only [go_sem,ya,yj,sG,H2,hw.len,hl.lv,qR,wrapN (n:=n-1) (by omega),fh,dD 0 pre.length (show n<n+1 by omega),dD 0 pre.length (show n-1<n+1 by omega),Dr,Ds,show ¬(v1:Int)<=(u0:Int) by omega,f1];generalize mX:D P L (.loop [0,1,5,6,7,8] Ac) _=qq;obtain ⟨ex,s,rfl,jU,q,rfl,rfl,t0,t1,t5,t6,g1,g2,g3⟩:=cG mX (akX (P:=P) (L:=L) h.mO h.gO hw hl (pre:=pre) (post:=post) (qs:=qs) q0) ⟨q0,r0,by
    rw [q9 (by simp only [go_sem,ya,yr,mD,nA,mz,mw,zy,wM]) (by simp only [go_sem,ya,yb,yr,aR hw.pu])];rw [yP (show r0<18446744073709551616 by omega),wj (show r0<18446744073709551616 by omega)]
    simp only [go_sem,ya]<;>rfl,fK,by omega,oY,PB,rfl⟩
   exact behind jU q t0 t1 t5 t6 g1 g2 g3
  ·have oV:u0=v1:=by omega
   have f1:=Ef (P:=P) (f:=D P L) h.gO Sa H5 (c:=0) (by omega);rw [yW,show (uc 0)=AV.int .u64 0 from rfl] at f1;have Sb:=hl.digit
   simp only [go_sem,ya,yj,sG,H2,hw.len,hl.lv,qR,wrapN (n:=n-1) (by omega),fh,dD 0 pre.length (show n<n+1 by omega),dD 0 pre.length (show n-1<n+1 by omega),Dr,Ds,show (v1:Int)<=(u0:Int) by omega,f1];generalize mX:D P L (.loop [0,1,5,6,7,8] Ac) _=qq;obtain ⟨ex,s,rfl,jU,q,rfl,rfl,t0,t1,t5,t6,g1,g2,g3⟩:=cG mX (akX (P:=P) (L:=L) h.mO h.gO hw hl (pre:=pre) (post:=post) (qs:=qs) 18446744073709551615) ⟨18446744073709551615,u1+v1,by
    rw [q9 (by simp only [go_sem,ya,yr,mD,nA,mz,mw,zy,wM]) (by simp only [go_sem,ya,yb,yr,aR hw.pu])]
    simp only [go_sem,ya]<;>rfl,by rw [oV];omega,by omega,by decide,by omega,rfl⟩
   exact behind jU q t0 t1 t5 t6 g1 g2 g3
 obtain ⟨tm,x',g1,g2,g3,g4,g5⟩:=iz;refine ⟨x',?_,g3,g4,g5⟩;exact ajP h.aD0 g1 (.inr rfl) (by show iX _ [RV.t 4]=_;rw [abe,Wz,g2])
end
end
section
open Go (IntKind)
def WN (v:AV) (m:Nat):Prop:=∃l,bO v l/\lo 18446744073709551616 l/\gB l/\bv 18446744073709551616 l=m
def avh (i:Nat) (q:List Nat) (x:Nat):(yF (i+1) 0++q).set i x=yF i 0++x::q:=by
 rw [List.replicate_succ',xD]
 simp_all
def Pd {b:Nat} {l:List Nat} {i:Nat} (h:i<l.length):bv b (l.drop i)=l.getD i 0+b*bv b (l.drop (i+1)):=by
 rw [yX h,gd h];rfl
def V6 {v w:AV} {x y:List Nat} (hv:bO v x) (hw:bO w y) (hp:Hp):result hp (.af [v,w])=some (.af [v,w]):=by
 rcases hv with ⟨rfl,_⟩ | ⟨e,rfl⟩<;>rcases hw with ⟨rfl,_⟩ | ⟨e',rfl⟩<;>rfl
def axp {hp:Hp} {id n l h:Nat} {pu ex:Bool} {cs:List AV} {tm:Env} {x y:X} (hg:aF hp id=some (.cells true pu ex 1 cs)) (hx:dE tm 0 (some x)=some l) (hy:dE tm n (some y)=some h) (h1:l<h) (h2:h<=n):
  fC hp (.sl 1) (.ay id 0 n) tm (some x) (some y)=some (.ay id l (h-l)):=by
 simp only [fC,hg,hx,hy,yy (Nat.le_of_lt h1),yy h2,vj,we,yB,ig (Nat.ne_of_lt h1),wg,yM,yd,yj]
def agz {hp:Hp} {id n h:Nat} {pu ex:Bool} {cs:List AV} {tm:Env} {y:X} (hg:aF hp id=some (.cells true pu ex 1 cs)) (hy:dE tm n (some y)=some h) (h1:0<h) (h2:h<=n):
  fC hp (.sl 1) (.ay id 0 n) tm none (some y)=some (.ay id 0 h):=by
 have hx:dE tm 0 none=some 0:=rfl;simp only [fC,hg,hx,hy,yy (uF h),yy h2,vj,we,yB,ig (show (0:Nat)≠h by omega),wg,yM,tV,yW,Nat.sub_zero]
def alJ (P:aJ) (L:Lib) (f:cN) (hp:Hp) (ct n:Nat) (xs:List AV):fe P L f hp ct .heap (.fn (.f n) [] []) xs=ja P L f hp ct n xs:=by
 simp only [fe,xZ,wG]
section
variable {P:aJ} {L:Lib}
def aA1 (h:Wd P L) {v w:AV} {x:List Nat} (hv:bO v x) (hx:lo 18446744073709551616 x) (lx:x.length<=99999999999) {d:Nat} (hw:bO w [d]) (gS:0<d) (hdW:d<18446744073709551616) {n:Nat} (hn:n=x.length):
  ∀k s,(∃(i r:Nat) (q:List Nat),bS [0,1,6,7,8] s=⟨[(0,v),(1,w),(6,.ay 0 0 n),(7,uc r),(8,ab ((i:Int)-1))],[(0,.cells true true true 1 ((yF i 0++q).map uc))],1,0⟩/\i=k/\i+q.length=n/\lo 18446744073709551616 q/\r<d/\bv 18446744073709551616 (x.drop i)=bv 18446744073709551616 q*d+r)->
   ∃ex s',D P L (.loop [0,1,6,7,8] KS) s=some (ex,s')/\∃tm r q,s'=⟨tm,[(0,.cells true true true 1 (q.map uc))],1,0⟩/\ex= .exit 0/\ak tm 6= .ay 0 0 n/\ak tm 7=uc r/\q.length=n/\lo 18446744073709551616 q/\r<d/\bv 18446744073709551616 x=bv 18446744073709551616 q*d+r:=by
 refine cR (I:=fun k s=>∃(i r:Nat) (q:List Nat),s=⟨[(0,v),(1,w),(6,.ay 0 0 n),(7,uc r),(8,ab ((i:Int)-1))],[(0,.cells true true true 1 ((yF i 0++q).map uc))],1,0⟩/\i=k/\i+q.length=n/\lo 18446744073709551616 q/\r<d/\bv 18446744073709551616 (x.drop i)=bv 18446744073709551616 q*d+r)
  (Q:=fun ex s'=>∃tm r q,s'=⟨tm,[(0,.cells true true true 1 (q.map uc))],1,0⟩/\ex= .exit 0/\ak tm 6= .ay 0 0 n/\ak tm 7=uc r/\q.length=n/\lo 18446744073709551616 q/\r<d/\bv 18446744073709551616 x=bv 18446744073709551616 q*d+r) ?_
 rintro k s ⟨i,r,q,rfl,rfl,hlen,a8,hr,aM⟩
 cases i with
 | zero=>
  right
  simp only [go_sem,ya,KS,show ¬(0:Int)<=((0:Nat):Int)-1 by omega];exact ⟨_,_,rfl,by simp,_,r,q,rfl,rfl,by simp only [go_sem,ya],by simp only [go_sem,ya],by omega,a8,hr,by simpa using aM⟩
 | succ i=>
  left
  have gx:=gI (show 0<18446744073709551616 by decide) hx i;have e1:=hv.bz (i:=i) (by omega);have e2:=hw.bz (i:=0) (by simp);have iE:=Pd (b:=18446744073709551616) (l:=x) (i:=i) (by omega);rw [show ([d]:List Nat).getD 0 0=d from rfl] at e2;generalize x.getD i 0=a at*
  have e3:=anh (P:=P) (L:=L) h.anm h.MF hr gx hdW;have fK:=xM (r*18446744073709551616+a) d;have sP:=xr (r*18446744073709551616+a) gS;have oY:(r*18446744073709551616+a)/d<18446744073709551616:=by
   refine (wi gS).2 ?_;omega
  generalize (r*18446744073709551616+a)/d=q1 at*
  generalize (r*18446744073709551616+a)%d=r1 at*
  have aY:=fun (hp:Hp) (ct:Nat)=>kU (hp:=hp) (ct:=ct) (id:=0) (v:=q1) (ex:=true) (l:=yF (i+1) 0++q) (o:=i) (by simp;omega)
  simp only [go_sem,ya,yj,KS,show ((i+1:Nat):Int)-1=(i:Int) by omega,show (0:Int)<=(i:Int) by omega,e1,e2,e3,dD 0 0 (show i<n by omega),yd,aY,avh];refine ⟨_,i,rfl,by omega,i,r1,q1::q,?_,rfl,by simp;omega,Oy.2 ⟨GK.2 oY,a8⟩,sP,?_⟩
  ·rw [wrap64 (by omega) (by omega)];simp only [go_sem,ya,yb,aH,aR hv.pu,aW _ hv.pu,aR hw.pu,aW _ hw.pu]<;>rfl
  ·rw [iE,aM];simp only [bv];rw [wL,xz,<-xo 18446744073709551616];rw [xB d q1] at fK;omega
def ate {s u u1:Nat} (hs:s<64) (hu:u<18446744073709551616):u/2^s<18446744073709551616/\(0<s->u/2^s|||(u1*2^(64-s)%18446744073709551616)<18446744073709551616)/\
  (if 0<s then (u/2^s|||(u1*2^(64-s)%18446744073709551616)) else u/2^s)*2^s+u%2^s=u+18446744073709551616*(u1%2^s):=by
 have e:18446744073709551616=2^s*2^(64-s):=by rw [<-xO,show s+(64-s)=64 by omega]
 have h1:u1*2^(64-s)%18446744073709551616=(u1%2^s)*2^(64-s):=by rw [e,vB]
 have hp:=wB s;have h2:u/2^s<2^(64-s):=by
  refine (wi hp).2 ?_
  grind
 have h3:u/2^s|||(u1*2^(64-s)%18446744073709551616)=(u1%2^s)*2^(64-s)+u/2^s:=by rw [h1,ybW,V5 h2]
 have h4:(u1%2^s)*2^(64-s)+u/2^s<18446744073709551616:=by
  have:=yY (2^(64-s)) (show u1%2^s+1<=2^s from xr _ hp)
  grind
 have h5:=yaV u (2^s)
 grind
def aA2 {us qs:List Nat} {n la m s:Nat} (hs:s<64) (lu:us.length=la) (gu:lo 18446744073709551616 us) (hn:n<la) (NI:la<=100000000000):
  ∀k st,(∃(i:Nat) (rs:List Nat),bS [9,11,12,13,96,97] st=⟨[(9,ab s),(11,.ay 0 0 la),(12,ab n),(13,.ay 1 0 m),(96,ab n),(97,ab i)],H2 qs (rs++us.drop i),2,0⟩/\i+k=n/\rs.length=i/\lo 18446744073709551616 rs/\bv 18446744073709551616 rs*2^s+us.getD 0 0%2^s=bv 18446744073709551616 (us.take i)+18446744073709551616^i*(us.getD i 0%2^s))->
   ∃ex st',D P L (.loop [9,11,12,13,96,97] Gx) st=some (ex,st')/\∃tm rs,st'=⟨tm,H2 qs (rs++us.drop n),2,0⟩/\ex= .exit 4/\ak tm 11= .ay 0 0 la/\ak tm 12=ab n/\ak tm 13= .ay 1 0 m/\rs.length=n/\lo 18446744073709551616 rs/\bv 18446744073709551616 rs*2^s+us.getD 0 0%2^s=bv 18446744073709551616 (us.take n)+18446744073709551616^n*(us.getD n 0%2^s):=by
 refine cR (I:=fun k st=>∃(i:Nat) (rs:List Nat),st=⟨[(9,ab s),(11,.ay 0 0 la),(12,ab n),(13,.ay 1 0 m),(96,ab n),(97,ab i)],H2 qs (rs++us.drop i),2,0⟩/\i+k=n/\rs.length=i/\lo 18446744073709551616 rs/\bv 18446744073709551616 rs*2^s+us.getD 0 0%2^s=bv 18446744073709551616 (us.take i)+18446744073709551616^i*(us.getD i 0%2^s))
  (Q:=fun ex st'=>∃tm rs,st'=⟨tm,H2 qs (rs++us.drop n),2,0⟩/\ex= .exit 4/\ak tm 11= .ay 0 0 la/\ak tm 12=ab n/\ak tm 13= .ay 1 0 m/\rs.length=n/\lo 18446744073709551616 rs/\bv 18446744073709551616 rs*2^s+us.getD 0 0%2^s=bv 18446744073709551616 (us.take n)+18446744073709551616^n*(us.getD n 0%2^s)) ?_
 rintro k st ⟨i,rs,rfl,hk,lr,gr,aM⟩;by_cases hi:i<n
 ·left
  have ej:(0:Nat)<18446744073709551616:=by decide
  have g0:=gI ej gu i;have g1:=gI ej gu (i+1);have d0:us.drop i=us.getD i 0::us.getD (i+1) 0::us.drop (i+2):=by
   rw [yX (show i<us.length by omega),yX (show i+1<us.length by omega),gd,gd]
  have eX:=jw (b:=18446744073709551616) (l:=us) i;have lZ:∀r,r<18446744073709551616->r*2^s+us.getD i 0%2^s=us.getD i 0+18446744073709551616*(us.getD (i+1) 0%2^s)->lo 18446744073709551616 (rs++[r])/\bv 18446744073709551616 (rs++[r])*2^s+us.getD 0 0%2^s=bv 18446744073709551616 (us.take (i+1))+18446744073709551616^(i+1)*(us.getD (i+1) 0%2^s):=fun r h1 h2=>by
   refine ⟨Oy.2 ⟨gr,GK.2 h1⟩,?_⟩;rw [sd,Ce,lr,eX,wL,xh,xo,xo];have e2:=congrArg (fun t=>18446744073709551616^i*t) h2;simp only [xz] at e2;generalize 18446744073709551616^i*(r*2^s)=p1 at*
   generalize 18446744073709551616^i*(us.getD i 0%2^s)=p2 at*
   generalize 18446744073709551616^i*us.getD i 0=p3 at*
   generalize 18446744073709551616^i*(18446744073709551616*(us.getD (i+1) 0%2^s))=p4 at*
   omega
  have abp:us.drop (i+1)=us.getD (i+1) 0::us.drop (i+2):=by
   rw [yX (show i+1<us.length by omega),gd]
  generalize us.getD i 0=a at*
  obtain ⟨c,hc⟩:∃c,c=us.getD (i+1) 0:=⟨_,rfl⟩;rw [<-hc] at g1 d0 abp lZ;generalize us.drop (i+2)=dr at*
  rw [d0];obtain ⟨n1,n2,n3⟩:=ate (u1:=c) hs g0;have o1:=ME .i64 a (s:=s) (by omega);have o2:=MD .i64 c (s:=64-s) (by omega);have o3:binOp .sub (.int .i64 64) (ab s)=some (ab (64-s:Nat)):=by
   rw [O9,wrap64 (by omega) (by omega)];congr 2;omega
  have o4:=orU n1 (xr (c*2^(64-s)) ej);have sa:∀z y,(rs++z::y).set i a=rs++a::y:=fun z y=>by rw [tW _ _ (by omega),lr];simp
  have e0:∀z y,wK i ((rs++z::y).map uc)=uc z::y.map uc:=fun z y=>by
   rw [xR,td (by simp [lr])];rfl
  have e1:∀z y u,wK (i+1) ((rs++z::y::u).map uc)=uc y::u.map uc:=fun z y u=>by
   rw [show rs++z::y::u=(rs++[z])++y::u by simp,xR,td (by simp [lr])];rfl
  have Dg:∀(hp:Hp) (ct x z:Nat) (y:List Nat),gC hp ct 0 i 1 [.int .u64 (x:Int)] (some (.cells true true true 1 ((rs++z::y).map uc)))=some (.af [],bf hp 0 (.cells true true true 1 ((rs++x::y).map uc)),ct):=fun hp ct x z y=>by
   rw [kU (by simp;omega),tW _ _ (by omega),lr];simp
  by_cases h0:0<s
  ·rw [yz h0] at n3;obtain ⟨f1,f2⟩:=lZ _ (n2 h0) n3;generalize a/2^s=a1 at*
   generalize a1|||(c*2^(64-s)%18446744073709551616)=r at*
   simp only [go_sem,ya,yj,Gx,H2,show (i:Int)<(n:Int) by omega,dD 0 0 (show i<la by omega),yd,e0,o1,Dg,show (0:Int)<(s:Int) by omega,show (i:Int)+1=((i+1:Nat):Int) from rfl,wrapN (n:=i+1) (by omega),show ((i+1:Nat):Int)<(la:Int) by omega,dD 0 0 (show i+1<la by omega),e1,o3,o2,o4];refine ⟨_,k-1,rfl,by omega,i+1,rs++[r],by simp only [go_sem,ya,yb,aH];rw [abp];simp,by omega,by simp [lr],f1,by rw [<-hc];exact f2⟩
  ·rw [yp h0] at n3;obtain ⟨f1,f2⟩:=lZ _ n1 n3;generalize a/2^s=a1 at*
   simp only [go_sem,ya,yj,Gx,H2,show (i:Int)<(n:Int) by omega,dD 0 0 (show i<la by omega),yd,e0,o1,Dg,show ¬(0:Int)<(s:Int) by omega,show (i:Int)+1=((i+1:Nat):Int) from rfl,wrapN (n:=i+1) (by omega)];refine ⟨_,k-1,rfl,by omega,i+1,rs++[a1],by simp only [go_sem,ya,yb,aH];rw [abp];simp,by omega,by simp [lr],f1,by rw [<-hc];exact f2⟩
 ·right
  have:i=n:=by omega
  subst this;simp only [go_sem,ya,Gx,H2,show ¬(i:Int)<(i:Int) by omega];exact ⟨_,_,rfl,by simp,_,rs,rfl,rfl,by simp only [go_sem,ya],by simp only [go_sem,ya],by simp only [go_sem,ya],lr,gr,aM⟩
end
end
section
open Go (IntKind)
def afL {b p A V bu bq0 U0 pre:Nat} (h1:bu=pre+p*A) (h2:bu+bq0*V=U0):(pre+p*(A%V))+(bq0+p*(A/V))*V=U0:=by
 have fK:=xM A V
 grind
def aCN (hp:Hp) (ct:Nat) (ex:Bool) (sz n:Nat) (cs:List AV):own hp ct (.bV ex sz n cs)=(.ay ct 0 n,(ct,.cells true true ex sz cs)::hp,ct+1):=rfl
section
variable {P:aJ} {L:Lib}
def aA3 (h:Wd P L) {w:AV} {vs:List Nat} (hw:bO w vs) (gv:lo 18446744073709551616 vs) {n la m:Nat} (lv:vs.length=n) (eM:2<=n) (SF:n<=la) (NI:la<=99999999999) (hm:m=la-n+1) (fg:0<vs.getD (n-1) 0) {s U0:Nat}:
  ∀k st,(∃(j:Nat) (us qs:List Nat),bS [9,10,11,12,13,14] st=⟨[(9,ab s),(10,w),(11,.ay 0 0 (la+1)),(12,ab n),(13,.ay 1 0 m),(14,ab ((j:Int)-1))],H2 qs us,2,0⟩/\j=k/\j<=m/\us.length=la+1/\qs.length=m/\lo 18446744073709551616 us/\lo 18446744073709551616 qs/\(∀i,i<j->qs.getD i 0=0)/\
    bv 18446744073709551616 us+bv 18446744073709551616 qs*bv 18446744073709551616 vs=U0/\bv 18446744073709551616 (us.drop j)<bv 18446744073709551616 vs)->
   ∃ex st',D P L (.loop [9,10,11,12,13,14] KT) st=some (ex,st')/\∃tm us qs,st'=⟨tm,H2 qs us,2,0⟩/\ex= .exit 2/\ak tm 9=ab s/\ak tm 11= .ay 0 0 (la+1)/\ak tm 12=ab n/\ak tm 13= .ay 1 0 m/\us.length=la+1/\qs.length=m/\lo 18446744073709551616 us/\lo 18446744073709551616 qs/\
    bv 18446744073709551616 us+bv 18446744073709551616 qs*bv 18446744073709551616 vs=U0/\bv 18446744073709551616 us<bv 18446744073709551616 vs:=by
 refine cR (I:=fun k st=>∃(j:Nat) (us qs:List Nat),st=⟨[(9,ab s),(10,w),(11,.ay 0 0 (la+1)),(12,ab n),(13,.ay 1 0 m),(14,ab ((j:Int)-1))],H2 qs us,2,0⟩/\j=k/\j<=m/\us.length=la+1/\qs.length=m/\lo 18446744073709551616 us/\lo 18446744073709551616 qs/\(∀i,i<j->qs.getD i 0=0)/\
    bv 18446744073709551616 us+bv 18446744073709551616 qs*bv 18446744073709551616 vs=U0/\bv 18446744073709551616 (us.drop j)<bv 18446744073709551616 vs)
  (Q:=fun ex st'=>∃tm us qs,st'=⟨tm,H2 qs us,2,0⟩/\ex= .exit 2/\ak tm 9=ab s/\ak tm 11= .ay 0 0 (la+1)/\ak tm 12=ab n/\ak tm 13= .ay 1 0 m/\us.length=la+1/\qs.length=m/\lo 18446744073709551616 us/\lo 18446744073709551616 qs/\
    bv 18446744073709551616 us+bv 18446744073709551616 qs*bv 18446744073709551616 vs=U0/\bv 18446744073709551616 us<bv 18446744073709551616 vs) ?_
 rintro k st ⟨j,us,qs,rfl,rfl,hj,lu,lq,gu,gq,hz,aM,oJ⟩
 cases j with
 | zero=>
  right
  simp only [go_sem,ya,KT,H2,show ¬(0:Int)<=((0:Nat):Int)-1 by omega];exact ⟨_,_,rfl,by simp,_,us,qs,rfl,rfl,by simp only [go_sem,ya],by simp only [go_sem,ya],by simp only [go_sem,ya],by simp only [go_sem,ya],lu,lq,gu,gq,aM,by simpa using oJ⟩
 | succ j=>
  left
  have ej:(0:Nat)<18446744073709551616:=by decide
  obtain ⟨pre,fj⟩:∃p,p=us.take j:=⟨_,rfl⟩;obtain ⟨x,hx⟩:∃p,p=(us.drop j).take (n+1):=⟨_,rfl⟩;obtain ⟨post,gJ⟩:∃p,p=us.drop (j+(n+1)):=⟨_,rfl⟩;have lp:pre.length=j:=by rw [fj,yR];omega
  have lx:x.length=n+1:=by rw [hx,yR,wm];omega
  have j9:us=pre++x++post:=by
   rw [fj,hx,gJ,<-vG,xD,xS,xS]
  have gx:lo 18446744073709551616 x:=by rw [hx];exact BX (ajH gu _) _
  have abq:lo 18446744073709551616 pre:=by rw [fj];exact BX gu _
  have aCO:lo 18446744073709551616 post:=by rw [gJ];exact ajH gu _
  have hA:bv 18446744073709551616 (us.drop j)=us.getD j 0+18446744073709551616*bv 18446744073709551616 (us.drop (j+1)):=Pd (by omega);have hgj:=gI ej gu j;have hdx:us.drop j=x++post:=by rw [gJ,hx,<-vG,xS]
  have Bt:bv 18446744073709551616 (us.drop j)=bv 18446744073709551616 x+18446744073709551616^(n+1)*bv 18446744073709551616 post:=by rw [hdx,sd,lx]
  have NG:=mG gv;rw [lv] at NG;have aZ:bv 18446744073709551616 (us.drop j)<18446744073709551616*bv 18446744073709551616 vs:=by omega
  have hp0:bv 18446744073709551616 post=0:=by
   rcases xj (bv 18446744073709551616 post) with e | e
   ·exact e
   ·have h1:=yT (18446744073709551616^(n+1)) e;rw [yj,xh] at h1;rw [xh] at Bt;omega
  rw [hp0,xG,yW] at Bt;have hl:gh x vs n (vs.getD (n-1) 0) (vs.getD (n-2) 0) (x.getD n 0) (x.getD (n-1) 0) (x.getD (n-2) 0):=
   ⟨eM,by omega,lx,lv,gx,gv,rfl,rfl,rfl,rfl,rfl,fg,by rw [<-Bt];exact aZ⟩
  have Sb:=hl.digit;obtain ⟨x',e1,lx',Tk,NJ⟩:=aD6 h hw hl (pre:=pre) (post:=post) (qs:=qs);rw [lp,<-j9] at e1;have hbu:bv 18446744073709551616 us=bv 18446744073709551616 pre+18446744073709551616^j*bv 18446744073709551616 x:=by
   have:=Kp (b:=18446744073709551616) us j (by omega)
   rw [Bt,<-fj] at this;exact this
  have abr:bv 18446744073709551616 (pre++x'++post)=bv 18446744073709551616 pre+18446744073709551616^j*bv 18446744073709551616 x':=by
   rw [xD,sd,sd,hp0,xG,yW,lp]
  have bf:=ow (b:=18446744073709551616) (l:=qs) (i:=j) (x:=bv 18446744073709551616 x/bv 18446744073709551616 vs) (by omega);rw [hz j (by omega),xG,yW] at bf;have lZ:=afL (b:=0) hbu aM;have aY:=fun (hp:Hp) (ct:Nat)=>kU (hp:=hp) (ct:=ct) (id:=1) (v:=bv 18446744073709551616 x/bv 18446744073709551616 vs) (ex:=true) (l:=qs) (o:=j) (by omega)
  have rQ:0<bv 18446744073709551616 vs:=by omega
  have sP:=xr (bv 18446744073709551616 x) rQ;have mc:∀tm (x y:X),dE tm 0 (some x)=some j->dE tm (la+1) (some y)=some (j+n+1)->fC (H2 qs us) (.sl 1) (.ay 0 0 (la+1)) tm (some x) (some y)=some (.ay 0 j (n+1)):=fun tm x y h1 h2=>by
   rw [axp (cs:=us.map uc) (pu:=true) (ex:=true) rfl h1 h2 (by omega) (by omega),show j+n+1-j=n+1 by omega]
  simp only [go_sem,ya,yj,KT,H2,show ((j+1:Nat):Int)-1=(j:Int) by omega,show (0:Int)<=(j:Int) by omega,show (j:Int)+(n:Int)=((j+n:Nat):Int) from rfl,wrapN (n:=j+n) (by omega),show ((j+n:Nat):Int)+1=((j+n+1:Nat):Int) from rfl,wrapN (n:=j+n+1) (by omega),mc,dO,alJ,e1,dD 1 0 (show j<m by omega),yd,aY];refine ⟨_,j,rfl,by omega,j,pre++x'++post,qs.set j (bv 18446744073709551616 x/bv 18446744073709551616 vs),?_,rfl,by omega,by rw [pz,lp,lx',gJ,wm];omega,by simp [lq],Oy.2 ⟨Oy.2 ⟨abq,Tk⟩,aCO⟩,mC gq Sb,fun i hi=>by rw [py (by omega)];exact hz i (by omega),?_,?_⟩
  ·rw [wrap64 (by omega) (by omega)];simp only [go_sem,ya,yb,aH,aR hw.pu,aW _ hw.pu]<;>rfl
  ·rw [abr,NJ,bf];exact lZ
  ·rw [xD,td lp,sd,hp0,xG,yW,NJ];exact sP
def aCP {l:List Nat} {n:Nat} (h:l.length=n+1):18446744073709551616^n*l.getD n 0<=bv 18446744073709551616 l:=by
 have:=jw (b:=18446744073709551616) (l:=l) n
 grind
def oK {m K:Nat} {l:List Nat} (hn:gB l) (hv:bv 18446744073709551616 l=m) (h:m<18446744073709551616^K):l.length<=K:=asr (b:=18446744073709551616) (by decide) hn (by rw [hv];exact h)
def aA4 (h:Wd P L) {v w:AV} {x:List Nat} {d:Nat} (hv:bO v x) (hw:bO w [d]) (gx:lo 18446744073709551616 x) (lx:x.length<=90000000000) (gS:0<d) (hdW:d<18446744073709551616) (ec:ai P L 158 [v,w] (ab (ef (bv 18446744073709551616 x) d))) (hc:d<=bv 18446744073709551616 x):
  ∃q r,ai P L 137 [v,w] (.af [q,r])/\WN q (bv 18446744073709551616 x/d)/\WN r (bv 18446744073709551616 x%d):=by
 have eN:¬ef (bv 18446744073709551616 x) d<0:=by unfold ef;rw [yp (by omega)];split<;>decide
 obtain ⟨n,hn⟩:∃n,n=x.length:=⟨_,rfl⟩;have main:∃r l,(∀c:Nat->AV->AV->Option AV,True)/\r<d/\l.length=n/\lo 18446744073709551616 l/\bv 18446744073709551616 x=bv 18446744073709551616 l*d+r/\
   ∃q1 r1,bO q1 (ez l)/\bO r1 (ez [r])/\ai P L 137 [v,w] (.af [q1,r1]):=by
  unfold ai;rw [ax h.abo]
  simp only [go_sem,ya,LS,hv.len,hv.ao,hw.len,hw.ao,ec,eN,yx,yJ,yd,show ((1:Nat):Int)=(1:Int) from rfl,<-hn,EY (n:=n) _ (by omega)];generalize hq:D P L (.loop [0,1,6,7,8] KS) _=q;obtain ⟨ex,s,rfl,tm,r,l,rfl,rfl,t6,t7,zi,a8,hr,aM⟩:=cG hq (aA1 (P:=P) (L:=L) h hv gx (by omega) hw gS hdW hn n) ⟨n,0,[],by
   rw [wrap64 (by omega) (by omega),wG]
   simp only [go_sem,ya,yb,aH,aR hv.pu,aW _ hv.pu,aR hw.pu,aW _ hw.pu]<;>rfl,rfl,rfl,Px,gS,by rw [List.drop_eq_nil_of_le (by omega)];simp [bv]⟩
  have hf:=ns true l;rw [zi] at hf;obtain ⟨q1,e1,fJ⟩:=CW h.mN hf (by omega);obtain ⟨r1,e2,eJ⟩:=CW h.mN (ns true [r]) (by simp);simp only [yx,yJ,yd,List.map_cons,List.map_nil] at e2;refine ⟨r,l,fun _=>trivial,hr,zi,a8,aM,q1,r1,fJ,eJ,?_⟩
  simp only [go_sem,ya,yb,yr,yi,yj,aH,t6,t7,CV _ (n:=n) (l:=l) zi true,e1,fJ.shut,e2,eJ.shut];exact V6 fJ eJ _
 obtain ⟨r,l,_,hr,zi,a8,aM,q1,r1,fJ,eJ,e⟩:=main;have hq:bv 18446744073709551616 l=bv 18446744073709551616 x/d:=by
  rw [aM,xB,tn gS,wj hr,yW]
 have hm:r=bv 18446744073709551616 x%d:=by
  rw [aM,xB,tp,yP hr]
 exact ⟨q1,r1,e,⟨_,fJ,BS a8,BR _,by rw [BQ,hq]⟩,⟨_,eJ,BS (GK.2 (by omega)),BR _,by rw [BQ,Ce,hm]⟩⟩
def aA5 (h:Wd P L) {v w:AV} {x y:List Nat} (hv:bO v x) (hw:bO w y) (gx:lo 18446744073709551616 x) (gy:lo 18446744073709551616 y) (nx:gB x) (ny:gB y) (lx:x.length<=90000000000) (ly:2<=y.length) (ec:ai P L 158 [v,w] (ab (ef (bv 18446744073709551616 x) (bv 18446744073709551616 y)))) (hc:bv 18446744073709551616 y<=bv 18446744073709551616 x):
  ∃q r,ai P L 137 [v,w] (.af [q,r])/\WN q (bv 18446744073709551616 x/bv 18446744073709551616 y)/\WN r (bv 18446744073709551616 x%bv 18446744073709551616 y):=by
 have ej:(0:Nat)<18446744073709551616:=by decide
 have eN:¬ef (bv 18446744073709551616 x) (bv 18446744073709551616 y)<0:=by unfold ef;rw [yp (by omega)];split<;>decide
 have hyx:y.length<=x.length:=by
  by_cases hh:x.length<y.length
  ·have:=O8 (b:=18446744073709551616) (by decide) gx ny hh;omega
  ·omega
 obtain ⟨n,hn⟩:∃n,n=y.length:=⟨_,rfl⟩;obtain ⟨la,NI⟩:∃la,la=x.length:=⟨_,rfl⟩;have Cr:=OM ny (fun e=>by subst e;simp at ly);have FD:=gI ej gy (y.length-1);have eyl:=hw.bz (i:=y.length-1) (by omega);have mh:=aCP (l:=y) (n:=n-1) (by omega);rw [<-hn] at Cr FD eyl;obtain ⟨top,oJ⟩:∃top,y.getD (n-1) 0=top:=⟨_,rfl⟩;rw [oJ] at Cr FD eyl mh;have elz:=akV (P:=P) (f:=D P L) h.MF FD;obtain ⟨z1,z2,z3⟩:=Vj (tB Cr) FD;generalize 64-eU 64 top=s at*
 obtain ⟨ov,ev,lov,gov,vov⟩:=ani h.ann hw gy (by omega) z1;obtain ⟨ou,eu,lou,gou,vou⟩:=ani h.ann hv gx (by omega) z1;obtain ⟨v',evt,eK⟩:=CW h.mN (ns true ov) (by omega);rw [lov,<-hn] at evt;rw [<-hn] at ev;rw [<-NI] at eu lou;have jm:=wB s;obtain ⟨vs,Bb⟩:∃vs,vs=ez ov:=⟨_,rfl⟩;rw [<-Bb] at eK;have FE:lo 18446744073709551616 vs:=by rw [Bb];exact BS gov
 have NK:gB vs:=by rw [Bb];exact BR _
 have zA:bv 18446744073709551616 vs=bv 18446744073709551616 y*2^s:=by rw [Bb,BQ,vov]
 have hyW:bv 18446744073709551616 y*2^s<18446744073709551616^n:=by
  have e:18446744073709551616=2^(64-s)*2^s:=by rw [<-xO,show 64-s+s=64 by omega]
  have e1:=jw (b:=18446744073709551616) (l:=y) (n-1);rw [show n-1+1=n by omega,yK (by omega),oJ] at e1;have e2:=mG (BX gy (n-1));rw [yR,xP (by omega)] at e2;have e3:top<2^(64-s):=Nat.lt_of_mul_lt_mul_right (a:=2^s) (Nat.lt_of_lt_of_eq z3 e);have e4:=yY (2^s) (show top+1<=2^(64-s) from e3);rw [<-e] at e4;have e5:bv 18446744073709551616 y<18446744073709551616^(n-1)*(top+1):=by rw [xz,yj];omega
  have e6:=wJ e5 jm;rw [xo] at e6;have e7:=yT (18446744073709551616^(n-1)) e4;rw [<-xh,show (n-1).succ=n by omega] at e7;exact yO e6 e7
 have aD7:18446744073709551616^(n-1)*2^s<=bv 18446744073709551616 vs:=by
  rw [zA];refine yY _ (yS ?_ mh)
  have:=yT (18446744073709551616^(n-1)) (show 1<=top by omega)
  omega
 have Bu:vs.length=n:=by
  have h1:vs.length<=n:=by
   refine oK NK zA ?_;exact hyW
  have h2:¬vs.length<n:=fun hh=>by
   have e1:=mG FE;have e2:18446744073709551616^vs.length<=18446744073709551616^(n-1):=xx ej (by omega);have e3:=yY (2^s) mh;rw [xo,<-zA] at e3;have e4:=yT (18446744073709551616^(n-1)) (show 1<=top*2^s by omega);omega
  omega
 have fg:0<vs.getD (n-1) 0:=by
  have:=OM NK (fun e=>by rw [e] at Bu;simp at Bu;omega)
  rw [Bu] at this;exact tB this
 obtain ⟨m,hm⟩:∃m,m=la-n+1:=⟨_,rfl⟩;have WC:bv 18446744073709551616 (ou.drop m)<bv 18446744073709551616 vs:=by
  have e1:=Kp (b:=18446744073709551616) ou m (by omega);have e2:=mG gx;rw [<-NI] at e2;have e3:=wJ e2 jm;rw [<-vou] at e3;have e4:18446744073709551616^la=18446744073709551616^m*18446744073709551616^(n-1):=by rw [<-xO];congr 1;omega
  rw [e4,xo] at e3;have e5:18446744073709551616^m*bv 18446744073709551616 (ou.drop m)<18446744073709551616^m*(18446744073709551616^(n-1)*2^s):=by omega
  exact yO (Nat.lt_of_mul_lt_mul_left e5) aD7
 have e1y:(y.length:Int)-1=((n-1:Nat):Int):=by omega
 have aD8:((la:Nat):Int)-(n:Int)=((m-1:Nat):Int):=by omega
 have iz:∃tm us qs rs,(us.length=la+1/\qs.length=m/\lo 18446744073709551616 us/\lo 18446744073709551616 qs/\bv 18446744073709551616 us+bv 18446744073709551616 qs*bv 18446744073709551616 vs=bv 18446744073709551616 x*2^s/\bv 18446744073709551616 us<bv 18446744073709551616 vs/\
   rs.length=n/\lo 18446744073709551616 rs/\bv 18446744073709551616 rs*2^s+us.getD 0 0%2^s=bv 18446744073709551616 (us.take n)+18446744073709551616^n*(us.getD n 0%2^s))/\ak tm 0=v/\
   ∃q1 r1,bO q1 (ez qs)/\bO r1 (ez rs)/\ai P L 137 [v,w] (.af [q1,r1]):=by
  unfold ai at ec ev eu evt;unfold ai;rw [ax h.abo];have hfo:=CV (n:=n+1) (l:=ov) (hp:=[]) (by omega) true
  simp only [go_sem,ya,yb,LS,hv.len,hv.ao,hw.len,hw.ao,ec,eN,show ¬(y.length:Int)=1 by omega,e1y,wrapN (n:=n-1) (by omega),eyl,elz,ev,aCN,CV _ (n:=n+1) (l:=ov) (by omega) true,evt,eK.len,eK.shut,eu,Bu,<-NI,aD8,wrapN (n:=m-1) (by omega),show ((m-1:Nat):Int)+1=(m:Int) by omega,wrapN (n:=m) (by omega),EY (n:=m) _ (by omega)];generalize mX:D P L (.loop [9,10,11,12,13,14] KT) _=qq;obtain ⟨ex,st,rfl,tm,us,qs,rfl,rfl,t9,t11,t12,t13,Tl,Tm,IL,gqs,aM,aZ⟩:=cG mX (aA3 (P:=P) (L:=L) h eK FE Bu (by omega) (by omega) (by omega) hm fg (s:=s) (U0:=bv 18446744073709551616 x*2^s) m) ⟨m,ou,yF m 0,by
   rw [show ((m-1:Nat):Int)=(m:Int)-1 by omega]
   simp only [go_sem,ya,yb,aH,aR eK.pu,aW _ eK.pu]<;>rfl,rfl,yA _,lou,by simp,gou,GL ej m,fun i _=>DY m i,by rw [GM,tV,yW,vou],WC⟩
  simp only [go_sem,ya,yb,aH,t9,t11,t12,t13];generalize E0:D P L (.loop [9,11,12,13,96,97] Gx) _=qq2;obtain ⟨ex,st,rfl,sZ,rs,rfl,rfl,t11,t12,t13,lrs,grs,Sc⟩:=cG E0 (aA2 (P:=P) (L:=L) (qs:=qs) (m:=m) (la:=la+1) (n:=n) z1 Tl IL (by omega) (by omega) n) ⟨0,[],by simp only [go_sem,ya,yb,aH]<;>rfl,by omega,rfl,Px,by simp [bv]⟩
  have mc:∀(hp:Hp) tm (y:X),aF hp 0=some (.cells true true true 1 ((rs++us.drop n).map uc))->dE tm (la+1) (some y)=some n->fC hp (.sl 1) (.ay 0 0 (la+1)) tm none (some y)=some (.ay 0 0 n):=fun hp tm y h1 h2=>agz h1 h2 (by omega) (by omega)
  have NL:=ns true qs;rw [Tm] at NL;obtain ⟨q1,f1,fJ⟩:=CW h.mN NL (by omega);have eX:(rs++us.drop n).take n=rs:=by rw [List.take_append_of_le_length (by omega),yK (by omega)]
  have NM:∃e,∀hp:Hp,jR 0 n (some (true,1,(rs++us.drop n).map uc,hp))=some (.ap e n (rs.map uc),hp):=by
   refine ⟨true&&yL 0 1&&Nat.beq n ((rs++us.drop n).map uc).length,fun hp=>?_⟩;simp only [jR,yd,yj,slice,ye,<-List.map_take,eX];rw [yy (by simp;omega)];rfl
  obtain ⟨e,NM⟩:=NM;have jo:=ns e rs;rw [lrs] at jo;obtain ⟨r1,f2,eJ⟩:=CW h.mN jo (by omega);unfold ai at f1 f2;refine ⟨[(0,v)],us,qs,rs,⟨Tl,Tm,IL,gqs,aM,aZ,lrs,grs,Sc⟩,rfl,q1,r1,fJ,eJ,?_⟩
  simp only [go_sem,ya,yb,aH,t11,t12,t13,CV _ (n:=m) (l:=qs) Tm true,f1,fJ.shut,mc,dO,NM,f2,eJ.shut];exact V6 fJ eJ _
 obtain ⟨tm,us,qs,rs,⟨Tl,Tm,IL,gqs,aM,aZ,lrs,grs,Sc⟩,_,q1,r1,fJ,eJ,e⟩:=iz;have gD:0<bv 18446744073709551616 y:=by
  have:=yT (18446744073709551616^(n-1)) (show 1<=top by omega)
  have:=Nat.pow_pos (n:=n-1) ej
  omega
 rw [zA] at aM aZ;have MG:bv 18446744073709551616 qs=bv 18446744073709551616 x/bv 18446744073709551616 y:=by
  rw [<-uo _ _ jm,<-aM,yaR,xB,tn (Nat.mul_pos gD jm),wj aZ,yW]
 have Tn:bv 18446744073709551616 us=(bv 18446744073709551616 x%bv 18446744073709551616 y)*2^s:=by
  rw [<-vB,<-aM,yaR,xB (bv _ qs),tp,yP aZ]
 have j9:=Kp (b:=18446744073709551616) us n (by omega);have gS:bv 18446744073709551616 (us.drop n)=0:=by
  rcases xj (bv 18446744073709551616 (us.drop n)) with h0 | h0
  ·exact h0
  ·have:=yT (18446744073709551616^n) h0
   omega
 have hun:us.getD n 0=0:=by
  have:=Pd (b:=18446744073709551616) (l:=us) (i:=n) (by omega)
  omega
 rw [gS,xG,yW] at j9;have Dn:us.getD 0 0%2^s=0:=by
  have e1:=Pd (b:=18446744073709551616) (l:=us) (i:=0) (by omega);rw [ye,Tn] at e1;have e2:18446744073709551616=2^s*2^(64-s):=by rw [<-xO,show s+(64-s)=64 by omega]
  have e3:(us.getD 0 0+18446744073709551616*bv 18446744073709551616 (us.drop (0+1)))%2^s=us.getD 0 0%2^s:=by
   conv=>lhs;rw [e2,xo]
   exact Nat.add_mul_mod_self_left _ _ _
  rw [<-e3,<-e1,Nat.mul_mod_left]
 rw [hun,Dn,Nat.zero_mod,xG,yW,yW,<-j9,Tn] at Sc;have alK:bv 18446744073709551616 rs=bv 18446744073709551616 x%bv 18446744073709551616 y:=Nat.eq_of_mul_eq_mul_right jm Sc;exact ⟨q1,r1,e,⟨_,fJ,BS gqs,BR _,by rw [BQ,MG]⟩,⟨_,eJ,BS grs,BR _,by rw [BQ,alK]⟩⟩
def anq (h:Wd P L) {v w:AV} {a b K:Nat} (hv:WN v a) (hw:WN w b) (hb:0<b) (ha:a<18446744073709551616^K) (hbK:b<18446744073709551616^K) (hK:K<=90000000000):
  ∃q r,ai P L 137 [v,w] (.af [q,r])/\WN q (a/b)/\WN r (a%b):=by
 obtain ⟨x,IM,gx,nx,vx⟩:=hv;obtain ⟨y,To,gy,ny,vy⟩:=hw;have lx:x.length<=90000000000:=yS (oK nx vx ha) hK;have ly:y.length<=90000000000:=yS (oK ny vy hbK) hK;have ec:=anc h.ano IM To gx gy nx ny (by omega) (by omega);subst vx;subst vy;by_cases hc:bv 18446744073709551616 x<bv 18446744073709551616 y
 ·have eN:ef (bv 18446744073709551616 x) (bv 18446744073709551616 y)= -1:=by unfold ef;rw [yz hc]
  rw [eN] at ec;refine ⟨.aa,v,?_,⟨[],od,Px,rfl,by rw [wj hc];rfl⟩,⟨x,IM,gx,nx,by rw [yP hc]⟩⟩
  unfold ai;rw [ax h.abo];simp only [go_sem,ya,LS,IM.ao,To.ao,ec,show (-1:Int)<0 by decide];exact V6 od IM _
 ·rcases (show y.length=0\/y.length=1\/2<=y.length by omega) with h0 | h1 | h2
  ·rw [List.eq_nil_of_length_eq_zero h0] at hb;simp [bv] at hb
  ·obtain ⟨d,rfl⟩:∃d,y=[d]:=by
    cases y with
    | nil=>simp at h1
    | cons d r=>cases r with
     | nil=>exact ⟨d,rfl⟩
     | cons e r=>simp at h1
   exact aA4 h IM To gx lx hb (GK.1 gy) ec (by omega)
  ·exact aA5 h IM To gx gy nx ny lx h2 ec (by omega)
end
end
section
open Go (IntKind)
def jq (v:AV) (n:Int):Prop:=∃w l,v= .agg [.bool (decide (n<0)),w]/\bB w l/\dg l/\nz l/\dv l=n.natAbs
def ik {l:List Int} {k:Nat} (hd:dg l) (hn:nz l) (h:dv l<1000000000^k):l.length<=k:=by
 by_cases h0:l=[]
 ·grind
 ·have h1:=PW hn hd h0;have h2:1000000000^(l.length-1)<1000000000^k:=xL h1 h;have h3:=(Nat.pow_lt_pow_iff_right (show 1<1000000000 by decide)).1 h2;omega
def bP {hp:Hp} {ct id:Nat} {a b x y:AV} (h1:cP a=true) (h2:cP b=true) (p1:bg a=true) (p2:bg b=true):
  gC hp ct id 0 2 [a,b] (some (.cells true true true 2 [x,y]))=some (.af [],bf hp id (.cells true true true 2 [a,b]),ct):=by
 rw [rq (by rfl) (by simp) (by simp [cr,h1,h2])];simp [aO,p1,p2,over]
section
variable {P:aJ} {L:Lib}
def cD (neg:Bool) (m:Nat):Int:=if neg=true then -(m:Int) else m
def rG (h:Has P L 294 CF) (cZ:Has P L 300 ma) (neg:Bool) {v:AV} {l:List Int} (hv:bB v l) (hd:dg l) (hl:l.length<=20000000000):
  ∃r,ai P L 294 [.bool neg,v] r/\jq r (cD neg (dv l)):=by
 obtain ⟨w,e1,hw,eV⟩:=CU cZ hv hl;have qU:=zL l;have Dt:=Gp l;have lL:=BP hd;have hc:(neg&&decide ((0:Int)<((et l).length:Nat)))=decide (cD neg (dv l)<0):=by
  unfold cD
  cases neg with
  | false=>simp
  | true=>
   simp only [Bool.true_and,xm];by_cases h0:et l=[]
   ·rw [h0] at qU ⊢;simp only [dv] at qU;simp [<-qU]
   ·have h1:0<(et l).length:=uT.2 h0;have h2:0<dv l:=by
     rw [<-qU];rcases xj (dv (et l)) with h | h
     ·exact absurd (Vy Dt lL h) h0
     ·exact h
    rw [yD (by omega),yD (by omega)]
 refine ⟨.agg [.bool (decide (cD neg (dv l)<0)),w],?_,w,et l,rfl,hw,lL,Dt,?_⟩
 ·rw [<-hc];unfold ai at e1 ⊢;rw [ax h]
  cases neg with
  | false=>
   simp only [go_sem,ya,yb,yi,CF,az,hv.ao,e1,hw.pu,hw.shut,hw.one,hw.cells,bP];rcases hw with ⟨rfl,_⟩ | ⟨e,rfl⟩<;>rfl
  | true=>
   simp only [go_sem,ya,yb,yi,CF,az,hv.ao,e1,hw.len,hw.pu,hw.shut,hw.one,hw.cells,bP];rcases hw with ⟨rfl,_⟩ | ⟨e,rfl⟩<;>rfl
 ·rw [qU];unfold cD;split<;>omega
def anr (h:Has P L 298 QD) (iL:Has P L 294 CF) (cZ:Has P L 300 ma) {v:AV} {n:Int} {K:Nat} (hK:K<=20000000000) (hv:jq v n) (hn:n.natAbs<1000000000^K):∃r,ai P L 298 [v] r/\jq r (-n):=by
 obtain ⟨w,l,rfl,hw,hd,hz,qU⟩:=hv;obtain ⟨r,e1,hr⟩:=rG iL cZ (!decide (n<0)) hw hd (yS (ik hd hz (by rw [qU];exact hn)) hK)
 have e:cD (!decide (n<0)) (dv l)= -n:=by
  rw [qU];unfold cD;by_cases h0:n<0
  ·simp [h0];omega
  ·simp [h0];omega
 rw [e] at hr;obtain ⟨w2,l2,rfl,ia,hZ,jV,AK⟩:=hr;refine ⟨_,?_,w2,l2,rfl,ia,hZ,jV,AK⟩;unfold ai at e1 ⊢;rw [ax h];simp only [go_sem,ya,yb,QD,az,hw.pu,hw.ao,hw.one,ia.pu,ia.one,aP,yd,bj,e1,bP,bq];rcases ia with ⟨rfl,_⟩ | ⟨e,rfl⟩<;>rfl
end
end
section
open Go (IntKind)
def cx (s:Int) (w:AV) (z:Int):Prop:=
 (w= .aa/\s=z/\-9223372036854775808<=z/\z<9223372036854775808)\/
 (∃e l,w= .ap e l.length (l.map uc)/\lo 18446744073709551616 l/\gB l/\bv 18446744073709551616 l=z.natAbs/\s=(if z<0 then -1 else 1)/\9223372036854775808<=z.natAbs)
def cu (v:AV) (z:Int):Prop:=∃s w,v= .agg [ab s,w]/\cx s w z
def Bd (k:Nat) (z:Int):Prop:=z.natAbs<2^k
def Cf (k:Nat):2^k<=18446744073709551616^k:=Nat.pow_le_pow_left (by decide) k
def Bd.mono {k m:Nat} {z:Int} (h:Bd k z) (hk:k<=m):Bd m z:=yO h (xx (by decide) hk)
def Bd.neg {k:Nat} {z:Int} (h:Bd k z):Bd k (-z):=by unfold Bd at h ⊢;rwa [Int.natAbs_neg]
def Bd.add {k m:Nat} {a b:Int} (ha:Bd k a) (hb:Bd m b):Bd (max k m+1) (a+b):=by
 have h1:Bd (max k m) a:=ha.mono (by omega);have h2:Bd (max k m) b:=hb.mono (by omega);unfold Bd at h1 h2 ⊢
 grind
def Bd.sub {k m:Nat} {a b:Int} (ha:Bd k a) (hb:Bd m b):Bd (max k m+1) (a-b):=by
 rw [Int.sub_eq_add_neg];exact ha.add hb.neg
def Bd.mul {k m:Nat} {a b:Int} (ha:Bd k a) (hb:Bd m b):Bd (k+m) (a*b):=by
 unfold Bd at*
 rw [Int.natAbs_mul,xO];exact Nat.mul_lt_mul'' ha hb
def Bd.le {k:Nat} {a b:Int} (hb:Bd k b) (h:a.natAbs<=b.natAbs):Bd k a:=xL h hb
def WN.pos {v:AV} {m:Nat} (h:WN v m) (h0:0<m):∃e l,v= .ap e l.length (l.map uc)/\l≠[]/\lo 18446744073709551616 l/\gB l/\bv 18446744073709551616 l=m:=by
 obtain ⟨l,hv,g,n,hb⟩:=h;have hl:l≠[]:=fun e=>by subst e;simp [bv] at hb;omega
 rcases hv with ⟨_,e⟩ | ⟨e,rfl⟩
 ·simp_all
 ·exact ⟨e,l,by simp,hl,g,n,hb⟩
def WN.zero {v:AV} (h:WN v 0):∃n,jb [] 1 v=some (.int .i64 n)/\n=0:=by
 obtain ⟨l,hv,g,n,hb⟩:=h
 have:=auo (b:=18446744073709551616) (by decide) n hb
 subst this;exact ⟨_,hv.len,rfl⟩
def WN.aK {v:AV} {m:Nat} (h:WN v m):∃l,bO v l/\lo 18446744073709551616 l/\gB l/\bv 18446744073709551616 l=m:=h
def ox (e:Bool) (n:Nat) (cs:List AV):iH .sl (.ap e n cs) .aa=some false:=rfl
def gX:iH .sl .aa .aa=some true:=rfl
def Pe (hp:Hp) (ct id:Nat) (a:Int) (e:Bool) (n:Nat) (cs:List AV) (x y:AV):gC hp ct id 0 2 [.int .i64 a,.ap e n cs] (some (.cells true true true 2 [x,y]))=some (.af [],bf hp id (.cells true true true 2 [.int .i64 a,.ap e n cs]),ct):=bP rfl rfl rfl rfl
def sj {tm:Env} {a x y:AV} {r:List (Nat×Nat×X)} (h:cP a=true):lj tm [x,y] 0 1 [a] r=fill tm [a,y] r:=ajN (by simp) h
def cx.pq {z:Int} (h1: -9223372036854775808<=z) (h2:z<9223372036854775808):cu (.agg [ab z,.aa]) z:=⟨z,.aa,rfl,.inl ⟨rfl,rfl,h1,h2⟩⟩
def cx.bG {s:Int} {w:AV} {z:Int} (h:cx s w z):(s<0↔z<0)/\(s=0↔z=0)/\-9223372036854775808<=s/\s<9223372036854775808:=by
 rcases h with ⟨_,rfl,h1,h2⟩ | ⟨e,l,_,_,_,_,rfl,h1⟩
 ·grind
 ·grind
section
variable {P:aJ} {L:Lib}
structure Nu (P:aJ) (L:Lib):Prop extends Wd P L where
 aD9:Has P L 117 Qi
 aEa:Has P L 142 Qk
 abt:Has P L 136 LR
 MH:Has P L 145 Ar
 pY:Has P L 146 As
 sM:Has P L 147 sF
 EV:Has P L 163 At
 aEb:Has P L 118 EB
 ans:Has P L 119 c119
 aEc:Has P L 156 W5
 Sd:Has P L 100 mK
 oH:Has P L 164 iJ
 R7:Has P L 148 Hg
 abj:Has P L 130 Hf
def rH (h:Nu P L) {z:Int} (h1: -9223372036854775808<=z) (h2:z<9223372036854775808):ai P L 117 [ab z] (.agg [ab z,.aa])/\cu (.agg [ab z,.aa]) z:=⟨n117 h.aD9 z,cx.pq h1 h2⟩
def abu (h:Nu P L) {n:Int} (h1: -9223372036854775808<=n) (h2:n<9223372036854775808):ai P L 142 [ab n] (uc n.natAbs):=by
 unfold ai;rw [ax h.aEa];by_cases h0:n<0
 ·have e:IntKind.wrap .u64 (IntKind.wrap .i64 (0-n))=(n.natAbs:Int):=by
   by_cases hm:n= -9223372036854775808
   ·subst hm;rfl
   ·rw [wrap64 (by omega) (by omega),P0];omega
  simp only [go_sem,ya,Qk,h0,akQ,e]
 ·have e:IntKind.wrap .u64 n=(n.natAbs:Int):=by rw [P0];omega
  simp only [go_sem,ya,Qk,h0,akQ,e]
def AL (h:Nu P L) {s:Int} {w:AV} {z:Int} (hz:cx s w z):∃r,ai P L 136 [.agg [ab s,w]] (.af [.bool (decide (z<0)),r])/\WN (b6 r) z.natAbs:=by
 rcases hz with ⟨rfl,rfl,h1,h2⟩ | ⟨e,l,rfl,g,n,hb,hs,h1⟩
 ·by_cases h0:s=0
  ·subst h0;refine ⟨.aa,?_,[],od,Px,rfl,rfl⟩;unfold ai;rw [ax h.abt];simp only [go_sem,ya,yb,LR,az,aP,yd,bj,gX,Li,Int.reduceLT];rfl
  ·have e1:=abu h h1 h2;refine ⟨.bV true 1 1 [uc s.natAbs],?_,[s.natAbs],ns true [s.natAbs],GK.2 (by omega),F2 (by omega) [],Ce _⟩;unfold ai;rw [ax h.abt];simp only [go_sem,ya,yb,yi,yj,LR,az,aP,yd,bj,gX,Li,h0,e1];rfl
 ·have A9:decide (s<0)=decide (z<0):=by rw [hs];split<;>simp<;>omega
  refine ⟨.ap e l.length (l.map uc),?_,l,ns e l,g,n,hb⟩;unfold ai;rw [ax h.abt];simp only [go_sem,ya,yb,LR,az,aP,yd,bj,ox,Li,A9];rfl
def afM {d:Nat} (h:d<=9223372036854775807):IntKind.wrap .i64 (d:Int)=d:=wrapN (by omega)
def E1 (h:Nu P L) (neg:Bool) {w:AV} {m K:Nat} (hw:WN w m) (hm:m<18446744073709551616^K) (hK:K<=90000000000):∃r,ai P L 145 [.bool neg,w] r/\cu r (cD neg m):=by
 obtain ⟨l,hu,g,n,hb⟩:=hw;have zi:l.length<=90000000000:=yS (oK n hb hm) hK;by_cases h0:l=[]
 ·subst h0
  have:m=0:=by rw [<-hb];rfl
  subst this;have e:cD neg 0=0:=by unfold cD;cases neg<;>rfl
  rw [e];refine ⟨.agg [ab 0,.aa],?_,cx.pq (by decide) (by decide)⟩;unfold ai;rw [ax h.MH];simp only [go_sem,ya,yb,Ar,az,hu.len,yJ,show (((0:Nat):Nat):Int)=0 from rfl,jy];rfl
 ·have kM:0<l.length:=uT.2 h0;by_cases h1:l.length=1/\l.getD 0 0<=9223372036854775807
  ·obtain ⟨h1,h2⟩:=h1;obtain ⟨d,rfl⟩:∃d,l=[d]:=by
    cases l with
    | nil=>simp at h1
    | cons d r=>cases r with
     | nil=>exact ⟨d,rfl⟩
     | cons e r=>simp at h1
   have h2:d<=9223372036854775807:=h2;rw [Ce] at hb;subst hb;have ex:=hu.bz (i:=0) (by simp);rw [show ([d]:List Nat).getD 0 0=d from rfl] at ex;have hlen:∀hp,jb hp 1 w=some (.int .i64 1):=fun hp=>hu.len
   cases neg with
   | true=>
    refine ⟨.agg [ab (0-(d:Int)),.aa],?_,?_⟩
    ·unfold ai;rw [ax h.MH]
     simp only [go_sem,ya,yb,yi,Ar,az,hlen,tj,ex,show (d:Int)<=9223372036854775807 by omega,Pz,afM h2,wrap64 (n:=0-(d:Int)) (by omega) (by omega),jy];rfl
    ·have:cD true d=0-(d:Int):=by unfold cD;simp
     rw [this];exact cx.pq (by omega) (by omega)
   | false=>
    refine ⟨.agg [ab (d:Int),.aa],?_,?_⟩
    ·unfold ai;rw [ax h.MH];simp only [go_sem,ya,yb,yi,Ar,az,hlen,tj,ex,show (d:Int)<=9223372036854775807 by omega,Pz,afM h2,jy];rfl
    ·have:cD false d=(d:Int):=by unfold cD;simp
     rw [this];exact cx.pq (by omega) (by omega)
  ·have hm0:9223372036854775808<=m:=by
    rw [<-hb];by_cases h2:l.length=1
    ·obtain ⟨d,rfl⟩:∃d,l=[d]:=by
      cases l with
      | nil=>simp at h2
      | cons d r=>cases r with
       | nil=>exact ⟨d,rfl⟩
       | cons e r=>simp at h2
     have:¬d<=9223372036854775807:=fun hd=>h1 ⟨h2,hd⟩
     rw [Ce];omega
    ·have h3:=Py (b:=18446744073709551616) (by decide) n h0;have h4:18446744073709551616^1<=18446744073709551616^(l.length-1):=xx (by decide) (by omega);rw [Nat.pow_one] at h4;omega
   have dM:∃e,w= .ap e l.length (l.map uc):=by
    rcases hu with ⟨rfl,hh⟩ | ⟨e,rfl⟩
    ·simp at hh;exact absurd hh h0
    ·exact ⟨e,by simp⟩
   obtain ⟨e,rfl⟩:=dM;have ex:=hu.bz (i:=0) kM;have first:(decide ((l.length:Int)=1)=true/\¬((l.getD 0 0:Nat):Int)<=9223372036854775807)\/decide ((l.length:Int)=1)=false:=by
    by_cases h2:l.length=1
    ·left;refine ⟨by simp;omega,fun hd=>h1 ⟨h2,by omega⟩⟩
    ·right;simp;omega
   cases neg with
   | true=>
    refine ⟨.agg [ab (-1),.ap e l.length (l.map uc)],?_,-1,_,rfl,.inr ⟨e,l,rfl,g,n,by rw [hb];unfold cD;simp,by unfold cD;simp;omega,by unfold cD;simp;omega⟩⟩
    unfold ai;rw [ax h.MH];rcases first with ⟨f1,f2⟩ | f1
    ·simp only [go_sem,ya,yb,yi,Ar,az,show ¬(l.length:Int)=0 by omega,f1,f2,ex,sj,Pe];rfl
    ·simp only [go_sem,ya,yb,yi,Ar,az,show ¬(l.length:Int)=0 by omega,f1,sj,Pe];rfl
   | false=>
    refine ⟨.agg [ab 1,.ap e l.length (l.map uc)],?_,1,_,rfl,.inr ⟨e,l,rfl,g,n,by rw [hb];unfold cD;simp,by unfold cD;simp,by unfold cD;simp;omega⟩⟩
    unfold ai;rw [ax h.MH];rcases first with ⟨f1,f2⟩ | f1
    ·simp only [go_sem,ya,yb,yi,Ar,az,show ¬(l.length:Int)=0 by omega,f1,f2,ex,sj,Pe];rfl
    ·simp only [go_sem,ya,yb,yi,Ar,az,show ¬(l.length:Int)=0 by omega,f1,sj,Pe];rfl
end
end
end VE
