import Derived.Test.YtlkgmaenobiooaaGreatDoorTay
import Derived.Test.YtlkgmaenobiooaaGreatDoorTax
set_option linter.all false
set_option maxRecDepth 100000
open Rat renaming div_def→xY,mul_assoc→uy,mul_comm→uI,mul_inv_cancel→wZ,mul_le_mul_of_nonneg_right→wy,neg_zero→uW,one_mul→tZ
namespace VE
def bt (p q z:Rat):Prop:=p<=z/\z<=q\/q<=z/\z<=p
def Sv {f:Rat->Rat->Rat} {a b c d u v z:Rat} (h1:bt u v z) (h2:bt (f a c) (f a d) u) (h3:bt (f b c) (f b d) v):dl (f a c) (bU f a b c d)<=z/\z<=dA (f a c) (bU f a b c d):=by
 simp only [dl,dA,bU,List.foldl];unfold bt at*
 generalize f a c=p at*
 generalize f a d=q at*
 generalize f b c=r at*
 generalize f b d=s at*
 grind
def PH {a b x:Rat} (h1:a<=x) (h2:x<=b) (y:Rat):bt (a*y) (b*y) (x*y):=by
 unfold bt;by_cases hy:0<=y
 ·exact .inl ⟨wy h1 hy,wy h2 hy⟩
 ·have e1:=wy h1 (show (0:Rat)<=-y by grind);have e2:=wy h2 (show (0:Rat)<=-y by grind);right;constructor<;>grind
def Pn {a b x:Rat} (h:bt a b x) (y:Rat):bt (y*a) (y*b) (y*x):=by
 rw [uI y,uI y,uI y];rcases h with ⟨h1,h2⟩ | ⟨h1,h2⟩
 ·exact PH h1 h2 y
 ·rcases PH h1 h2 y with h | h
  ·exact .inr h
  ·exact .inl h
def Gg {c:Rat} (h:0<c):0<c⁻¹:=by
 have:=wZ c (by grind)
 by_cases h1:0<c⁻¹
 ·exact h1
 ·have:=Rat.mul_le_mul_of_nonneg_left (show c⁻¹<=0 by grind) (show (0:Rat)<=c by grind)
  grind
def Po {c y:Rat} (hc:0<c) (h:c<=y):y⁻¹<=c⁻¹:=by
 have e1:=wZ c (by grind);have e2:=wZ y (by grind);have p1:=Gg hc;have p2:=Gg (show 0<y by grind)
 have:=wy h (show (0:Rat)<=c⁻¹*y⁻¹ from Rat.mul_nonneg (by grind) (by grind))
 have q1:c*(c⁻¹*y⁻¹)=y⁻¹:=by rw [<-uy,e1,tZ]
 have q2:y*(c⁻¹*y⁻¹)=c⁻¹:=by rw [uI c⁻¹,<-uy,e2,tZ]
 rwa [q1,q2] at this
def agQ (c:Rat):(-c)⁻¹= -c⁻¹:=by
 by_cases h:c=0
 ·rw [h,uW,Rat.inv_zero,uW]
 ·have e1:=wZ c h;have e2:=wZ (-c) (by grind)
  have:(-c)⁻¹=(-c)⁻¹*(c*c⁻¹):=by rw [e1,Rat.mul_one]
  grind
def aBy {c d y:Rat} (h1:c<=y) (h2:y<=d) (h0:¬(c<=0/\0<=d)):bt c⁻¹ d⁻¹ y⁻¹:=by
 by_cases hc:c<=0
 ·have hd:d<0:=by grind
  have e1:=Po (c:= -d) (y:= -y) (by grind) (by grind);have e2:=Po (c:= -y) (y:= -c) (by grind) (by grind);rw [agQ,agQ] at e1 e2;exact .inr ⟨by grind,by grind⟩
 ·exact .inr ⟨Po (by grind) h2,Po (by grind) h1⟩
section
variable {a b c d x y:Rat} (h1:a<=x) (h2:x<=b) (h3:c<=y) (h4:y<=d)
include h1 h2 h3 h4
def avF:dl (a+c) (bU (·+·) a b c d)<=x+y/\x+y<=dA (a+c) (bU (·+·) a b c d):=
 Sv (f:=(·+·)) (u:=a+y) (v:=b+y) (.inl ⟨by grind,by grind⟩) (.inl ⟨by grind,by grind⟩) (.inl ⟨by grind,by grind⟩)
def avG:dl (a-c) (bU (· - ·) a b c d)<=x-y/\x-y<=dA (a-c) (bU (· - ·) a b c d):=
 Sv (f:=(· - ·)) (u:=a-y) (v:=b-y) (.inl ⟨by grind,by grind⟩) (.inr ⟨by grind,by grind⟩) (.inr ⟨by grind,by grind⟩)
def Gh:dl (a*c) (bU (·*·) a b c d)<=x*y/\x*y<=dA (a*c) (bU (·*·) a b c d):=
 Sv (f:=(·*·)) (PH h1 h2 y) (Pn (.inl ⟨h3,h4⟩) a) (Pn (.inl ⟨h3,h4⟩) b)
def avH (h0:¬(c<=0/\0<=d)):dl (a/c) (bU (·/·) a b c d)<=x/y/\x/y<=dA (a/c) (bU (·/·) a b c d):=by
 have g:=aBy h3 h4 h0;have k:=Sv (f:=fun p q=>p/q) (a:=a) (b:=b) (c:=c) (d:=d) (u:=a/y) (v:=b/y) (z:=x/y) (by rw [xY,xY,xY];exact PH h1 h2 _) (by rw [xY,xY,xY];exact Pn g a) (by rw [xY,xY,xY];exact Pn g b)
 exact k
end
def Lm {a b:Rat} {K:Nat} (ka:Hq K a) (kb:Hq K b) (hK:K<=1800) (h:a<=b):cB (RT a) (RT b)=0:=by
 unfold cB;rw [We ka hK,We kb hK,P5 ka hK,P5 kb hK,yp (by simp [cX]),yp (by grind)]
def Gi {a b:Rat} {K:Nat} (ka:Hq K a) (kb:Hq K b) (hK:K<=1800):kF a b= .af [.agg [.str (RT a),.str (RT b)],ab 0]:=by
 unfold kF;rw [G3 ka hK,G3 kb hK];rfl
end VE
