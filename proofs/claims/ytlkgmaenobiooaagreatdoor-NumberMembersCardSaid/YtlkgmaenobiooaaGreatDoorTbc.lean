import Derived.Test.YtlkgmaenobiooaaGreatDoorTbb
import Derived.Test.YtlkgmaenobiooaaGreatDoorTaz
set_option linter.all false
set_option maxRecDepth 100000
open List renaming drop→wK,drop_zero→ye
open Nat renaming reduceAdd→yb,reduceEqDiff→ya,zero_add→yd
open Rat renaming le_trans→tY,mul_nonneg→vA
namespace VE
open Go (IntKind)
def B0 {s:List Nat} (h:cS 5 s=true):cS 6 s=true:=by
 unfold cS at*
 simp only [Bool.and_eq_true,xt] at*
 omega
def sq_nonneg (u:Rat):0<=u*u:=by
 by_cases h:0<=u
 ·exact vA h h
 ·have:=vA (show (0:Rat)<=-u by grind) (show (0:Rat)<=-u by grind)
  grind
def afW {a b u:Rat} (h1:a<=u) (h2:u<=b):0<=gM a b/\gM a b<=u*u/\u*u<=du a b a b:=by
 have hm:=Gh h1 h2 h1 h2;refine ⟨?_,?_,hm.2⟩
 ·unfold gM
  split
  ·exact Rat.le_refl
  ·have q1:=sq_nonneg a;have q2:=sq_nonneg b;simp only [dl,List.foldl]
   split<;>assumption
 ·rw [OW (tY h1 h2)];unfold mZ
  split
  ·exact sq_nonneg u
  ·exact hm.1
section
variable {P:aJ} {L:Lib}
def aoj (h:Rp P L) (eE:Has P L 261 nJ) (bD:Has P L 315 fU) (eQ:Has P L 419 mL) (me:Has P L 359 pW) (sW:Has P L 451 CN) (Sx:Has P L 466 Mh) {k:Nat} (hk:k<=1000) {a b c d:List Nat}
  (la:a.length<9223372036854775808) (lb:b.length<9223372036854775808) (lc:c.length<9223372036854775808) (ld:d.length<9223372036854775808):ai P L 466 [dh a b c d,ab k] (.bool ((cS k a&&cS k b&&decide (cB a b=0))&&(cS k c&&cS k d&&decide (cB c d=0)))):=by
 have e1:=Su h eE bD eQ me sW hk la lb;have e2:=Su h eE bD eQ me sW hk lc ld;have fX:∀a b c d:AV,wK 2 [a,b,c,d]=[c,d]:=fun _ _ _ _=>rfl
 generalize (cS k a&&cS k b&&decide (cB a b=0))=x at*
 generalize (cS k c&&cS k d&&decide (cB c d=0))=y at*
 unfold dh bF at*
 unfold ai at e1 e2 ⊢;rw [ax Sx];cases x
 ·simp only [go_sem,ya,yb,Mh,az,aP,yd,ye,cp,aU,e1,Bool.false_and]
 ·simp only [go_sem,ya,yb,Mh,az,aP,yd,fX,ye,cp,aU,e1,e2,Bool.true_and]
def aFj (h:Rp P L) (bD:Has P L 315 fU) (iP:Has P L 424 sK) (Fe:Has P L 467 Mi) {a b c d u v:Rat} {K:Nat} (ka:Hq K a) (kb:Hq K b) (kc:Hq K c) (kd:Hq K d) (ku:Hq K u) (kv:Hq K v) (hK:K<=1000000000)
  (hu:a<=u/\u<=b) (hv:c<=v/\v<=d):ai P L 467 [jL a b c d,.str (RT u),.str (RT v)] (.bool true):=by
 have e1:=Ic h bD iP ka kb ku hK;have e2:=Ic h bD iP kc kd kv hK;rw [show jS a b u=true by unfold jS;rw [yD hu.1,yD hu.2];rfl] at e1
 rw [show jS c d v=true by unfold jS;rw [yD hv.1,yD hv.2];rfl] at e2
 have fX:∀a b c d:AV,wK 2 [a,b,c,d]=[c,d]:=fun _ _ _ _=>rfl
 unfold cF at e1 e2;unfold ai at e1 e2 ⊢;rw [ax Fe];simp only [go_sem,ya,yb,Mi,jL,az,aP,yd,fX,ye,cp,aU,e1,e2]
def aca (h:Rp P L) (eE:Has P L 261 nJ) (bD:Has P L 315 fU) (eQ:Has P L 419 mL) (sU:Has P L 422 EO) (iP:Has P L 424 sK) (Fe:Has P L 467 Mi) {a b c d u v:Rat} (ka:Hq 400 a) (kb:Hq 400 b) (kc:Hq 400 c) (kd:Hq 400 d) (ku:Hq 400 u) (kv:Hq 400 v)
  (hu:a<=u/\u<=b) (hv:c<=v/\v<=d):rK a b c d= .af [.agg [.str (RT a),.str (RT b),.str (RT c),.str (RT d)],ab 0]/\ai P L 422 [jL a b c d] (ab 0)/\ai P L 467 [jL a b c d,.str (RT u),.str (RT v)] (.bool true):=by
 have l:∀{x:Rat},Hq 400 x->(RT x).length<=1000000000:=fun k=>Nat.le_trans (pK k) (by decide)
 refine ⟨?_,?_,aFj h bD iP Fe ka kb kc kd ku kv (by decide) hu hv⟩
 ·unfold rK;rw [G3 ka (by decide),G3 kb (by decide),G3 kc (by decide),G3 kd (by decide)];rfl
 ·have e:=ab7 h eE bD eQ sU (l ka) (l kb) (l kc) (l kd);rw [yz (Lm ka kb (by decide) (tY hu.1 hu.2)),Lm kc kd (by decide) (tY hv.1 hv.2)] at e;exact e
end
end VE
