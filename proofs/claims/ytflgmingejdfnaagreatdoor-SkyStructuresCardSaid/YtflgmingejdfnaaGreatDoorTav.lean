import Derived.Test.YtflgmingejdfnaaGreatDoorTau
import Derived.Test.YtflgmingejdfnaaGreatDoorTal
import Derived.Test.YtflgmingejdfnaaGreatDoorTak
import Derived.Test.YtflgmingejdfnaaGreatDoorTaq
set_option linter.all false
set_option maxRecDepth 100000
open Bool renaming not_true→yQ
open Int renaming add_assoc→uv,add_comm→yaN,add_emod_right→tp,add_mul→uX,add_zero→vI,emod_eq_of_lt→tO,emod_lt_of_pos→ud,emod_nonneg→uK,emod_sub_emod→tN,gcd→xJ,gcd_one→yaT,mul_add→yaH,mul_le_mul_of_nonneg_left→we,mul_one→vD,mul_pos→wT,mul_zero→vO,natAbs_mul→xi,natAbs_natCast→uf,natAbs_neg→yam,natCast_add→vJ,natCast_mul→xC,neg_gcd→yaW,neg_mul_neg→su,toNat_natCast→xV,toNat_of_nonneg→wu
open List renaming append_nil→xS,drop_left→uO,ext_getElem→tG,getElem?_map→tg,getElem_map→vd,getElem_range→tf,length_map→yL,mem_cons_of_mem→xU,mem_cons_self→wJ,mem_map→wZ,range→yO
open Nat renaming ble_eq_true_of_le→yt,le_refl→yC,lt_of_le_of_lt→xA,mul_le_mul→yX,mul_one→yv,mul_pos→yaD,not_lt_zero→w5,pow_le_pow_right→xL,reduceAdd→yc,reduceEqDiff→ya,reduceLT→yV,reduceLeDiff→ym,zero_add→yp
open Option.some renaming inj→vC
namespace VE
section
open Go (IntKind)
def Ip {a b:Nat} (h:aD a=aD b):a=b:=by
 have h1:=oA a;rw [h,oA b] at h1;exact (vC h1).symm
def PI:∀(k n:Nat),n<k->n≠0->∃b r,aD n=b::r/\b≠48
 | 0,n,h,_=>absurd h (w5 n)
 | k+1,n,h,h0=>by
  by_cases h1:n<10
  ·exact ⟨48+n,[],kj h1,by omega⟩
  ·obtain ⟨b,r,e,hb⟩:=PI k (n/10) (by omega) (by omega);exact ⟨b,r++[48+n%10],by rw [li (by omega),e];rfl,hb⟩
def OM (n:Nat):eX (aD n)=true:=by
 unfold eX;rw [qj,Bool.true_and];by_cases h0:n=0
 ·subst h0;decide
 ·obtain ⟨b,r,e,hb⟩:=PI (n+1) n (by omega) h0;rw [e]
  have:Nat.beq b 48=false:=by
   cases hq:Nat.beq b 48 with
   | false=>rfl
   | true=>exact absurd (Nat.eq_of_beq_eq_true hq) hb
  simp [this]
def ON (n:Nat):fF (aD n)=n:=by unfold fF;rw [oA];rfl
def acn {z:Int} (h:¬z<0):bE z=aD z.natAbs:=by
 obtain ⟨m,rfl⟩:∃m:Nat,z=m:=⟨z.toNat,by omega⟩;rw [oG,uf]
def aiV (r:Rat):RT r=bE r.num++gh r.den:=rfl
def ahd {r:Rat} (h1:(aD r.num.natAbs).length<=600) (h2:(aD r.den).length<=600):dV (RT r)=0:=by
 have key:∀neg:Bool,(neg=true->r.num.natAbs≠0)->jV neg (aD r.num.natAbs++gh r.den)=0:=by
  intro neg dU;have hco:Nat.gcd r.num.natAbs r.den=1:=r.reduced;have se:r.den≠0:=r.den_nz;generalize r.num.natAbs=m at*
  generalize r.den=d at*
  have hs:bV (aD m++gh d)=(aD m).length:=by rw [AD _ (qj m),MU];rfl
  have c1:¬((true=false)\/(neg=true/\aD m=[48])):=by
   rintro (h | ⟨h,h'⟩)
   ·cases h
   ·exact dU h (Ip (h'.trans (by decide)))
  unfold jV;rw [hs,List.take_left,OM,yE c1];by_cases hd:d=1
  ·have hr:gh d=[]:=yS hd;rw [hr,xS,yE (by omega),yE (by omega),yE (by omega)]
  ·have hr:gh d=47::aD d:=yE hd;have iR:(aD m++gh d).drop ((aD m).length+1)=aD d:=by
    rw [hr,show aD m++47::aD d=(aD m++[47])++aD d by simp,show (aD m).length+1=(aD m++[47]).length by simp,uO]
   have hl:(aD m++gh d).length=(aD m).length+1+(aD d).length:=by rw [hr];simp;omega
   rw [iR,hl,OM,ON,ON];have n0:aD d≠[48]:=fun e=>se (Ip (e.trans (by decide)))
   have n1:aD d≠[49]:=fun e=>hd (Ip (e.trans (by decide)))
   rw [yE (by simp [n0,n1]),yE (by omega),yE (by simp [hco])]
 rw [aiV];by_cases h0:r.num<0
 ·rw [qv h0];show (if 45=45 then jV true (aD r.num.natAbs++gh r.den) else jV false (45::(aD r.num.natAbs++gh r.den)))=0
  rw [yS rfl];exact key true (fun _=>by omega)
 ·rw [acn h0];have k:=key false (fun h=>by cases h);have hp:=qw r.num.natAbs;have jF:=qj r.num.natAbs
  cases hq:aD r.num.natAbs with
  | nil=>rw [hq] at hp;simp at hp
  | cons b t=>
   rw [hq] at k jF
   have:=Z5 jF
   show (if b=45 then jV true (t++gh r.den) else jV false (b::(t++gh r.den)))=0
   rw [yE (by omega)];exact k
def Rx {r:Rat} {K:Nat} (h:Hq K r) (hK:K<=1800):(aD r.num.natAbs).length<=600/\(aD r.den).length<=600:=by
 refine ⟨M2 (B:=K) hK (by decide) h.1,M2 (B:=K) hK (by decide) ?_⟩
 have:=h.2
 unfold Bd at this
 rwa [uf] at this
def ED {r:Rat} {K:Nat} (h:Hq K r) (hK:K<=1800):dV (RT r)=0:=ahd (Rx h hK).1 (Rx h hK).2
section
variable {P:aF} {L:Lib}
end
end
section
open Go (IntKind)
def Bx {w:AV} {s:List (List Int)} (hw:cf w s) (h:cV s=0):Db w s s.length:=by
 obtain ⟨a1,a2,a3⟩:=lX h;exact ⟨hw,rfl,a1,a2,fun i hi=>(mc a3 i hi).1,a3⟩
def lyT (w:AV) (hh sc st ox oy wx wy:List Nat):AV:= .agg [w,.str hh,.str sc,.str st,.str ox,.str oy,.str wx,.str wy]
noncomputable def akw (s:List (List Int)) (hh sc st ox oy wx wy:List Nat):Int:=cu [cV s,UZ hh 0,UZ sc 1,dV st,cu [dV ox,dV oy],cu [dV wx,dV wy]]
structure Lp (P:aF) (L:Lib):Prop extends Sp P L,Vl P L,GQ P L where
 h24:Has P L 24 Vt
 h57:Has P L 57 VA
 h66:Has P L 66 VJ
 h67:Has P L 67 VK
 aon:Has P L 115 TH
 aoo:Has P L 116 TI
section
variable {P:aF} {L:Lib}
section
variable (h:Lp P L) {w:AV} {s:List (List Int)} (hw:cf w s) (hl:s.length<=1000000) (hr:∀i (hi:i<s.length),s[i].length<=1000000) {hh sc st ox oy wx wy dx dy sh x y:List Nat} {fr:Int} (l1:hh.length<=1000000000) (l2:sc.length<=1000000000) (l3:st.length<=1000000000) (l4:ox.length<=1000000000) (l5:oy.length<=1000000000) (l6:wx.length<=1000000000) (l7:wy.length<=1000000000) (l8:dx.length<=1000000000) (l9:dy.length<=1000000000) (la:sh.length<=1000000000) (lb:x.length<=1000000000) (lc:y.length<=1000000000)
include h hw hl hr l1 l2 l3 l4 l5 l6 l7 l8 l9 la lb lc
end
end
end
section
open Go (IntKind)
def ahe {s:List (List Int)} {n:Nat} (hn:s.length=n) (hr:∀i (hi:i<s.length),s[i].length=n):pU n (fun c r=>kv s r c)=s:=by
 apply tG
 ·rw [A6,hn]
 ·intro i h1 h2;rw [II (by omega)];apply tG
  ·grind
  ·intro j h3 h4;simp only [vd,tf];exact (s7 h2 h4).symm
section
variable {P:aF} {L:Lib}
end
end
section
open Go (IntKind)
def iD (d k:Nat) (a:Rat):Prop:=∃z:Int,a*(d:Rat)=(z:Rat)/\z.natAbs<2^k
def iD.add {d k m:Nat} {a b:Rat} (ha:iD d k a) (hb:iD d m b):iD d (max k m+1) (a+b):=by
 obtain ⟨z,e1,h1⟩:=ha;obtain ⟨y,e2,h2⟩:=hb;refine ⟨z+y,by rw [Rat.add_mul,e1,e2,Rat.intCast_add],?_⟩;have a1:2^k<=2^(max k m):=xL (by decide) (Nat.le_max_left k m);have a2:2^m<=2^(max k m):=xL (by decide) (Nat.le_max_right k m);have a3:2^(max k m+1)=2^(max k m)*2:=Nat.pow_succ 2 (max k m);generalize 2^(max k m)=M at*
 generalize 2^k=A at*
 generalize 2^m=B at*
 omega
def iD.mul {d e k m:Nat} {a b:Rat} (ha:iD d k a) (hb:iD e m b):iD (d*e) (k+m) (a*b):=by
 obtain ⟨z,e1,h1⟩:=ha;obtain ⟨y,e2,h2⟩:=hb;refine ⟨z*y,?_,?_⟩
 ·rw [Rat.natCast_mul,Rat.intCast_mul,<-e1,<-e2];grind
 ·rw [xi,Nat.pow_add];exact Nat.mul_lt_mul'' h1 h2
def iD.int {c:Int} {k:Nat} (h:c.natAbs<2^k):iD 1 k (c:Rat):=⟨c,by grind,h⟩
def iD.mono {d k m:Nat} {a:Rat} (h:iD d k a) (hk:k<=m):iD d m a:=by
 obtain ⟨z,e,h1⟩:=h;exact ⟨z,e,Nat.lt_of_lt_of_le h1 (xL (by decide) hk)⟩
def iD.zero (d:Nat):iD d 0 0:=⟨0,by grind,by decide⟩
def iD.Hq {d k:Nat} {a:Rat} (h:iD d k a) (h0:0<d) (hd:d<2^k):Hq k a:=by
 obtain ⟨z,e,h1⟩:=h;have se:(d:Rat)≠0:=by
  intro c
  have:=Rat.natCast_eq_zero_iff.1 c
  omega
 have ha:a=Rat.divInt z (d:Int):=by
  rw [Rat.divInt_eq_div,<-e,Rat.intCast_natCast,Rat.div_def,Rat.mul_assoc,Rat.mul_inv_cancel _ se,Rat.mul_one]
 obtain ⟨p1,p2⟩:=G1 (a:=z) (b:=(d:Int)) (by omega);have hn:a.num=aS z d:=by rw [ha,p1];rfl
 have Ap:(a.den:Int)=aQ z d:=by rw [ha,p2];rfl
 have b1:=ko z d;have b2:=lh z d;refine ⟨?_,?_⟩
 ·unfold Bd;rw [hn];omega
 ·unfold Bd;rw [Ap];omega
end
section
open Go (IntKind)
def OO {lo hi:Int}:∀{l:List Int},(∀x,x∈l->lo<=x/\x<=hi)->dz lo hi l=false
 | [],_=>rfl
 | a::r,h=>by
  have:=h a wJ
  rw [dz,yE (by omega)];exact OO fun x hx=>h x (xU _ hx)
def NV {n:Nat} {lo hi:Int}:∀{l:List (List Int)},(∀r,r∈l->r.length=n/\∀x,x∈r->lo<=x/\x<=hi)->dZ n lo hi l=0
 | [],_=>rfl
 | r::l,h=>by
  have h1:=h r wJ;rw [dZ,yE (by simp [h1.1]),OO h1.2,yE (by decide)];exact NV fun q hq=>h q (xU _ hq)
def PJ {n:Nat} {f:Nat->Nat->Int} (h0:0<n) (h1:n<=16) (hf:∀c r,-1000<=f c r/\f c r<=1000):cV (pU n f)=0:=by
 unfold cV;rw [A6,yE (by omega),yE (by omega)];refine NV fun r hr=>?_
 obtain ⟨i,_,rfl⟩:=wZ.1 hr;refine ⟨by simp,fun x hx=>?_⟩;obtain ⟨j,_,rfl⟩:=wZ.1 hx;exact hf j i
def iH (s:List (List Int)) (a b:Int):List (List Int):=pU s.length (fun c r=>bk s ((c:Int)-a) ((r:Int)-b))
def DD {s:List (List Int)} (h0:0<s.length) (a b c r:Int):bk (iH s a b) c r=bk s (c-a) (r-b):=by
 have hl:(iH s a b).length=s.length:=A6 _ _;have hr:∀i (hi:i<(iH s a b).length),(iH s a b)[i].length=s.length:=fun i hi=>by
  have e:(iH s a b)[i]'hi=(yO s.length).map fun c:Nat=>bk s ((c:Int)-a) ((i:Int)-b):=II (n:=s.length) (f:=fun c r=>bk s ((c:Int)-a) ((r:Int)-b)) (by rw [hl] at hi;exact hi)
  rw [e];simp
 obtain ⟨h1,h2,h3⟩:=Ig hl h0 hr c r;rw [h3];have a1:=uK r (show (s.length:Int)≠0 by omega);have a2:=ud r (show (0:Int)<s.length by omega);have b1:=uK c (show (s.length:Int)≠0 by omega);have b2:=ud c (show (0:Int)<s.length by omega);have e:(iH s a b)[(r%s.length).toNat]'h1=(yO s.length).map fun c:Nat=>bk s ((c:Int)-a) (((r%s.length).toNat:Int)-b):=II (n:=s.length) (f:=fun c r=>bk s ((c:Int)-a) ((r:Int)-b)) (by omega)
 have e2:((iH s a b)[(r%s.length).toNat]'h1)[(c%s.length).toNat]'h2=bk s (((c%s.length).toNat:Int)-a) (((r%s.length).toNat:Int)-b):=by
  simp only [e,vd,tf]
 rw [e2,wu a1,wu b1];refine HM rfl _ _ _ _ ?_ ?_
 ·rw [tN]
 ·rw [tN]
section
variable {P:aF} {L:Lib}
end
end
section
open Go (IntKind)
abbrev dE (a b:Int):AV:=Fq (aS a b) (aQ a b)
def aco (a:Int):aS a 1=a:=by unfold aS;rw [yaT];exact Int.ediv_one a
def acp (a:Int):aQ a 1=1:=by unfold aQ;rw [yaT];rfl
def Iq (a:Int):dE a 1=Fq a 1:=by rw [dE,aco,acp]
def IQ {a b c d:Int} (hb:0<b) (hd:0<d) (h:a*d=c*b):dE a b=dE c d:=by
 obtain ⟨h1,h2⟩:=ajR hb hd h;rw [dE,h1,h2]
section
variable {P:aF} {L:Lib}
structure Na (P:aF) (L:Lib):Prop where
 zH:Has P L 100 zu
 Uz:Has P L 101 zx
 UB:Has P L 102 Fh
 UA:Has P L 111 Fi
 J3:Has P L 117 BZ
 J4:Has P L 119 c119
 FD:Has P L 130 zy
 nS:Has P L 142 rB
 jU:Has P L 146 nN
 mE:Has P L 147 oY
 Ci:Has P L 148 zB
 rG:Has P L 163 oZ
 kH:Has P L 164 mA
 Wc:Has P L 46 CQ
 kW:Has P L 49 c49
 V8:Has P L 50 F7
 V7:Has P L 69 Gc
 Wa:Has P L 70 Gd
 V9:Has P L 73 Ge
 Lc:Has P L 74 z6
 Gz:Has P L 98 CS
 Wb:Has P L 99 KV
 Cu:L.pure 143=some qG
 akx:L.pure 135=some EK
def n111 (h:Na P L) (n:Int):aj P L 111 [Nm n] (Fq n 1):=by
 have e1:=n117 h.J3 1;unfold aj at e1 ⊢;rw [aR h.UA];simp only [go_sem,ya,yc,Fi,bL,js,gU,e1,cI,Ev,Ew];rfl
def n69 (h:Na P L) (n:Int):aj P L 69 [ab n] (Fq n 1):=by
 have e1:=n117 h.J3 n;have e2:=n111 h n;unfold aj at e1 e2 ⊢;rw [aR h.V7];simp only [go_sem,ya,yc,Gc,bL,js,df,e1,e2,cI];rfl
def make (h:Na P L) {a b:Int} (ha: -4611686018427387904<a/\a<4611686018427387904) (hb:0<b/\b<4611686018427387904):aj P L 101 [Nm a,Nm b] (dE a b):=
 n101 h.Uz h.Ci h.FD h.rG h.mE h.jU h.kH ha hb
def n49 (h:Na P L) {a b c d:Int} (hb:0<b) (hd:0<d) (h1:(aS a b).natAbs*(aS c d).natAbs<4611686018427387904) (h2:(aQ a b).natAbs*(aQ c d).natAbs<4611686018427387904)
  (q1:(aS a b).natAbs<4611686018427387904) (q2:(aS c d).natAbs<4611686018427387904) (q3:(aQ a b).natAbs<4611686018427387904) (q4:(aQ c d).natAbs<4611686018427387904):
  aj P L 49 [dE a b,dE c d] (dE (a*c) (b*d)):=by
 have p1:=mg (a:=a) hb;have p2:=mg (a:=c) hd;have p3:=wT p1 p2;have e1:=n100 h.zH h.nS h.Cu (a:=aS a b) (b:=aS c d) (by omega) (by omega) h1;have e2:=n100 h.zH h.nS h.Cu (a:=aQ a b) (b:=aQ c d) (by omega) (by omega) h2;have m1:(aS a b*aS c d).natAbs<4611686018427387904:=by rw [xi];exact h1
 have m2:(aQ a b*aQ c d).natAbs<4611686018427387904:=by rw [xi];exact h2
 have e3:=make h (a:=aS a b*aS c d) (b:=aQ a b*aQ c d) (by omega) (by omega);have e4:dE (aS a b*aS c d) (aQ a b*aQ c d)=dE (a*c) (b*d):=by
  refine IQ p3 (wT hb hd) ?_;have x1:=qP a b;have x2:=s8 a b;have x3:=qP c d;have x4:=s8 c d;generalize aS a b=A at*
  generalize aQ a b=B at*
  generalize aS c d=C at*
  generalize aQ c d=E at*
  generalize ((xJ a b:Nat):Int)=g at*
  generalize ((xJ c d:Nat):Int)=k at*
  rw [x1,x2,x3,x4]
  ac_rfl
 rw [<-e4];unfold aj at e1 e2 e3 ⊢;rw [aR h.kW];simp only [go_sem,ya,yc,c49,bL,js,gU,df,e1,e2,e3,cI,cP,yp,q9];rfl
def U1 (h:Na P L) {a b c d:Int} (hb:0<b) (hd:0<d) (h1:a.natAbs*c.natAbs<4611686018427387904) (h2:b.natAbs*d.natAbs<4611686018427387904)
  (q1:a.natAbs<4611686018427387904) (q2:c.natAbs<4611686018427387904) (q3:b.natAbs<4611686018427387904) (q4:d.natAbs<4611686018427387904):
  aj P L 49 [dE a b,dE c d] (dE (a*c) (b*d)):=
 n49 h hb hd (xA (yX (ko a b) (ko c d)) h1) (xA (yX (lh a b) (lh c d)) h2)
  (xA (ko a b) q1) (xA (ko c d) q2) (xA (lh a b) q3) (xA (lh c d) q4)
def acq {a b:Int} (ha:0<a) (hb:0<b):0<aS a b:=by
 have h1:=Eh (a:=a) hb;have h2:=qP a b;rcases Int.lt_trichotomy (aS a b) 0 with h | h | h
 ·have:=Int.mul_neg_of_pos_of_neg h1 h;omega
 ·rw [h,vO] at h2;omega
 ·exact h
def n73 (h:Na P L) {a b:Int} (ha:0<a/\a<4611686018427387904) (hb:0<b/\b<4611686018427387904):aj P L 73 [dE a b] (dE b a):=by
 have r1:=ko a b;have r2:=lh a b;have p1:=acq ha.1 hb.1;have p2:=mg (a:=a) hb.1;have e3:=make h (a:=aQ a b) (b:=aS a b) (by omega) (by omega);have e4:dE (aQ a b) (aS a b)=dE b a:=by
  refine IQ p1 ha.1 ?_;have x1:=qP a b;have x2:=s8 a b;generalize aS a b=A at*
  generalize aQ a b=B at*
  generalize ((xJ a b:Nat):Int)=g at*
  rw [x1,x2]
  ac_rfl
 rw [<-e4];unfold aj at e3 ⊢;rw [aR h.V9];simp only [go_sem,ya,yc,Ge,bL,js,gU,df,e3,cI,cP,yp,q9];rfl
def n70 (h:Na P L) {a c:Int} (ha:a.natAbs<2147483648) (hc:0<c/\c<2147483648):aj P L 70 [Fq a 1,Fq c 1] (dE a c):=by
 have e1:=n73 h (a:=c) (b:=1) (by omega) (by decide);have e2:=U1 h (a:=a) (b:=1) (c:=1) (d:=c) (by decide) hc.1 (by simp;omega) (by simp;omega) (by omega) (by decide) (by decide) (by omega);rw [vD,Int.one_mul,Iq] at e2;rw [Iq] at e1;unfold aj at e1 e2 ⊢;rw [aR h.Wa];simp only [go_sem,ya,yc,Gd,bL,js,oV,df,e1,e2,cI];rfl
def n102 (h:Na P L) {a b:Int} (ha:a.natAbs<4611686018427387904):aj P L 102 [dE a b] (Fq (-(aS a b)) (aQ a b)):=by
 have r1:=ko a b;have e1:=n147 h.mE (n:=aS a b) (by omega);unfold aj at e1 ⊢;rw [aR h.UB];simp only [go_sem,ya,yc,Fh,bL,js,gU,df,e1,cI,cP,yp,q9,Ev,Ew];rfl
def acr (a b:Int):Fq (-(aS a b)) (aQ a b)=dE (-a) b:=by
 have h1:aS (-a) b= -(aS a b):=by
  unfold aS;rw [yaW,Int.neg_ediv_of_dvd (Int.gcd_dvd_left a b)]
 have h2:aQ (-a) b=aQ a b:=by unfold aQ;rw [yaW]
 rw [dE,h1,h2]
def n99 (h:Na P L) {n:Int} (hn: -9223372036854775808<n/\n<9223372036854775808):aj P L 99 [Nm n] (.str (bE n)):=by
 have e:b5 P L (D P L) 135 [ab n]=some (.str (bE n)):=by
  rw [Oz h.akx]
  have:BJ n=true:=by
   cases n with
   | ofNat k=>
    have h2:(k:Int)<9223372036854775808:=hn.2;exact yt (show k+1<=9223372036854775808 by omega)
   | negSucc k=>
    rw [Int.negSucc_eq] at hn;exact yt (show k+1<=9223372036854775808 by omega)
  show (bif BJ n then _ else none)=_
  rw [this];rfl
 unfold aj;rw [aR h.Wb];simp only [go_sem,ya,yc,KV,bL,mh,jM,cP,yp,fj,e]
def n46 (h:Na P L) {a b:Int} (ha:a.natAbs<4611686018427387904) (hb:0<b/\b<4611686018427387904):aj P L 46 [dE a b] (.str (fO a b)):=by
 have r1:=ko a b;have r2:=lh a b;have e1:=K9 h.Gz (aS a b) (aQ a b);have e2:=n99 h (n:=aS a b) (by omega);have e3:=n99 h (n:=aQ a b) (by omega);have l2:=Ij (n:=aS a b) (by omega);have l3:=Ij (n:=aQ a b) (by omega);unfold aj at e1 e2 e3 ⊢;rw [aR h.Wc];by_cases h1:aQ a b=1
 ·have hT:fO a b=bE (aS a b):=by unfold fO;rw [yS h1]
  rw [h1] at e1;rw [hT];simp only [go_sem,ya,yc,CQ,bL,gU,oV,df,e1,h1,yz,cP,yp,e2]
 ·have hT:fO a b=(bE (aS a b)++[47])++bE (aQ a b):=by unfold fO;rw [yE h1]
  rw [hT]
  simp only [go_sem,ya,yc,CQ,bL,gU,oV,df,e1,h1,yD,cP,yp,q9,e2,fJ (a:=bE (aS a b)) (b:=[47]) (by simp;omega),e3,fJ (a:=bE (aS a b)++[47]) (b:=bE (aQ a b)) (by simp;omega)]
def n74 (h:Na P L) {a b c d:Int} (hb:0<b) (hd:0<d) (h1:a.natAbs*d.natAbs<1152921504606846976) (h2:c.natAbs*b.natAbs<1152921504606846976) (h3:b.natAbs*d.natAbs<1152921504606846976)
  (q1:a.natAbs<1152921504606846976) (q2:c.natAbs<1152921504606846976) (q3:b.natAbs<1152921504606846976) (q4:d.natAbs<1152921504606846976):
  aj P L 74 [dE a b,dE c d] (dE (a*d+c*b) (b*d)):=by
 have p1:=mg (a:=a) hb;have p2:=mg (a:=c) hd;have p3:=wT p1 p2;have r1:=ko a b;have r2:=lh a b;have r3:=ko c d;have r4:=lh c d;have f1:=K9 h.Gz (aS a b) (aQ a b);have f2:=K9 h.Gz (aS c d) (aQ c d);have g1:(aS a b).natAbs*(aQ c d).natAbs<1152921504606846976:=xA (yX r1 r4) h1;have g2:(aS c d).natAbs*(aQ a b).natAbs<1152921504606846976:=xA (yX r3 r2) h2;have g3:(aQ a b).natAbs*(aQ c d).natAbs<1152921504606846976:=xA (yX r2 r4) h3;have m1:(aS a b*aQ c d).natAbs<1152921504606846976:=by rw [xi];exact g1
 have m2:(aS c d*aQ a b).natAbs<1152921504606846976:=by rw [xi];exact g2
 have m3:(aQ a b*aQ c d).natAbs<1152921504606846976:=by rw [xi];exact g3
 have e4:dE (aS a b*aQ c d+aS c d*aQ a b) (aQ a b*aQ c d)=dE (a*d+c*b) (b*d):=by
  refine IQ p3 (wT hb hd) ?_;have x1:=qP a b;have x2:=s8 a b;have x3:=qP c d;have x4:=s8 c d;generalize aS a b=A at*
  generalize aQ a b=B at*
  generalize aS c d=C at*
  generalize aQ c d=E at*
  generalize ((xJ a b:Nat):Int)=g at*
  generalize ((xJ c d:Nat):Int)=k at*
  rw [x1,x2,x3,x4,uX,uX]
  congr 1
  ·ac_rfl
  ·ac_rfl
 rw [<-e4];by_cases w:aQ a b=1/\aQ c d=1
 ·obtain ⟨w1,w2⟩:=w;have s1:=n119 h.J4 (a:=aS a b) (b:=aS c d) (by omega) (by omega);have s2:=n111 h (aS a b+aS c d);rw [w1] at f1;rw [w2] at f2;rw [w1,w2,vD,vD,vD,Iq];rw [dE,dE,w1,w2];unfold aj at f1 f2 s1 s2 ⊢;rw [aR h.Lc];simp only [go_sem,ya,yc,z6,bL,js,gU,oV,df,f1,f2,yz,cP,yp,s1,s2,cI];rfl
 ·have e1:=n100 h.zH h.nS h.Cu (a:=aS a b) (b:=aQ c d) (by omega) (by omega) (by omega);have e2:=n100 h.zH h.nS h.Cu (a:=aS c d) (b:=aQ a b) (by omega) (by omega) (by omega);have e3:=n100 h.zH h.nS h.Cu (a:=aQ a b) (b:=aQ c d) (by omega) (by omega) (by omega);have e5:=n119 h.J4 (a:=aS a b*aQ c d) (b:=aS c d*aQ a b) (by omega) (by omega);have e6:=make h (a:=aS a b*aQ c d+aS c d*aQ a b) (b:=aQ a b*aQ c d) (by omega) (by omega);unfold aj at f1 f2 e1 e2 e3 e5 e6 ⊢;rw [aR h.Lc];by_cases w1:aQ a b=1
  ·have w2:¬aQ c d=1:=fun w2=>w ⟨w1,w2⟩
   have LB:b5 P L (D P L) 98 [.agg [ab (aS a b),.aa,ab (aQ a b),.aa]]=some (.bool true):=by rw [f1,wM w1]
   have f2':b5 P L (D P L) 98 [.agg [ab (aS c d),.aa,ab (aQ c d),.aa]]=some (.bool false):=by rw [f2,w6 w2]
   simp only [go_sem,ya,yc,z6,bL,js,gU,oV,df,LB,f2',cP,yp,q9,e1,e2,e3,e5,e6,cI];rfl
  ·have LB:b5 P L (D P L) 98 [.agg [ab (aS a b),.aa,ab (aQ a b),.aa]]=some (.bool false):=by rw [f1,w6 w1]
   simp only [go_sem,ya,yc,z6,bL,js,gU,oV,df,LB,cP,yp,q9,e1,e2,e3,e5,e6,cI];rfl
def n50 (h:Na P L) {a b c d:Int} (hb:0<b) (hd:0<d) (h1:a.natAbs*d.natAbs<1152921504606846976) (h2:c.natAbs*b.natAbs<1152921504606846976) (h3:b.natAbs*d.natAbs<1152921504606846976)
  (q1:a.natAbs<1152921504606846976) (q2:c.natAbs<1152921504606846976) (q3:b.natAbs<1152921504606846976) (q4:d.natAbs<1152921504606846976):
  aj P L 50 [dE a b,dE c d] (dE (a*d-c*b) (b*d)):=by
 have e1:=n102 h (a:=c) (b:=d) (by omega);rw [acr] at e1;have e2:=n74 h (a:=a) (b:=b) (c:= -c) (d:=d) hb hd h1 (by rw [yam];exact h2) h3 q1 (by rw [yam];exact q2) q3 q4
 rw [Int.neg_mul] at e2;rw [Int.sub_eq_add_neg];unfold aj at e1 e2 ⊢;rw [aR h.V8];simp only [go_sem,ya,yc,F7,bL,js,oV,df,e1,e2,cI];rfl
end
end
section
open Go (IntKind)
section
variable {P:aF} {L:Lib}
def bT (n:Nat) (val:Nat->Nat->Int):Int:=bF (fun r=>bF (fun c=>val c r) n) n
def oO {f:Nat->Int} {b:Int} {n:Nat} (hb:0<=b) (h:∀k,k<n-> -b<=f k/\f k<=b):∀m,m<=n-> -(b*m)<=bF f m/\bF f m<=b*m
 | 0,_=>by simp [bF]
 | m+1,hm=>by
  have ih:=oO hb h m (by omega);have hk:=h m (by omega);simp only [bF];rw [show ((m+1:Nat):Int)=(m:Int)+1 by omega,yaH,vD];omega
def aaj {f:Nat->Int} {n:Nat} (h:0<n):bF f n=bF f (n-1)+f (n-1):=by
 cases n with
 | zero=>omega
 | succ n=>rfl
def GU (h:BuT P L) (At:Has P L 45 F3) (na:Na P L) {n:Nat} (jB:0<n) (fq:n<=16) {g:Nat} {cap:List AV} {val:Nat->Nat->Int} (hc:az cap=true) (jg:∀hp,bS 998 hp cap=some (cap,hp))
  (hb:∀c r,c<n->r<n-> -4000000<=val c r/\val c r<=4000000) (hg:∀c r:Nat,c<n->r<n->aj P L g (ab c::ab r::cap) (ab (val c r))):
  aj P L 45 [ab n,.fn (.f g) [] cap] (dE (bT n val) (n*n)):=by
 let F:AV:= .fn (.f g) [] cap
 have sa:aI F=true:=by simp [F,aI,az,hc]
 let TM:Env:=[(9,.fn (.f 133) [] [.ay [.int .i64 n]]),(8,ab n),(5,.ptr 2 0),(4,.ptr 1 0),(3,.ptr 0 0),(0,ab n),(1,F)]
 let S:Nat->Nat->Int:=fun j i=>bF (fun r=>bF (fun c=>val c r) n) j+bF (fun c=>val c j) i
 let HH:Nat->Nat->Nat->Hp:=fun st j i=>[(3,.lp TM [10,11] BK zg st .none),(2,.cells true true true 1 [ab (S j i)]),(1,.cells true true true 4 [.int .i64 0,.aa,.int .i64 0,.aa]),(0,.cells true true true 1 [F])]
 have GA:∀st j i,ik 4 4 (HH st j i):=fun st j i=>by
  refine ⟨by omega,⟨⟨trivial,trivial,trivial⟩,trivial,show 2<4 by omega,show 1<4 by omega,show 0<4 by omega,trivial,qg sa,trivial⟩,by omega,.inl rfl,by omega,.inl rfl,by omega,.inl rfl,trivial⟩
 have GO:∀st j i,(cJ 4 (HH st j i)).length<=5000:=fun st j i=>by
  have:cJ 4 (HH st j i)=dP TM:=by
   simp only [HH,cJ,ff (show 3<4 by omega),ff (show 2<4 by omega),ff (show 1<4 by omega),ff (show 0<4 by omega),yi,dN,xS]
  rw [this];simp [TM,dP,refs,dC,a6 sa]
 have WQ:∀i j,i<=n->j<n-> -2000000000<=S j i/\S j i<=2000000000:=fun i j hi hj=>by
  have r1:∀r,r<n-> -64000000<=bF (fun c=>val c r) n/\bF (fun c=>val c r) n<=64000000:=fun r hr=>by
   have:=oO (b:=4000000) (by decide) (fun c hc=>hb c r hc hr) n (yC n)
   omega
  have r2:=oO (b:=64000000) (by decide) r1 j (by omega);have r3:=oO (b:=4000000) (by decide) (fun c hc=>hb c j hc hj) i hi;simp only [S];omega
 have Bw:∀i j,i<n->j<n->fV (D P L) (HH 0 j i) 4 3 [ab i,ab j]=some (.bool true,HH 0 j (i+1),4):=fun i j hi hj=>by
  have BG:=hg i j hi hj;have hv:=hb i j hi hj;have hS:S j (i+1)=S j i+val i j:=by simp only [S,bF,uv]
  have hS0:=WQ i j (by omega) hj;unfold aj at BG;have JA:∃tm,D P L zg ⟨(7,ab j)::(6,ab i)::(11,ab j)::(10,ab i)::TM,HH 1 j i,4,4⟩=some (.normal,⟨tm,HH 1 j (i+1),4,4⟩):=by
   simp only [HH,hS];generalize S j i=sm at hS0;simp only [TM,F]
   simp only [go_sem,ya,zg,BG,wrap64 (n:=sm+val i j) (by omega) (by omega),List.nil_append,List.cons_append,jg];exact ⟨_,rfl⟩
  obtain ⟨tm,JA⟩:=JA
  exact OC (tm':=(11,ab j)::(10,ab i)::TM) (show ak (HH 0 j i) 3=some (.lp TM [10,11] BK zg 0 .none) from rfl) rfl (s1:=⟨(7,ab j)::(6,ab i)::(11,ab j)::(10,ab i)::TM,HH 0 j i,4,4⟩) (by unfold BK;simp only [go_sem,ya]) rfl JA rfl
 have Kj:=aai (P:=P) (L:=L) h (l:=3) (B:=4) (n:=n) (by omega) (by omega) (H:=HH 0) (fun j hj=>by simp only [HH,S,bF,vI]) (GA 0) (GO 0) Bw;obtain ⟨tm,Kj⟩:=Kj;have U2:=SZ (P:=P) (L:=L) (f:= .t 9) (ps:=[10,11]) (as_:=BK) (body:=zg)
  (s:=⟨TM,[(2,.cells true true true 1 [ab (S 0 0)]),(1,.cells true true true 4 [.int .i64 0,.aa,.int .i64 0,.aa]),(0,.cells true true true 1 [F])],3,0⟩)
  (n:=133) (first:=[]) (cap:=[.ay [.int .i64 n]]) rfl h.FI.heap (IM h.FI Kj (.inl rfl) rfl) (by rfl) (by decide)
 have hd:cw (HH 0 n 0) 3=[(2,.cells true true true 1 [ab (bT n val)]),(1,.cells true true true 4 [.int .i64 0,.aa,.int .i64 0,.aa]),(0,.cells true true true 1 [F])]:=by
  have:S n 0=bT n val:=by simp only [S,bF,vI];rfl
  simp only [HH,this];rfl
 have Lx:S 0 0=0:=by simp [S,bF]
 have hT: -2000000000<=bT n val/\bT n val<=2000000000:=by
  have:=WQ n (n-1) (yC n) (by omega)
  have e:S (n-1) n=bT n val:=by
   exact (aaj (f:=fun r=>bF (fun c=>val c r) n) jB).symm
  rw [e] at this;exact this
 simp only [TM,F,Lx,hd] at U2;have zS:(n:Int)*n<=256/\0<(n:Int)*n:=by
  have e:(n:Int)*n=((n*n:Nat):Int):=(xC _ _).symm;have h1:n*n<=16*16:=yX fq fq;have h2:0<n*n:=yaD jB jB;omega
 have e1:=n69 na (bT n val);have e2:=n69 na ((n:Int)*n);have e3:=n70 na (a:=bT n val) (c:=(n:Int)*n) (by omega) (by omega);unfold aj at e1 e2 e3 ⊢;rw [aR At]
 simp only [go_sem,ya,yc,F3,bL,WL h,hc,U2,e1,e2,e3,wrap64 (n:=(n:Int)*n) (by omega) (by omega),df,cI,js];rfl
def n44 (h:Has P L 44 F2) {v:AV} {s:List (List Int)} (hv:cf v s) {n:Nat} (hn:s.length=n) (hr:∀i (hi:i<s.length),s[i].length=n) {c r:Nat} (hc:c<n) (dG:r<n):aj P L 44 [ab c,ab r,.ay [v]] (ab (kv s r c)):=by
 have h1:r<s.length:=by omega
 obtain ⟨w,rest,w1,w2⟩:=hv.bt h1;have h2:c<s[r].length:=by rw [hr r h1];exact hc
 have e:=w1.bt h2;rw [s7 h1 h2] at e;unfold aj;rw [aR h];simp only [go_sem,ya,F2,w2,e]
def n47 (h:Has P L 47 F5) {v:AV} {s:List (List Int)} (hv:cf v s) {n:Nat} (hn:s.length=n) (hr:∀i (hi:i<s.length),s[i].length=n) {c r:Nat} (hc:c<n) (dG:r<n):aj P L 47 [ab c,ab r,.ay [v]] (ab (kv s r c)):=by
 have h1:r<s.length:=by omega
 obtain ⟨w,rest,w1,w2⟩:=hv.bt h1;have h2:c<s[r].length:=by rw [hr r h1];exact hc
 have e:=w1.bt h2;rw [s7 h1 h2] at e;unfold aj;rw [aR h];simp only [go_sem,ya,F5,w2,e]
def n48 (h:Has P L 48 F6) {v:AV} {s:List (List Int)} (hv:cf v s) {n:Nat} (hn:s.length=n) (hr:∀i (hi:i<s.length),s[i].length=n) {c r:Nat} (hc:c<n) (dG:r<n) (hb: -1000<=kv s r c/\kv s r c<=1000):aj P L 48 [ab c,ab r,.ay [v]] (ab (kv s r c*kv s r c)):=by
 have h1:r<s.length:=by omega
 obtain ⟨w,rest,w1,w2⟩:=hv.bt h1;have h2:c<s[r].length:=by rw [hr r h1];exact hc
 have e:=w1.bt h2;rw [s7 h1 h2] at e;have hm:=sJ (a:=1000) (b:=1000) hb hb;unfold aj;rw [aR h]
 simp only [go_sem,ya,F6,w2,e,wrap64 (n:=kv s r c*kv s r c) (by omega) (by omega)]
def sdiff (s:List (List Int)) (a b:Int) (c r:Nat):Int:=(bk s (c+a) (r+b)-kv s r c)*(bk s (c+a) (r+b)-kv s r c)
def n52 (h:Has P L 52 Ga) (GP:Has P L 97 CR) (pc:Has P L 134 rA) {v:AV} {s:List (List Int)} (hv:cf v s) {n:Nat} (hn:s.length=n) (h0:0<n) (hl:n<=16) (hs:dZ n (-1000) 1000 s=0) {a b:Int} (ha:cL a=0) (hb:cL b=0) {c r:Nat} (hc:c<n) (dG:r<n):
  aj P L 52 [ab c,ab r,.ay [v],.ay [ab a],.ay [ab b]] (ab (sdiff s a b c r)):=by
 have ha: -999999999<=a/\a<=999999999:=by unfold cL at ha;split at ha<;>omega
 have hb: -999999999<=b/\b<=999999999:=by unfold cL at hb;split at hb<;>omega
 have hr:∀i (hi:i<s.length),s[i].length=n:=fun i hi=>(mc hs i hi).1
 have h1:r<s.length:=by omega
 obtain ⟨w,rest,w1,w2⟩:=hv.bt h1;have h2:c<s[r].length:=by rw [hr r h1];exact hc
 have e:=w1.bt h2;rw [s7 h1 h2] at e;have b1:=mf hs (by decide) r c;have b2:=Dl hs (by decide) ((c:Int)+a) ((r:Int)+b);have Dc:=V3 GP pc hv hn h0 (by omega) hr ((c:Int)+a) ((r:Int)+b);have hm:=sJ (a:=2000) (b:=2000) (x:=bk s (c+a) (r+b)-kv s r c) (y:=bk s (c+a) (r+b)-kv s r c) (by omega) (by omega);unfold aj at Dc ⊢;rw [aR h]
 simp only [go_sem,ya,Ga,hv.aE,wrap64 (n:=(c:Int)+a) (by omega) (by omega),wrap64 (n:=(r:Int)+b) (by omega) (by omega),Dc,w2,e,wrap64 (n:=bk s ((c:Int)+a) ((r:Int)+b)-kv s r c) (by omega) (by omega),wrap64 (n:=(bk s ((c:Int)+a) ((r:Int)+b)-kv s r c)*(bk s ((c:Int)+a) ((r:Int)+b)-kv s r c)) (by omega) (by omega)];rfl
structure StB (P:aF) (L:Lib):Prop extends GQ P L where
 na:Na P L
 WR:Has P L 16 zZ
 WS:Has P L 18 F1
 h44:Has P L 44 F2
 At:Has P L 45 F3
 h52:Has P L 52 Ga
structure LC (P:aF) (L:Lib):Prop extends StB P L where
 WT:Has P L 17 F0
 h47:Has P L 47 F5
 kX:Has P L 48 F6
def bO (s:List (List Int)):Int:=bT s.length (fun c r=>kv s r c)
def eD (s:List (List Int)):Int:=bT s.length (fun c r=>kv s r c*kv s r c)
def di (s:List (List Int)) (a b:Int):Int:=bT s.length (sdiff s a b)
abbrev aP (s:List (List Int)):Int:=(s.length:Int)*s.length
def qt {n:Nat} {val:Nat->Nat->Int} (hn:n<=16) {b:Int} (As:0<=b) (pM:b<=4000000) (hb:∀c r,c<n->r<n-> -b<=val c r/\val c r<=b): -(b*256)<=bT n val/\bT n val<=b*256:=by
 have r1:∀r,r<n-> -(b*16)<=bF (fun c=>val c r) n/\bF (fun c=>val c r) n<=b*16:=fun r hr=>by
  have:=oO As (fun c hc=>hb c r hc hr) n (yC n)
  have:b*(n:Int)<=b*16:=we (by omega) As
  omega
 have r2:=oO (b:=b*16) (by omega) r1 n (yC n)
 have:b*16*(n:Int)<=b*16*16:=we (by omega) (by omega)
 unfold bT;omega
def nf {s:List (List Int)} (h0:0<s.length) (h1:s.length<=16):0<aP s/\aP s<=256:=by
 have e:aP s=((s.length*s.length:Nat):Int):=(xC _ _).symm;have h1:s.length*s.length<=16*16:=yX h1 h1;have h2:0<s.length*s.length:=yaD h0 h0;omega
def n16 (h:StB P L) {v:AV} {s:List (List Int)} (hv:cf v s) (hl:s.length<=1000000) (hr:∀i (hi:i<s.length),s[i].length<=1000000):
  aj P L 16 [v] (.aw [.str (if cV s=0 then fO (bO s) (aP s) else []),ab (cV s)]):=by
 have e4:=s4 h.toSq hv hl hr;unfold aj at e4 ⊢;by_cases hz:cV s=0
 ·obtain ⟨a1,a2,a3⟩:=lX hz;have hb:∀c r,-1000<=kv s r c/\kv s r c<=1000:=fun c r=>mf a3 (by decide) r c
  have mZ:=GU h.toBuT h.At h.na a1 a2 (g:=44) (cap:=[.ay [v]]) (val:=fun c r=>kv s r c) (by simp [az,aI]) (fun hp=>rfl) (fun c r _ _=>by have:=hb c r;omega) (fun c r hc hr=>n44 h.h44 hv rfl (fun i hi=>(mc a3 i hi).1) hc hr);have bs:=qt a2 (b:=1000) (by decide) (by decide) (val:=fun c r=>kv s r c) (fun c r _ _=>hb c r);have ba:=nf a1 a2;have p6:=n46 h.na (a:=bO s) (b:=aP s) (by unfold bO;omega) (by omega);unfold aj at mZ p6;rw [yS hz,aR h.WR];rw [hz] at e4 ⊢;simp only [go_sem,ya,yc,zZ,hv.len,hv.pu,hv.aE,hv.one,hv.cells,e4,yz,yQ,mZ,cI,df,show bT s.length (fun c r=>kv s r c)=bO s from rfl,show (s.length:Int)*(s.length:Int)=aP s from rfl,p6];rfl
 ·rw [yE hz,aR h.WR];simp only [go_sem,ya,yc,zZ,hv.pu,hv.aE,hv.one,hv.cells,e4,hz];rfl
abbrev eE (s:List (List Int)):Int:=eD s*(aP s*aP s)-bO s*bO s*aP s
abbrev et (s:List (List Int)):Int:=aP s*(aP s*aP s)
def n17 (h:LC P L) {v:AV} {s:List (List Int)} (hv:cf v s) (hl:s.length<=1000000) (hr:∀i (hi:i<s.length),s[i].length<=1000000):
  aj P L 17 [v] (.aw [.str (if cV s=0 then fO (eE s) (et s) else []),ab (cV s)]):=by
 have e4:=s4 h.toSq hv hl hr;unfold aj at e4 ⊢;by_cases hz:cV s=0
 ·obtain ⟨a1,a2,a3⟩:=lX hz;have hb:∀c r,-1000<=kv s r c/\kv s r c<=1000:=fun c r=>mf a3 (by decide) r c
  have Gv:∀c r,-1000000<=kv s r c*kv s r c/\kv s r c*kv s r c<=1000000:=fun c r=>sJ (a:=1000) (b:=1000) (hb c r) (hb c r)
  have mZ:=GU h.toBuT h.At h.na a1 a2 (g:=47) (cap:=[.ay [v]]) (val:=fun c r=>kv s r c) (by simp [az,aI]) (fun hp=>rfl) (fun c r _ _=>by have:=hb c r;omega) (fun c r hc hr=>n47 h.h47 hv rfl (fun i hi=>(mc a3 i hi).1) hc hr);have f45:=GU h.toBuT h.At h.na a1 a2 (g:=48) (cap:=[.ay [v]]) (val:=fun c r=>kv s r c*kv s r c) (by simp [az,aI]) (fun hp=>rfl) (fun c r _ _=>by have:=Gv c r;omega) (fun c r hc hr=>n48 h.kX hv rfl (fun i hi=>(mc a3 i hi).1) hc hr (hb c r));have b1:=qt a2 (b:=1000) (by decide) (by decide) (val:=fun c r=>kv s r c) (fun c r _ _=>hb c r);have b2:=qt a2 (b:=1000000) (by decide) (by decide) (val:=fun c r=>kv s r c*kv s r c) (fun c r _ _=>Gv c r);rw [show bT s.length (fun c r=>kv s r c)=bO s from rfl,show (s.length:Int)*(s.length:Int)=aP s from rfl] at mZ
  rw [show bT s.length (fun c r=>kv s r c*kv s r c)=eD s from rfl,show (s.length:Int)*(s.length:Int)=aP s from rfl] at f45;rw [show bT s.length (fun c r=>kv s r c)=bO s from rfl] at b1;rw [show bT s.length (fun c r=>kv s r c*kv s r c)=eD s from rfl] at b2;have ba:=nf a1 a2;have n1:(bO s).natAbs<=256000:=by omega
  have n2:(eD s).natAbs<=256000000:=by omega
  have n3:(aP s).natAbs<=256:=by omega
  have m11:(bO s*bO s).natAbs<=65536000000:=by rw [xi];exact yX n1 n1
  have De:(aP s*aP s).natAbs<=65536:=by rw [xi];exact yX n3 n3
  have WU:0<aP s*aP s:=wT ba.1 ba.1;have g1:(eD s).natAbs*(aP s*aP s).natAbs<=256000000*65536:=yX n2 De;have g2:(bO s*bO s).natAbs*(aP s).natAbs<=65536000000*256:=yX m11 n3;have g3:(aP s).natAbs*(aP s*aP s).natAbs<=256*65536:=yX n3 De;have WV:=U1 h.na (a:=bO s) (b:=aP s) (c:=bO s) (d:=aP s) ba.1 ba.1 (by have:=yX n1 n1;omega) (by have:=yX n3 n3;omega) (by omega) (by omega) (by omega) (by omega);have WW:=n50 h.na (a:=eD s) (b:=aP s) (c:=bO s*bO s) (d:=aP s*aP s) ba.1 WU (by omega) (by omega) (by omega) (by omega) (by omega) (by omega) (by omega);have q1:(eE s).natAbs<4611686018427387904:=by
   have x1:(eD s*(aP s*aP s)).natAbs<=256000000*65536:=by rw [xi];exact g1
   have x2:(bO s*bO s*aP s).natAbs<=65536000000*256:=by rw [xi];exact g2
   have:=Int.natAbs_sub_le (eD s*(aP s*aP s)) (bO s*bO s*aP s)
   unfold eE;omega
  have q2:0<et s/\et s<4611686018427387904:=by
   have x1:=wT ba.1 WU;have x2:(et s).natAbs<=256*65536:=by unfold et;rw [xi];exact g3
   refine ⟨x1,?_⟩;omega
  have p6:=n46 h.na (a:=eE s) (b:=et s) q1 q2;unfold aj at mZ f45 WV WW p6;rw [yS hz,aR h.WT];rw [hz] at e4 ⊢;simp only [go_sem,ya,yc,F0,hv.len,hv.pu,hv.aE,hv.one,hv.cells,bL,e4,yz,yQ,mZ,f45,cI,df,js,oV,WV,WW,p6];rfl
 ·rw [yE hz,aR h.WT];simp only [go_sem,ya,yc,F0,hv.pu,hv.aE,hv.one,hv.cells,e4,hz];rfl
def n18 (h:StB P L) {v:AV} {s:List (List Int)} (hv:cf v s) (hl:s.length<=1000000) (hr:∀i (hi:i<s.length),s[i].length<=1000000) (a b:Int):
  aj P L 18 [v,ab a,ab b] (.aw [.str (if cu [cV s,cL a,cL b]=0 then fO (di s a b) (aP s) else []),ab (cu [cV s,cL a,cL b])]):=by
 have e4:=s4 h.toSq hv hl hr;have sn:∀a b c:Int,aj P L 33 [.aB true 3 [.int .i64 a,.int .i64 b,.int .i64 c]] (ab (cu [a,b,c])):=fun a b c=>Gu h.CZ (gC true [a,b,c]) (by simp)
 have so:=fun n=>WM h.GR h.Ar h.j8 n
 unfold aj at e4 sn so ⊢;by_cases h0:cu [cV s,cL a,cL b]=0
 ·have jX:cV s=0:=by
   simp only [cu] at h0
   split at h0
   ·assumption
   ·assumption
  have Dd:cL a=0:=by
   simp only [cu,jX,yR] at h0
   split at h0
   ·assumption
   ·assumption
  have As:cL b=0:=by
   simp only [cu,jX,Dd,yR] at h0
   split at h0
   ·assumption
   ·assumption
  obtain ⟨a1,a2,a3⟩:=lX jX;have hb:∀c r:Nat,-4000000<=sdiff s a b c r/\sdiff s a b c r<=4000000:=fun c r=>by
   have b1:=mf a3 (by decide) r c;have b2:=Dl a3 (by decide) ((c:Int)+a) ((r:Int)+b)
   exact sJ (a:=2000) (b:=2000) (x:=bk s (c+a) (r+b)-kv s r c) (y:=bk s (c+a) (r+b)-kv s r c) (by omega) (by omega)
  have mZ:=GU h.toBuT h.At h.na a1 a2 (g:=52) (cap:=[.ay [v],.ay [ab a],.ay [ab b]]) (val:=sdiff s a b) (by simp [az,aI]) (fun hp=>rfl) (fun c r _ _=>hb c r) (fun c r hc hr=>n52 h.h52 h.GP h.pc hv rfl a1 a2 a3 Dd As hc hr);have b1:=qt a2 (b:=4000000) (by decide) (by decide) (val:=sdiff s a b) (fun c r _ _=>hb c r);rw [show bT s.length (sdiff s a b)=di s a b from rfl] at b1;rw [show bT s.length (sdiff s a b)=di s a b from rfl,show (s.length:Int)*(s.length:Int)=aP s from rfl] at mZ;have ba:=nf a1 a2;have p6:=n46 h.na (a:=di s a b) (b:=aP s) (by omega) (by omega);unfold aj at mZ p6;rw [yS h0,aR h.WS];rw [h0];have hf:=sn (cV s) (cL a) (cL b);rw [h0] at hf
  simp only [go_sem,ya,yc,yV,ym,yv,F1,hv.len,hv.pu,hv.aE,hv.one,hv.cells,e4,so,hf,yz,yQ,mZ,cI,df,p6];rfl
 ·rw [yE h0,aR h.WS];simp only [go_sem,ya,yc,yV,ym,yv,F1,hv.pu,hv.aE,hv.one,hv.cells,e4,so,sn,h0];rfl
end
end
section
def jK {f g:Nat->Int}:∀n,(∀k,k<n->f k=g k)->bF f n=bF g n
 | 0,_=>rfl
 | n+1,h=>by
  show bF f n+f n=bF g n+g n
  rw [jK n (fun k hk=>h k (by omega)),h n (by omega)]
def Ir (f g:Nat->Int):∀n,bF (fun k=>f k+g k) n=bF f n+bF g n
 | 0=>rfl
 | n+1=>by
  show bF (fun k=>f k+g k) n+(f n+g n)=bF f n+f n+(bF g n+g n)
  rw [Ir f g n];omega
def HP (a:Int) (f:Nat->Int):∀n,bF (fun k=>a*f k) n=a*bF f n
 | 0=>(vO a).symm
 | n+1=>by
  show bF (fun k=>a*f k) n+a*f n=a*(bF f n+f n)
  rw [HP a f n,yaH]
def Is (a:Int):∀n:Nat,bF (fun _=>a) n=(n:Int)*a
 | 0=>by simp [bF]
 | n+1=>by
  show bF (fun _=>a) n+a=_
  rw [Is a n,vJ,uX];simp
def IR {f:Nat->Int} (h:∀k,0<=f k):∀n,0<=bF f n
 | 0=>Int.le_refl 0
 | n+1=>Int.add_nonneg (IR h n) (h n)
def PK (f:Nat->Int):∀n,bF f (n+1)=f 0+bF (fun k=>f (k+1)) n
 | 0=>by simp [bF]
 | n+1=>by
  show bF f (n+1)+f (n+1)=f 0+(bF (fun k=>f (k+1)) n+f (n+1))
  rw [PK f n];omega
def aak {g:Int->Int} {n:Nat} (hg:∀x,g (x+n)=g x):bF (fun k=>g ((k:Int)+1)) n=bF (fun k=>g k) n:=by
 have h1:=PK (fun k=>g (k:Int)) n;have h2:bF (fun k=>g (k:Int)) (n+1)=bF (fun k=>g (k:Int)) n+g (n:Int):=rfl;have h3:g (n:Int)=g ((0:Nat):Int):=by have:=hg 0;rw [Int.zero_add] at this;exact this
 have h4:bF (fun k=>g (((k+1:Nat)):Int)) n=bF (fun k=>g ((k:Int)+1)) n:=jK n (fun k _=>by rw [vJ];rfl)
 rw [h2,h3] at h1;have h5:bF (fun k=>g (k:Int)) n=bF (fun k=>g (((k+1:Nat)):Int)) n:=by omega
 rw [h5,h4]
def HQ {n:Nat}:∀(a:Nat) {g:Int->Int},(∀x,g (x+n)=g x)->bF (fun k=>g ((k:Int)+(a:Nat))) n=bF (fun k=>g k) n
 | 0,g,_=>jK n (fun k _=>by rw [Int.natCast_zero,vI])
 | a+1,g,hg=>by
  have ih:=HQ a (g:=fun x=>g (x+1)) (fun x=>by rw [show x+n+1=x+1+n by omega];exact hg _)
  rw [aak hg] at ih;rw [<-ih];exact jK n (fun k _=>by rw [vJ,<-uv];rfl)
def OP {n:Nat} {g:Int->Int} (hg:∀x,g (x+n)=g x) (a:Int):bF (fun k=>g ((k:Int)+a)) n=bF (fun k=>g k) n:=by
 by_cases h:0<=a
 ·have:=HQ a.toNat hg
  rw [wu h] at this;exact this
 ·have:=HQ (-a).toNat (g:=fun x=>g (x+a)) (fun x=>by rw [show x+n+a=x+a+n by omega];exact hg _)
  rw [wu (by omega)] at this;rw [<-this];exact jK n (fun k _=>by rw [show (k:Int)+ -a+a=k by omega])
def iW {n:Nat} {f g:Nat->Nat->Int} (h:∀c r,c<n->r<n->f c r=g c r):bT n f=bT n g:=
 jK n (fun r hr=>jK n (fun c hc=>h c r hc hr))
def El (n:Nat) (f g:Nat->Nat->Int):bT n (fun c r=>f c r+g c r)=bT n f+bT n g:=by
 unfold bT;rw [<-Ir];exact jK n (fun r _=>Ir _ _ n)
def A7 (n:Nat) (a:Int) (f:Nat->Nat->Int):bT n (fun c r=>a*f c r)=a*bT n f:=by
 unfold bT;rw [<-HP];exact jK n (fun r _=>HP a _ n)
def IS (n:Nat) (a:Int):bT n (fun _ _=>a)=(n:Int)*n*a:=by
 unfold bT;rw [jK n (fun r _=>Is a n),Is,Int.mul_assoc]
def Ry {n:Nat} {f:Nat->Nat->Int} (h:∀c r,0<=f c r):0<=bT n f:=IR (fun r=>IR (fun c=>h c r) n) n
def It (n:Nat) (f:Nat->Nat->Nat->Int):∀m,bF (fun k=>bT n (f k)) m=bT n (fun c r=>bF (fun k=>f k c r) m)
 | 0=>by
  show (0:Int)=bT n (fun _ _=>0)
  rw [IS,vO]
 | m+1=>by
  show bF (fun k=>bT n (f k)) m+bT n (f m)=bT n (fun c r=>bF (fun k=>f k c r) m+f m c r)
  rw [It n f m,<-El]
def acs (n:Nat) (f:Nat->Nat->Nat->Nat->Int):bT n (fun a b=>bT n (f a b))=bT n (fun c r=>bT n (fun a b=>f a b c r)):=by
 show bF (fun b=>bF (fun a=>bT n (f a b)) n) n=_
 rw [jK n (fun b _=>It n (fun a=>f a b) n)];rw [It n (fun b c r=>bF (fun a=>f a b c r) n) n];rfl
def sS {n:Nat} {G:Int->Int->Int} (h1:∀x y,G (x+n) y=G x y) (h2:∀x y,G x (y+n)=G x y) (a b:Int):bT n (fun c r=>G ((c:Int)+a) ((r:Int)+b))=bT n (fun c r=>G (c:Int) (r:Int)):=by
 unfold bT
 rw [jK n (fun r _=>OP (g:=fun x=>G x ((r:Int)+b)) (fun x=>h1 x _) a)]
 exact OP (g:=fun y=>bF (fun c=>G (c:Int) y) n) (fun y=>jK n (fun c _=>h2 _ _)) b
section
variable {s:List (List Int)}
def mi (x y:Int):bk s (x+(s.length:Int)) y=bk s x y:=HM rfl _ _ _ _ (tp _ _) rfl
def ns (x y:Int):bk s x (y+(s.length:Int))=bk s x y:=HM rfl _ _ _ _ rfl (tp _ _)
def IT {c r:Nat} (hc:c<s.length) (hr:r<s.length):kv s r c=bk s (c:Int) (r:Int):=by
 unfold bk kv;rw [tO (by omega) (by omega),tO (by omega) (by omega),xV,xV]
def EE:bO s=bT s.length (fun c r=>bk s (c:Int) (r:Int)):=iW (fun c r hc hr=>IT hc hr)
def Ja:eD s=bT s.length (fun c r=>bk s (c:Int) (r:Int)*bk s (c:Int) (r:Int)):=iW (fun c r hc hr=>by rw [IT hc hr])
def oP (a b:Int):di s a b=bT s.length (fun c r=>(bk s ((c:Int)+a) ((r:Int)+b)-bk s (c:Int) (r:Int))*(bk s ((c:Int)+a) ((r:Int)+b)-bk s (c:Int) (r:Int))):=iW (fun c r hc hr=>by unfold sdiff;rw [IT hc hr])
def ahf (a:Int):0<=a*a:=by
 by_cases h:0<=a
 ·exact Int.mul_nonneg h h
 ·exact Int.mul_nonneg_of_nonpos_of_nonpos (by omega) (by omega)
def PL (a b:Int):0<=di s a b:=Ry (fun c r=>ahf _)
def acu (a b:Int):di s (-a) (-b)=di s a b:=by
 rw [oP,oP]
 have:=sS (n:=s.length) (G:=fun x y=>(bk s (x+ -a) (y+ -b)-bk s x y)*(bk s (x+ -a) (y+ -b)-bk s x y))
  (fun x y=>by simp only [show x+(s.length:Int)+ -a=x+ -a+(s.length:Int) by omega,mi]) (fun x y=>by simp only [show y+(s.length:Int)+ -b=y+ -b+(s.length:Int) by omega,ns]) a b
 rw [<-this];refine iW (fun c r _ _=>?_);rw [show (c:Int)+a+ -a=c by omega,show (r:Int)+b+ -b=r by omega];generalize bk s (c:Int) (r:Int)=u;generalize bk s ((c:Int)+a) ((r:Int)+b)=v;rw [show u-v= -(v-u) by omega,su]
def acv {a b a' b':Int} (h:∀x y,bk s (x+a) (y+b)=bk s (x+a') (y+b')):di s a b=di s a' b':=by
 rw [oP,oP];exact iW (fun c r _ _=>by rw [h])
def acw (a b:Int):di s (a+(s.length:Int)) (b-2*(s.length:Int))=di s a b:=acv (fun x y=>by
 rw [<-uv,mi,<-ns (y:=y+(b-2*(s.length:Int))),<-ns (y:=y+(b-2*(s.length:Int))+(s.length:Int))]
 congr 1;omega)
def ahg:di s (3*(s.length:Int)) (-(s.length:Int))=0:=by
 rw [oP,iW (g:=fun _ _=>0) (fun c r _ _=>?_),IS,vO]
 have:bk s ((c:Int)+3*(s.length:Int)) ((r:Int)+ -(s.length:Int))=bk s (c:Int) (r:Int):=by
  rw [<-ns (y:=(r:Int)+ -(s.length:Int)),show (c:Int)+3*(s.length:Int)=c+(s.length:Int)+(s.length:Int)+(s.length:Int) by omega,mi,mi,mi]
  congr 1;omega
 rw [this,Int.sub_self];rfl
def AS (a b:Int):(iH s a b).length=s.length:=A6 _ _
def PM (h0:0<s.length) (a b:Int):bO (iH s a b)=bO s:=by
 rw [EE,EE,AS]
 rw [<-sS (n:=s.length) (G:=bk s) mi ns (-a) (-b)];exact iW (fun c r _ _=>DD h0 _ _ _ _)
def aeB (h0:0<s.length) (a b:Int):eD (iH s a b)=eD s:=by
 rw [Ja,Ja,AS]
 rw [<-sS (n:=s.length) (G:=fun x y=>bk s x y*bk s x y) (fun x y=>by simp only [mi]) (fun x y=>by simp only [ns]) (-a) (-b)];exact iW (fun c r _ _=>by rw [DD h0];rfl)
def aeC (h0:0<s.length) (a b u v:Int):di (iH s a b) u v=di s u v:=by
 rw [oP,oP,AS]
 rw [<-sS (n:=s.length) (G:=fun x y=>(bk s (x+u) (y+v)-bk s x y)*(bk s (x+u) (y+v)-bk s x y))
  (fun x y=>by simp only [show x+(s.length:Int)+u=x+u+(s.length:Int) by omega,mi]) (fun x y=>by simp only [show y+(s.length:Int)+v=y+v+(s.length:Int) by omega,ns]) (-a) (-b)]
 refine iW (fun c r _ _=>?_);rw [DD h0,DD h0,show (c:Int)+u-a=c+ -a+u by omega,show (r:Int)+v-b=r+ -b+v by omega];rfl
def YF (a b:Int):di s a b=2*eD s+ -2*bT s.length (fun c r=>bk s (c:Int) (r:Int)*bk s ((c:Int)+a) ((r:Int)+b)):=by
 have h:=sS (n:=s.length) (G:=fun x y=>bk s x y*bk s x y) (fun x y=>by simp only [mi]) (fun x y=>by simp only [ns]) a b
 rw [oP,iW (g:=fun c r=>(bk s ((c:Int)+a) ((r:Int)+b)*bk s ((c:Int)+a) ((r:Int)+b)+bk s (c:Int) (r:Int)*bk s (c:Int) (r:Int))+ -2*(bk s (c:Int) (r:Int)*bk s ((c:Int)+a) ((r:Int)+b))) (fun c r _ _=>by grind),El,El,A7,h,Ja];omega
def OQ:bT s.length (fun a b=>di s (a:Int) (b:Int))=2*(aP s*eD s)-2*(bO s*bO s):=by
 rw [iW (fun a b _ _=>YF (s:=s) (a:Int) (b:Int)),El,IS,A7,acs];have h:∀c r:Nat,bT s.length (fun a b=>bk s (c:Int) (r:Int)*bk s ((c:Int)+(a:Int)) ((r:Int)+(b:Int)))=bO s*bk s (c:Int) (r:Int):=fun c r=>by
  rw [A7,Int.mul_comm,EE,<-sS (n:=s.length) (G:=bk s) mi ns (c:Int) (r:Int)]
  congr 1
  exact iW (fun a b _ _=>by rw [yaN (c:Int),yaN (r:Int)])
 rw [iW (fun c r _ _=>h c r),A7,<-EE];show aP s*(2*eD s)+_=_
 generalize aP s=A
 grind
def gn (s:List (List Int)):List (List Int):=s.map fun r=>r.map fun x=> -x
def sL:(gn s).length=s.length:=yL _
def Jb (r c:Nat):kv (gn s) r c= -kv s r c:=by
 unfold kv gn;simp only [List.getD_eq_getElem?_getD,tg]
 cases h:s[r]? with
 | none=>simp
 | some l=>
  simp only [Option.map_some,Option.getD_some,tg];cases h2:l[c]?<;>simp
def OR:bO (gn s)= -bO s:=by
 unfold bO
 rw [sL,iW (g:=fun c r=> -1*kv s r c) (fun c r _ _=>by rw [Jb];omega),A7];omega
def acx:eD (gn s)=eD s:=by
 unfold eD;rw [sL];exact iW (fun c r _ _=>by rw [Jb,su])
end
end
section
open Go (IntKind)
def dc (k:Nat) (v:AV) (ps:List (List AV)):Prop:=((v= .aa/\ps=[])\/∃e,v= .aB e ps.length ps.flatten)/\∀p,p∈ps->p.length=k
section
variable {k:Nat} {v:AV} {ps:List (List AV)} {hp:Hp}
def dc.len (h:dc k v ps) {hp:Hp}:fh hp 1 v=some (.int .i64 (ps.length:Nat)):=by
 rcases h.1 with ⟨rfl,rfl⟩ | ⟨e,rfl⟩<;>rfl
def dc.pu (h:dc k v ps):aI v=true:=by
 rcases h.1 with ⟨rfl,rfl⟩ | ⟨e,rfl⟩<;>rfl
def dc.aE (h:dc k v ps) (n:Nat) {hp:Hp}:freeze (n+1) hp v=some (v,hp):=by
 rcases h.1 with ⟨rfl,rfl⟩ | ⟨e,rfl⟩<;>rfl
def dc.shut (h:dc k v ps):shut v=v:=by
 rcases h.1 with ⟨rfl,rfl⟩ | ⟨e,rfl⟩<;>rfl
def dc.bW (h:dc k v ps):bW v=v:=by
 rcases h.1 with ⟨rfl,rfl⟩ | ⟨e,rfl⟩<;>rfl
def dc.dI (h:dc k v ps) {hp:Hp}:result hp v=some v:=by
 rcases h.1 with ⟨rfl,rfl⟩ | ⟨e,rfl⟩<;>rfl
def dc.one (h:dc k v ps):cm v=true:=by
 rcases h.1 with ⟨rfl,rfl⟩ | ⟨e,rfl⟩<;>rfl
def dc.cells (h:dc k v ps):cellsOf v=[v]:=by
 rcases h.1 with ⟨rfl,rfl⟩ | ⟨e,rfl⟩<;>rfl
def NW:∀{ps:List (List AV)} {i:Nat},(∀p,p∈ps->p.length=k)->∀(hi:i<ps.length),∃rest,ps.flatten.drop (i*k)=ps[i]++rest
 | [],i,_,hi=>absurd hi (w5 i)
 | p::ps,0,h,_=>⟨ps.flatten,by simp⟩
 | p::ps,i+1,h,hi=>by
  obtain ⟨rest,e⟩:=NW (ps:=ps) (i:=i) (fun q hq=>h q (xU _ hq)) (by simpa using hi);refine ⟨rest,?_⟩;rw [show (i+1)*k=p.length+i*k by rw [h p wJ,Nat.add_mul];omega,List.flatten_cons,<-List.drop_drop,uO,e];rfl
def dc.bt (h:dc k v ps) {i:Nat} (hi:i<ps.length):∃rest,fw k i v=some (.ay (ps[i]++rest)):=by
 obtain ⟨rest,e⟩:=NW h.2 hi;refine ⟨rest,?_⟩;rcases h.1 with ⟨rfl,rfl⟩ | ⟨b,rfl⟩
 ·exact absurd hi (w5 i)
 ·rw [Ef b _ hi,e]
end
abbrev lW:=List Nat×List Nat
def plC (p:lW):List AV:=[.str p.1,.str p.2]
def gV (v:AV) (l:List lW):Prop:=dc 2 v (l.map plC)
structure Lay where
 w:AV
 s:List (List Int)
 hh:List Nat
 sc:List Nat
 st:List Nat
 ox:List Nat
 oy:List Nat
 wx:List Nat
 wy:List Nat
def Lay.cs (a:Lay):List AV:=[a.w,.str a.hh,.str a.sc,.str a.st,.str a.ox,.str a.oy,.str a.wx,.str a.wy]
def Lay.T (a:Lay):AV:=lyT a.w a.hh a.sc a.st a.ox a.oy a.wx a.wy
noncomputable def Lay.E (a:Lay):Int:=akw a.s a.hh a.sc a.st a.ox a.oy a.wx a.wy
def gi (v:AV) (l:List Lay):Prop:=dc 8 v (l.map Lay.cs)/\∀a,a∈l->cf a.w a.s
section
variable {v:AV} {hp:Hp}
def gV.len {l:List lW} (h:gV v l) {hp:Hp}:fh hp 1 v=some (.int .i64 (l.length:Nat)):=by
 have:=dc.len (hp:=hp) h;rwa [yL] at this
def gV.pu {l:List lW} (h:gV v l):aI v=true:=dc.pu h
def gV.aE {l:List lW} (h:gV v l) (n:Nat) {hp:Hp}:freeze (n+1) hp v=some (v,hp):=dc.aE h n
def gV.shut {l:List lW} (h:gV v l):VE.shut v=v:=dc.shut h
def gV.bW {l:List lW} (h:gV v l):VE.bW v=v:=dc.bW h
def gV.dI {l:List lW} (h:gV v l) {hp:Hp}:result hp v=some v:=dc.dI h
def gV.one {l:List lW} (h:gV v l):cm v=true:=dc.one h
def gV.cells {l:List lW} (h:gV v l):cellsOf v=[v]:=dc.cells h
def gV.bt {l:List lW} (h:gV v l) {i:Nat} (hi:i<l.length):∃rest,fw 2 i v=some (.ay (.str l[i].1:: .str l[i].2::rest)):=by
 obtain ⟨rest,e⟩:=dc.bt h (i:=i) (by simpa using hi);refine ⟨rest,?_⟩;rw [e,vd];rfl
def gi.len {l:List Lay} (h:gi v l) {hp:Hp}:fh hp 1 v=some (.int .i64 (l.length:Nat)):=by
 have:=dc.len (hp:=hp) h.1;rwa [yL] at this
def gi.pu {l:List Lay} (h:gi v l):aI v=true:=dc.pu h.1
def gi.aE {l:List Lay} (h:gi v l) (n:Nat) {hp:Hp}:freeze (n+1) hp v=some (v,hp):=dc.aE h.1 n
def gi.shut {l:List Lay} (h:gi v l):VE.shut v=v:=dc.shut h.1
def gi.bW {l:List Lay} (h:gi v l):VE.bW v=v:=dc.bW h.1
def gi.dI {l:List Lay} (h:gi v l) {hp:Hp}:result hp v=some v:=dc.dI h.1
def gi.one {l:List Lay} (h:gi v l):cm v=true:=dc.one h.1
def gi.cells {l:List Lay} (h:gi v l):cellsOf v=[v]:=dc.cells h.1
def gi.bt {l:List Lay} (h:gi v l) {i:Nat} (hi:i<l.length):∃rest,fw 8 i v=some (.ay (l[i].w:: .str l[i].hh:: .str l[i].sc:: .str l[i].st:: .str l[i].ox:: .str l[i].oy:: .str l[i].wx:: .str l[i].wy::rest)):=by
 obtain ⟨rest,e⟩:=dc.bt h.1 (i:=i) (by simpa using hi);refine ⟨rest,?_⟩;rw [e,vd];rfl
def gi.get {l:List Lay} (h:gi v l) {i:Nat} (hi:i<l.length):cf l[i].w l[i].s:=h.2 _ (List.getElem_mem hi)
end
end
section
open Go (IntKind)
section
variable {P:aF} {L:Lib}
def eh (l:List Int):List AV:=l.map ab
end
end
end VE
