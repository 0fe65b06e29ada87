import Derived.Test.YtflgmingejdfnaaGreatDoorXau
import Derived.Test.YtflgmingejdfnaaGreatDoorXal
import Derived.Test.YtflgmingejdfnaaGreatDoorXak
import Derived.Test.YtflgmingejdfnaaGreatDoorXaq
import Derived.Test.YtflgmingejdfnaaGreatDoorXar
set_option linter.all false
set_option maxRecDepth 100000
open Bool renaming not_true→y9
open Int renaming add_assoc→vJ,add_emod_right→tw,add_sub_assoc→tS,add_zero→wL,emod_eq_of_lt→tR,emod_lt_of_pos→wG,emod_nonneg→w7,emod_sub_emod→tQ,gcd→xL,gcd_one→yaJ,mul_add→vS,mul_comm→wQ,mul_ediv_add_emod→uW,mul_le_mul_of_nonneg_left→wg,mul_neg→yaH,mul_one→yaP,mul_pos→yaL,mul_zero→uL,natAbs_mul→xX,natAbs_natCast→uj,natCast_add→wF,natCast_mul→xA,toNat_natCast→wo,toNat_of_nonneg→xn
open List renaming append_nil→xI,drop_left→uV,ext_getElem→tH,getD_eq_getElem?_getD→xk,getElem?_map→vL,getElem_map→wH,getElem_range→tp,length_map→yU,map_append→xG,map_congr_left→uY,map_cons→yV,map_nil→wU,mem_cons_of_mem→xT,mem_cons_self→wP,mem_map→wB,range→yR,take_length→wi,take_succ_eq_append_getElem→wb
open Nat renaming ble_eq_true_of_le→yv,le_refl→yC,lt_of_le_of_lt→xW,min_eq_left→xJ,mul_le_mul→xO,mul_one→yh,mul_pos→yaw,not_lt_zero→wE,pow_le_pow_right→we,reduceAdd→yc,reduceEqDiff→ya,reduceLT→yj,reduceLeDiff→yd,zero_add→yy
open Option renaming getD_some→vv
open Option.some renaming inj→vE
open Rat renaming divInt_eq_div→tP
namespace VE
section
open Go (IntKind)
section
variable {P:aA} {L:Lib}
structure Da (P:aA) (L:Lib):Prop extends SmP P L where
 gU:Has P L 20 CL
 GK:Has P L 51 Ga
 GL:Has P L 58 Gc
 jv:Has P L 34 ot
def de (n:Int):Int:=if n< -999999999\/999999999<n then 3 else 0
def Wq (h:Has P L 51 Ga) (jv:Has P L 34 ot) (eD:Has P L 31 om) (n:Int):an P L 51 [aa n] (aa (de n)):=by
 unfold an;rw [aT h];simp only [go_sem,ya,Ga,Ag jv eD,de]
def s58 (h:Da P L) {v:AV} {s:List (List Int)} (hv:bK v s) {n:Nat} (hn:s.length=n) (h0:0<n) (hl:n<=16) (hr:∀i (hi:i<s.length),s[i].length=n) {a b:Int} (ha:de a=0) (hb:de b=0) {c r:Nat} (hc:c<n) (dj:r<n):
  an P L 58 [aa c,aa r,.aO [v],.aO [aa a],.aO [aa b]] (aa (bB s (c-a) (r-b))):=by
 have ha: -999999999<=a/\a<=999999999:=by unfold de at ha;split at ha<;>omega
 have hb: -999999999<=b/\b<=999999999:=by unfold de at hb;split at hb<;>omega
 have Db:=KR h.C9 h.nV hv hn h0 (by omega) hr (c-a) (r-b);unfold an at Db ⊢;rw [aT h.GL]
 simp only [go_sem,ya,Gc,hv.aE,wrap64 (n:=(c:Int)-a) (by omega) (by omega),wrap64 (n:=(r:Int)-b) (by omega) (by omega),Db]
def Wr (h:Da P L) {v:AV} {s:List (List Int)} (hv:bK v s) (hl:s.length<=1000000) (hr:∀i (hi:i<s.length),s[i].length<=1000000) (a b:Int):
  (bM [cF s,de a,de b]≠0->an P L 20 [v,aa a,aa b] (.ay [.ab,aa (bM [cF s,de a,de b])]))/\
  (bM [cF s,de a,de b]=0->an P L 20 [v,aa a,aa b] (.ay [eS (fun c r=>aa (bB s (c-a) (r-b))) s.length,aa 0])):=by
 have e4:=s4 h.toSq hv hl hr;have su:∀a b c:Int,an P L 33 [.aC true 3 [.int .i64 a,.int .i64 b,.int .i64 c]] (aa (bM [a,b,c])):=fun a b c=>sa h.p6 (fM true [a,b,c]) (by simp)
 have sA:=fun n=>Wq h.GK h.jv h.eD n
 unfold an at e4 su sA ⊢;constructor
 ·intro fZ;rw [aT h.gU];simp only [go_sem,ya,yc,yj,yd,yh,CL,hv.pu,hv.aE,hv.one,hv.cells,e4,sA,su,fZ]
 ·intro h0;have kT:cF s=0:=by
   simp only [bM] at h0
   split at h0
   ·assumption
   ·assumption
  have Dc:de a=0:=by
   simp only [bM,kT,yQ] at h0
   split at h0
   ·assumption
   ·assumption
  have Au:de b=0:=by
   simp only [bM,kT,Dc,yQ] at h0
   split at h0
   ·assumption
   ·assumption
  obtain ⟨a1,a2,a3⟩:=oE kT;have As:=OB h.toBuT a1 (by omega) (g:=58) (cap:=[.aO [v],.aO [aa a],.aO [aa b]]) (val:=fun c r=>aa (bB s (c-a) (r-b))) (by simp [ax,aG]) (fun _ _=>rfl) (fun _ _=>rfl) (fun _ _=>rfl) (fun c r hc hr=>s58 h hv rfl a1 a2 (fun i hi=>(jx a3 i hi).1) Dc Au hc hr);unfold an at As;rw [aT h.gU];simp only [go_sem,ya,yc,yj,yd,yh,CL,hv.len,hv.pu,hv.aE,hv.one,hv.cells,e4,sA,su,h0,As,eS]
end
end
section
open Go (IntKind)
def Io {a b:Nat} (h:az a=az b):a=b:=by
 have h1:=qC a;rw [h,qC b] at h1;exact (vE h1).symm
def PT:∀(k n:Nat),n<k->n≠0->∃b r,az n=b::r/\b≠48
 | 0,n,h,_=>absurd h (wE n)
 | k+1,n,h,h0=>by
  by_cases h1:n<10
  ·exact ⟨48+n,[],jX h1,by omega⟩
  ·obtain ⟨b,r,e,hb⟩:=PT k (n/10) (by omega) (by omega);exact ⟨b,r++[48+n%10],by rw [lC (by omega),e];rfl,hb⟩
def OD (n:Nat):eR (az n)=true:=by
 unfold eR;rw [qB,Bool.true_and];by_cases h0:n=0
 ·subst h0;decide
 ·obtain ⟨b,r,e,hb⟩:=PT (n+1) n (by omega) h0;rw [e]
  have:Nat.beq b 48=false:=by
   cases hq:Nat.beq b 48 with
   | false=>rfl
   | true=>exact absurd (Nat.eq_of_beq_eq_true hq) hb
  simp [this]
def OE (n:Nat):fp (az n)=n:=by unfold fp;rw [qC];rfl
def abZ {z:Int} (h:¬z<0):bz z=az z.natAbs:=by
 obtain ⟨m,rfl⟩:∃m:Nat,z=m:=⟨z.toNat,by omega⟩;rw [qH,uj]
def ail (r:Rat):RT r=bz r.num++fQ r.den:=rfl
def agO {r:Rat} (h1:(az r.num.natAbs).length<=600) (h2:(az r.den).length<=600):gV (RT r)=0:=by
 have key:∀neg:Bool,(neg=true->r.num.natAbs≠0)->jO neg (az r.num.natAbs++fQ r.den)=0:=by
  intro neg fq;have hco:Nat.gcd r.num.natAbs r.den=1:=r.reduced;have sj:r.den≠0:=r.den_nz;generalize r.num.natAbs=m at*
  generalize r.den=d at*
  have hs:bR (az m++fQ d)=(az m).length:=by rw [AE _ (qB m),MB];rfl
  have c1:¬((true=false)\/(neg=true/\az m=[48])):=by
   rintro (h | ⟨h,h'⟩)
   ·cases h
   ·exact fq h (Io (h'.trans (by decide)))
  unfold jO;rw [hs,List.take_left,OD,yD c1];by_cases hd:d=1
  ·have hr:fQ d=[]:=yS hd;rw [hr,xI,yD (by omega),yD (by omega),yD (by omega)]
  ·have hr:fQ d=47::az d:=yD hd;have iJ:(az m++fQ d).drop ((az m).length+1)=az d:=by
    rw [hr,show az m++47::az d=(az m++[47])++az d by simp,show (az m).length+1=(az m++[47]).length by simp,uV]
   have hl:(az m++fQ d).length=(az m).length+1+(az d).length:=by rw [hr];simp;omega
   rw [iJ,hl,OD,OE,OE];have n0:az d≠[48]:=fun e=>sj (Io (e.trans (by decide)))
   have n1:az d≠[49]:=fun e=>hd (Io (e.trans (by decide)))
   rw [yD (by simp [n0,n1]),yD (by omega),yD (by simp [hco])]
 rw [ail];by_cases h0:r.num<0
 ·rw [A1 h0];show (if 45=45 then jO true (az r.num.natAbs++fQ r.den) else jO false (45::(az r.num.natAbs++fQ r.den)))=0
  rw [yS rfl];exact key true (fun _=>by omega)
 ·rw [abZ h0];have k:=key false (fun h=>by cases h);have hp:=qI r.num.natAbs;have CY:=qB r.num.natAbs
  cases hq:az r.num.natAbs with
  | nil=>rw [hq] at hp;simp at hp
  | cons b t=>
   rw [hq] at k CY
   have:=ZO CY
   show (if b=45 then jO true (t++fQ r.den) else jO false (b::(t++fQ r.den)))=0
   rw [yD (by omega)];exact k
def RH {r:Rat} {K:Nat} (h:Hq K r) (hK:K<=1800):(az r.num.natAbs).length<=600/\(az r.den).length<=600:=by
 refine ⟨MI (B:=K) hK (by decide) h.1,MI (B:=K) hK (by decide) ?_⟩
 have:=h.2
 unfold Bd at this
 rwa [uj] at this
def RI {r:Rat} {K:Nat} (h:Hq K r) (hK:K<=1800):gV (RT r)=0:=agO (RH h hK).1 (RH h hK).2
section
variable {P:aA} {L:Lib}
end
end
section
open Go (IntKind)
def q8 {w:AV} {s:List (List Int)} (hw:bK w s) (h:cF s=0):C8 w s s.length:=by
 obtain ⟨a1,a2,a3⟩:=oE h;exact ⟨hw,rfl,a1,a2,fun i hi=>(jx a3 i hi).1,a3⟩
def lyT (w:AV) (hh sc st ox oy wx wy:List Nat):AV:= .agg [w,.str hh,.str sc,.str st,.str ox,.str oy,.str wx,.str wy]
noncomputable def ajS (s:List (List Int)) (hh sc st ox oy wx wy:List Nat):Int:=bM [cF s,UM hh 0,UM sc 1,gV st,bM [gV ox,gV oy],bM [gV wx,gV wy]]
structure Lp (P:aA) (L:Lib):Prop extends Sp P L,Vl P L,Da P L where
 h24:Has P L 24 Vd
 h57:Has P L 57 Vj
 h66:Has P L 66 Vr
 h67:Has P L 67 Vs
 anX:Has P L 115 Tk
 anY:Has P L 116 Tl
section
variable {P:aA} {L:Lib}
section
variable (h:Lp P L) {w:AV} {s:List (List Int)} (hw:bK w s) (hl:s.length<=1000000) (hr:∀i (hi:i<s.length),s[i].length<=1000000) {hh sc st ox oy wx wy dx dy sh x y:List Nat} {fr:Int} (l1:hh.length<=1000000000) (l2:sc.length<=1000000000) (l3:st.length<=1000000000) (l4:ox.length<=1000000000) (l5:oy.length<=1000000000) (l6:wx.length<=1000000000) (l7:wy.length<=1000000000) (l8:dx.length<=1000000000) (l9:dy.length<=1000000000) (la:sh.length<=1000000000) (lb:x.length<=1000000000) (lc:y.length<=1000000000)
include h hw hl hr l1 l2 l3 l4 l5 l6 l7 l8 l9 la lb lc
end
end
end
section
open Go (IntKind)
def agP {s:List (List Int)} {n:Nat} (hn:s.length=n) (hr:∀i (hi:i<s.length),s[i].length=n):dK n (fun c r=>kv s r c)=s:=by
 apply tH
 ·rw [gY,hn]
 ·intro i h1 h2;rw [sW (by omega)];apply tH
  ·grind
  ·intro j h3 h4;simp only [wH,tp];exact (oY h2 h4).symm
section
variable {P:aA} {L:Lib}
end
end
section
open Go (IntKind)
def iq (d k:Nat) (a:Rat):Prop:=∃z:Int,a*(d:Rat)=(z:Rat)/\z.natAbs<2^k
def iq.add {d k m:Nat} {a b:Rat} (ha:iq d k a) (hb:iq d m b):iq d (max k m+1) (a+b):=by
 obtain ⟨z,e1,h1⟩:=ha;obtain ⟨y,e2,h2⟩:=hb;refine ⟨z+y,by rw [Rat.add_mul,e1,e2,Rat.intCast_add],?_⟩;have a1:2^k<=2^(max k m):=we (by decide) (Nat.le_max_left k m);have a2:2^m<=2^(max k m):=we (by decide) (Nat.le_max_right k m);have a3:2^(max k m+1)=2^(max k m)*2:=Nat.pow_succ 2 (max k m);generalize 2^(max k m)=M at*
 generalize 2^k=A at*
 generalize 2^m=B at*
 omega
def iq.mul {d e k m:Nat} {a b:Rat} (ha:iq d k a) (hb:iq e m b):iq (d*e) (k+m) (a*b):=by
 obtain ⟨z,e1,h1⟩:=ha;obtain ⟨y,e2,h2⟩:=hb;refine ⟨z*y,?_,?_⟩
 ·rw [Rat.natCast_mul,Rat.intCast_mul,<-e1,<-e2];grind
 ·rw [xX,Nat.pow_add];exact Nat.mul_lt_mul'' h1 h2
def iq.int {c:Int} {k:Nat} (h:c.natAbs<2^k):iq 1 k (c:Rat):=⟨c,by grind,h⟩
def iq.mono {d k m:Nat} {a:Rat} (h:iq d k a) (hk:k<=m):iq d m a:=by
 obtain ⟨z,e,h1⟩:=h;exact ⟨z,e,Nat.lt_of_lt_of_le h1 (we (by decide) hk)⟩
def iq.zero (d:Nat):iq d 0 0:=⟨0,by grind,by decide⟩
def iq.Hq {d k:Nat} {a:Rat} (h:iq d k a) (h0:0<d) (hd:d<2^k):Hq k a:=by
 obtain ⟨z,e,h1⟩:=h;have sj:(d:Rat)≠0:=by
  intro c
  have:=Rat.natCast_eq_zero_iff.1 c
  omega
 have ha:a=Rat.divInt z (d:Int):=by
  rw [tP,<-e,Rat.intCast_natCast,Rat.div_def,Rat.mul_assoc,Rat.mul_inv_cancel _ sj,Rat.mul_one]
 obtain ⟨p1,p2⟩:=GU (a:=z) (b:=(d:Int)) (by omega);have hn:a.num=bi z d:=by rw [ha,p1];rfl
 have Ao:(a.den:Int)=bm z d:=by rw [ha,p2];rfl
 have b1:=ni z d;have b2:=nj z d;refine ⟨?_,?_⟩
 ·unfold Bd;rw [hn];omega
 ·unfold Bd;rw [Ao];omega
end
section
open Go (IntKind)
def OF {lo hi:Int}:∀{l:List Int},(∀x,x∈l->lo<=x/\x<=hi)->bA lo hi l=false
 | [],_=>rfl
 | a::r,h=>by
  have:=h a wP
  rw [bA,yD (by omega)];exact OF fun x hx=>h x (xT _ hx)
def HP {n:Nat} {lo hi:Int}:∀{l:List (List Int)},(∀r,r∈l->r.length=n/\∀x,x∈r->lo<=x/\x<=hi)->cy n lo hi l=0
 | [],_=>rfl
 | r::l,h=>by
  have h1:=h r wP;rw [cy,yD (by simp [h1.1]),OF h1.2,yD (by decide)];exact HP fun q hq=>h q (xT _ hq)
def Bb {n:Nat} {f:Nat->Nat->Int} (h0:0<n) (h1:n<=16) (hf:∀c r,-1000<=f c r/\f c r<=1000):cF (dK n f)=0:=by
 unfold cF;rw [gY,yD (by omega),yD (by omega)];refine HP fun r hr=>?_
 obtain ⟨i,_,rfl⟩:=wB.1 hr;refine ⟨by simp,fun x hx=>?_⟩;obtain ⟨j,_,rfl⟩:=wB.1 hx;exact hf j i
def dP (s:List (List Int)) (a b:Int):List (List Int):=dK s.length (fun c r=>bB s ((c:Int)-a) ((r:Int)-b))
def Yo {s:List (List Int)} (h0:0<s.length) (a b c r:Int):bB (dP s a b) c r=bB s (c-a) (r-b):=by
 have hl:(dP s a b).length=s.length:=gY _ _;have hr:∀i (hi:i<(dP s a b).length),(dP s a b)[i].length=s.length:=fun i hi=>by
  have e:(dP s a b)[i]'hi=(yR s.length).map fun c:Nat=>bB s ((c:Int)-a) ((i:Int)-b):=sW (n:=s.length) (f:=fun c r=>bB s ((c:Int)-a) ((r:Int)-b)) (by rw [hl] at hi;exact hi)
  rw [e];simp
 obtain ⟨h1,h2,h3⟩:=Ie hl h0 hr c r;rw [h3];have a1:=w7 r (show (s.length:Int)≠0 by omega);have a2:=wG r (show (0:Int)<s.length by omega);have b1:=w7 c (show (s.length:Int)≠0 by omega);have b2:=wG c (show (0:Int)<s.length by omega);have e:(dP s a b)[(r%s.length).toNat]'h1=(yR s.length).map fun c:Nat=>bB s ((c:Int)-a) (((r%s.length).toNat:Int)-b):=sW (n:=s.length) (f:=fun c r=>bB s ((c:Int)-a) ((r:Int)-b)) (by omega)
 have e2:((dP s a b)[(r%s.length).toNat]'h1)[(c%s.length).toNat]'h2=bB s (((c%s.length).toNat:Int)-a) (((r%s.length).toNat:Int)-b):=by
  simp only [e,wH,tp]
 rw [e2,xn a1,xn b1];refine HM rfl _ _ _ _ ?_ ?_
 ·rw [tQ]
 ·rw [tQ]
section
variable {P:aA} {L:Lib}
end
end
section
open Go (IntKind)
abbrev fF (a b:Int):AV:=Fq (bi a b) (bm a b)
def ab0 (a:Int):bi a 1=a:=by unfold bi;rw [yaJ];exact Int.ediv_one a
def ab1 (a:Int):bm a 1=1:=by unfold bm;rw [yaJ];rfl
def OG (a:Int):fF a 1=Fq a 1:=by rw [fF,ab0,ab1]
def PU {a b c d:Int} (hb:0<b) (hd:0<d) (h:a*d=c*b):fF a b=fF c d:=by
 obtain ⟨h1,h2⟩:=ajj hb hd h;rw [fF,h1,h2]
section
variable {P:aA} {L:Lib}
structure Na (P:aA) (L:Lib):Prop where
 JL:Has P L 100 zD
 Uo:Has P L 101 zE
 ajp:Has P L 102 JB
 Up:Has P L 111 Fl
 JK:Has P L 117 B3
 ajo:Has P L 119 c119
 FE:Has P L 130 zF
 zL:Has P L 142 rI
 jN:Has P L 146 nQ
 nW:Has P L 147 pk
 Cf:Has P L 148 zH
 rN:Has P L 163 pn
 kK:Has P L 164 mI
 VR:Has P L 46 CQ
 lk:Has P L 49 c49
 h50:Has P L 50 KC
 VM:Has P L 69 Gd
 VP:Has P L 70 Ge
 VO:Has P L 73 Gf
 h74:Has P L 74 KD
 VN:Has P L 98 CT
 VQ:Has P L 99 KF
 UO:L.pure 143=some qQ
 ajT:L.pure 135=some EI
def n111 (h:Na P L) (n:Int):an P L 111 [Nm n] (Fq n 1):=by
 have e1:=n117 h.JK 1;unfold an at e1 ⊢;rw [aT h.Up];simp only [go_sem,ya,yc,Fl,b9,oZ,jl,e1,dM,IU,IV];rfl
def n69 (h:Na P L) (n:Int):an P L 69 [aa n] (Fq n 1):=by
 have e1:=n117 h.JK n;have e2:=n111 h n;unfold an at e1 e2 ⊢;rw [aT h.VM];simp only [go_sem,ya,yc,Gd,b9,oZ,ef,e1,e2,dM];rfl
def make (h:Na P L) {a b:Int} (ha: -4611686018427387904<a/\a<4611686018427387904) (hb:0<b/\b<4611686018427387904):an P L 101 [Nm a,Nm b] (fF a b):=
 n101 h.Uo h.Cf h.FE h.rN h.nW h.jN h.kK ha hb
def n49 (h:Na P L) {a b c d:Int} (hb:0<b) (hd:0<d) (h1:(bi a b).natAbs*(bi c d).natAbs<4611686018427387904) (h2:(bm a b).natAbs*(bm c d).natAbs<4611686018427387904)
  (q1:(bi a b).natAbs<4611686018427387904) (q2:(bi c d).natAbs<4611686018427387904) (q3:(bm a b).natAbs<4611686018427387904) (q4:(bm c d).natAbs<4611686018427387904):
  an P L 49 [fF a b,fF c d] (fF (a*c) (b*d)):=by
 have p1:=oQ (a:=a) hb;have p2:=oQ (a:=c) hd;have p3:=yaL p1 p2;have e1:=n100 h.JL h.zL h.UO (a:=bi a b) (b:=bi c d) (by omega) (by omega) h1;have e2:=n100 h.JL h.zL h.UO (a:=bm a b) (b:=bm c d) (by omega) (by omega) h2;have m1:(bi a b*bi c d).natAbs<4611686018427387904:=by rw [xX];exact h1
 have m2:(bm a b*bm c d).natAbs<4611686018427387904:=by rw [xX];exact h2
 have e3:=make h (a:=bi a b*bi c d) (b:=bm a b*bm c d) (by omega) (by omega);have e4:fF (bi a b*bi c d) (bm a b*bm c d)=fF (a*c) (b*d):=by
  refine PU p3 (yaL hb hd) ?_;have x1:=BA a b;have x2:=Ez a b;have x3:=BA c d;have x4:=Ez c d;generalize bi a b=A at*
  generalize bm a b=B at*
  generalize bi c d=C at*
  generalize bm c d=E at*
  generalize ((xL a b:Nat):Int)=g at*
  generalize ((xL c d:Nat):Int)=k at*
  rw [x1,x2,x3,x4]
  ac_rfl
 rw [<-e4];unfold an at e1 e2 e3 ⊢;rw [aT h.lk];simp only [go_sem,ya,yc,c49,b9,oZ,jl,ef,e1,e2,e3,dM,dE,yy,E2];rfl
def ajU (h:Na P L) {a b c d:Int} (hb:0<b) (hd:0<d) (h1:a.natAbs*c.natAbs<4611686018427387904) (h2:b.natAbs*d.natAbs<4611686018427387904)
  (q1:a.natAbs<4611686018427387904) (q2:c.natAbs<4611686018427387904) (q3:b.natAbs<4611686018427387904) (q4:d.natAbs<4611686018427387904):
  an P L 49 [fF a b,fF c d] (fF (a*c) (b*d)):=
 n49 h hb hd (xW (xO (ni a b) (ni c d)) h1) (xW (xO (nj a b) (nj c d)) h2)
  (xW (ni a b) q1) (xW (ni c d) q2) (xW (nj a b) q3) (xW (nj c d) q4)
def ab2 {a b:Int} (ha:0<a) (hb:0<b):0<bi a b:=by
 have h1:=El (a:=a) hb;have h2:=BA a b;rcases Int.lt_trichotomy (bi a b) 0 with h | h | h
 ·have:=Int.mul_neg_of_pos_of_neg h1 h;omega
 ·rw [h,uL] at h2;omega
 ·exact h
def n73 (h:Na P L) {a b:Int} (ha:0<a/\a<4611686018427387904) (hb:0<b/\b<4611686018427387904):an P L 73 [fF a b] (fF b a):=by
 have r1:=ni a b;have r2:=nj a b;have p1:=ab2 ha.1 hb.1;have p2:=oQ (a:=a) hb.1;have e3:=make h (a:=bm a b) (b:=bi a b) (by omega) (by omega);have e4:fF (bm a b) (bi a b)=fF b a:=by
  refine PU p1 ha.1 ?_;have x1:=BA a b;have x2:=Ez a b;generalize bi a b=A at*
  generalize bm a b=B at*
  generalize ((xL a b:Nat):Int)=g at*
  rw [x1,x2]
  ac_rfl
 rw [<-e4];unfold an at e3 ⊢;rw [aT h.VO];simp only [go_sem,ya,yc,Gf,b9,oZ,jl,ef,e3,dM,dE,yy,E2];rfl
def n70 (h:Na P L) {a c:Int} (ha:a.natAbs<2147483648) (hc:0<c/\c<2147483648):an P L 70 [Fq a 1,Fq c 1] (fF a c):=by
 have e1:=n73 h (a:=c) (b:=1) (by omega) (by decide);have e2:=ajU h (a:=a) (b:=1) (c:=1) (d:=c) (by decide) hc.1 (by simp;omega) (by simp;omega) (by omega) (by decide) (by decide) (by omega);rw [yaP,Int.one_mul,OG] at e2;rw [OG] at e1;unfold an at e1 e2 ⊢;rw [aT h.VP];simp only [go_sem,ya,yc,Ge,b9,oZ,Jk,ef,e1,e2,dM];rfl
def n99 (h:Na P L) {n:Int} (hn: -9223372036854775808<n/\n<9223372036854775808):an P L 99 [Nm n] (.str (bz n)):=by
 have e:cf P L (D P L) 135 [aa n]=some (.str (bz n)):=by
  rw [Ol h.ajT]
  have:BN n=true:=by
   cases n with
   | ofNat k=>
    have h2:(k:Int)<9223372036854775808:=hn.2;exact yv (show k+1<=9223372036854775808 by omega)
   | negSucc k=>
    rw [Int.negSucc_eq] at hn;exact yv (show k+1<=9223372036854775808 by omega)
  show (bif BN n then _ else none)=_
  rw [this];rfl
 unfold an;rw [aT h.VQ];simp only [go_sem,ya,yc,KF,b9,ns,nE,dE,yy,gk,e]
def n46 (h:Na P L) {a b:Int} (ha:a.natAbs<4611686018427387904) (hb:0<b/\b<4611686018427387904):an P L 46 [fF a b] (.str (fU a b)):=by
 have r1:=ni a b;have r2:=nj a b;have e1:=n98 h.VN (bi a b) (bm a b);have e2:=n99 h (n:=bi a b) (by omega);have e3:=n99 h (n:=bm a b) (by omega);have l2:=Ii (n:=bi a b) (by omega);have l3:=Ii (n:=bm a b) (by omega);unfold an at e1 e2 e3 ⊢;rw [aT h.VR];by_cases h1:bm a b=1
 ·have hT:fU a b=bz (bi a b):=by unfold fU;rw [yS h1]
  rw [h1] at e1;rw [hT];simp only [go_sem,ya,yc,CQ,b9,jl,Jk,ef,e1,h1,yE,dE,yy,e2]
 ·have hT:fU a b=(bz (bi a b)++[47])++bz (bm a b):=by unfold fU;rw [yD h1]
  rw [hT]
  simp only [go_sem,ya,yc,CQ,b9,jl,Jk,ef,e1,h1,yF,dE,yy,E2,e2,fN (a:=bz (bi a b)) (b:=[47]) (by simp;omega),e3,fN (a:=bz (bi a b)++[47]) (b:=bz (bm a b)) (by simp;omega)]
end
end
section
open Go (IntKind)
section
variable {P:aA} {L:Lib}
def cO (n:Nat) (val:Nat->Nat->Int):Int:=a8 (fun r=>a8 (fun c=>val c r) n) n
def zh {f:Nat->Int} {b:Int} {n:Nat} (hb:0<=b) (h:∀k,k<n-> -b<=f k/\f k<=b):∀m,m<=n-> -(b*m)<=a8 f m/\a8 f m<=b*m
 | 0,_=>by simp [a8]
 | m+1,hm=>by
  have ih:=zh hb h m (by omega);have hk:=h m (by omega);simp only [a8];rw [show ((m+1:Nat):Int)=(m:Int)+1 by omega,vS,yaP];omega
def ZZ {f:Nat->Int} {n:Nat} (h:0<n):a8 f n=a8 f (n-1)+f (n-1):=by
 cases n with
 | zero=>omega
 | succ n=>rfl
def Ws (h:BuT P L) (GM:Has P L 45 F9) (na:Na P L) {n:Nat} (iE:0<n) (eB:n<=16) {g:Nat} {cap:List AV} {val:Nat->Nat->Int} (hc:ax cap=true) (jQ:∀hp,bO 998 hp cap=some (cap,hp))
  (hb:∀c r,c<n->r<n-> -4000000<=val c r/\val c r<=4000000) (hg:∀c r:Nat,c<n->r<n->an P L g (aa c::aa r::cap) (aa (val c r))):
  an P L 45 [aa n,.fn (.f g) [] cap] (fF (cO n val) (n*n)):=by
 let F:AV:= .fn (.f g) [] cap
 have sb:aG F=true:=by simp [F,aG,ax,hc]
 let TM:Env:=[(9,.fn (.f 133) [] [.aO [.int .i64 n]]),(8,aa n),(5,.ptr 2 0),(4,.ptr 1 0),(3,.ptr 0 0),(0,aa n),(1,F)]
 let S:Nat->Nat->Int:=fun j i=>a8 (fun r=>a8 (fun c=>val c r) n) j+a8 (fun c=>val c j) i
 let HH:Nat->Nat->Nat->Hp:=fun st j i=>[(3,.lp TM [10,11] BQ zo st .none),(2,.cells true true true 1 [aa (S j i)]),(1,.cells true true true 4 [.int .i64 0,.ab,.int .i64 0,.ab]),(0,.cells true true true 1 [F])]
 have hbl:∀st j i,fO 4 4 (HH st j i):=fun st j i=>by
  refine ⟨by omega,⟨⟨trivial,trivial,trivial⟩,trivial,show 2<4 by omega,show 1<4 by omega,show 0<4 by omega,trivial,mi sb,trivial⟩,by omega,.inl rfl,by omega,.inl rfl,by omega,.inl rfl,trivial⟩
 have qg:∀st j i,(b7 4 (HH st j i)).length<=5000:=fun st j i=>by
  have:b7 4 (HH st j i)=dB TM:=by
   simp only [HH,b7,ei (show 3<4 by omega),ei (show 2<4 by omega),ei (show 1<4 by omega),ei (show 0<4 by omega),ym,dC,xI]
  rw [this];simp [TM,dB,refs,dh,aP sb]
 have GH:∀i j,i<=n->j<n-> -2000000000<=S j i/\S j i<=2000000000:=fun i j hi hj=>by
  have r1:∀r,r<n-> -64000000<=a8 (fun c=>val c r) n/\a8 (fun c=>val c r) n<=64000000:=fun r hr=>by
   have:=zh (b:=4000000) (by decide) (fun c hc=>hb c r hc hr) n (yC n)
   omega
  have r2:=zh (b:=64000000) (by decide) r1 j (by omega);have r3:=zh (b:=4000000) (by decide) (fun c hc=>hb c j hc hj) i hi;simp only [S];omega
 have qY:∀i j,i<n->j<n->fy (D P L) (HH 0 j i) 4 3 [aa i,aa j]=some (.bool true,HH 0 j (i+1),4):=fun i j hi hj=>by
  have o8:=hg i j hi hj;have hv:=hb i j hi hj;have hS:S j (i+1)=S j i+val i j:=by simp only [S,a8,vJ]
  have hS0:=GH i j (by omega) hj;unfold an at o8;have rz:∃tm,D P L zo ⟨(7,aa j)::(6,aa i)::(11,aa j)::(10,aa i)::TM,HH 1 j i,4,4⟩=some (.normal,⟨tm,HH 1 j (i+1),4,4⟩):=by
   simp only [HH,hS];generalize S j i=sm at hS0;simp only [TM,F]
   simp only [go_sem,ya,zo,o8,wrap64 (n:=sm+val i j) (by omega) (by omega),List.nil_append,List.cons_append,jQ];exact ⟨_,rfl⟩
  obtain ⟨tm,rz⟩:=rz
  exact Ij (tm':=(11,aa j)::(10,aa i)::TM) (show aj (HH 0 j i) 3=some (.lp TM [10,11] BQ zo 0 .none) from rfl) rfl (s1:=⟨(7,aa j)::(6,aa i)::(11,aa j)::(10,aa i)::TM,HH 0 j i,4,4⟩) (by unfold BQ;simp only [go_sem,ya]) rfl rz rfl
 have rS:=NF (P:=P) (L:=L) h (l:=3) (B:=4) (n:=n) (by omega) (by omega) (H:=HH 0) (fun j hj=>by simp only [HH,S,a8,wL]) (hbl 0) (qg 0) qY;obtain ⟨tm,rS⟩:=rS;have Cp:=Jl (P:=P) (L:=L) (f:= .t 9) (ps:=[10,11]) (as_:=BQ) (body:=zo)
  (s:=⟨TM,[(2,.cells true true true 1 [aa (S 0 0)]),(1,.cells true true true 4 [.int .i64 0,.ab,.int .i64 0,.ab]),(0,.cells true true true 1 [F])],3,0⟩)
  (n:=133) (first:=[]) (cap:=[.aO [.int .i64 n]]) rfl h.zQ.heap (sX h.zQ rS (.inl rfl) rfl) (by rfl) (by decide)
 have hd:cp (HH 0 n 0) 3=[(2,.cells true true true 1 [aa (cO n val)]),(1,.cells true true true 4 [.int .i64 0,.ab,.int .i64 0,.ab]),(0,.cells true true true 1 [F])]:=by
  have:S n 0=cO n val:=by simp only [S,a8,wL];rfl
  simp only [HH,this];rfl
 have Lg:S 0 0=0:=by simp [S,a8]
 have hT: -2000000000<=cO n val/\cO n val<=2000000000:=by
  have:=GH n (n-1) (yC n) (by omega)
  have e:S (n-1) n=cO n val:=by
   exact (ZZ (f:=fun r=>a8 (fun c=>val c r) n) iE).symm
  rw [e] at this;exact this
 simp only [TM,F,Lg,hd] at Cp;have z7:(n:Int)*n<=256/\0<(n:Int)*n:=by
  have e:(n:Int)*n=((n*n:Nat):Int):=(xA _ _).symm;have h1:n*n<=16*16:=xO eB eB;have h2:0<n*n:=yaw iE iE;omega
 have e1:=n69 na (cO n val);have e2:=n69 na ((n:Int)*n);have e3:=n70 na (a:=cO n val) (c:=(n:Int)*n) (by omega) (by omega);unfold an at e1 e2 e3 ⊢;rw [aT GM]
 simp only [go_sem,ya,yc,F9,b9,Lf h,hc,Cp,e1,e2,e3,wrap64 (n:=(n:Int)*n) (by omega) (by omega),ef,dM,oZ];rfl
def n44 (h:Has P L 44 F7) {v:AV} {s:List (List Int)} (hv:bK v s) {n:Nat} (hn:s.length=n) (hr:∀i (hi:i<s.length),s[i].length=n) {c r:Nat} (hc:c<n) (dj:r<n):an P L 44 [aa c,aa r,.aO [v]] (aa (kv s r c)):=by
 have h1:r<s.length:=by omega
 obtain ⟨w,rest,w1,w2⟩:=hv.a7 h1;have h2:c<s[r].length:=by rw [hr r h1];exact hc
 have e:=w1.a7 h2;rw [oY h1 h2] at e;unfold an;rw [aT h];simp only [go_sem,ya,F7,w2,e]
def sdiff (s:List (List Int)) (a b:Int) (c r:Nat):Int:=(bB s (c+a) (r+b)-kv s r c)*(bB s (c+a) (r+b)-kv s r c)
def n52 (h:Has P L 52 Gb) (C9:Has P L 97 CS) (nV:Has P L 134 rH) {v:AV} {s:List (List Int)} (hv:bK v s) {n:Nat} (hn:s.length=n) (h0:0<n) (hl:n<=16) (hs:cy n (-1000) 1000 s=0) {a b:Int} (ha:de a=0) (hb:de b=0) {c r:Nat} (hc:c<n) (dj:r<n):
  an P L 52 [aa c,aa r,.aO [v],.aO [aa a],.aO [aa b]] (aa (sdiff s a b c r)):=by
 have ha: -999999999<=a/\a<=999999999:=by unfold de at ha;split at ha<;>omega
 have hb: -999999999<=b/\b<=999999999:=by unfold de at hb;split at hb<;>omega
 have hr:∀i (hi:i<s.length),s[i].length=n:=fun i hi=>(jx hs i hi).1
 have h1:r<s.length:=by omega
 obtain ⟨w,rest,w1,w2⟩:=hv.a7 h1;have h2:c<s[r].length:=by rw [hr r h1];exact hc
 have e:=w1.a7 h2;rw [oY h1 h2] at e;have b1:=lA hs (by decide) r c;have b2:=Dn hs (by decide) ((c:Int)+a) ((r:Int)+b);have Db:=KR C9 nV hv hn h0 (by omega) hr ((c:Int)+a) ((r:Int)+b);have hm:=DK (a:=2000) (b:=2000) (x:=bB s (c+a) (r+b)-kv s r c) (y:=bB s (c+a) (r+b)-kv s r c) (by omega) (by omega);unfold an at Db ⊢;rw [aT h]
 simp only [go_sem,ya,Gb,hv.aE,wrap64 (n:=(c:Int)+a) (by omega) (by omega),wrap64 (n:=(r:Int)+b) (by omega) (by omega),Db,w2,e,wrap64 (n:=bB s ((c:Int)+a) ((r:Int)+b)-kv s r c) (by omega) (by omega),wrap64 (n:=(bB s ((c:Int)+a) ((r:Int)+b)-kv s r c)*(bB s ((c:Int)+a) ((r:Int)+b)-kv s r c)) (by omega) (by omega)];rfl
structure Dd (P:aA) (L:Lib):Prop extends Da P L where
 na:Na P L
 Wt:Has P L 16 lf
 Wu:Has P L 18 pY
 h44:Has P L 44 F7
 GM:Has P L 45 F9
 h52:Has P L 52 Gb
def cJ (s:List (List Int)):Int:=cO s.length (fun c r=>kv s r c)
def zR (s:List (List Int)):Int:=cO s.length (fun c r=>kv s r c*kv s r c)
def nY (s:List (List Int)) (a b:Int):Int:=cO s.length (sdiff s a b)
abbrev bY (s:List (List Int)):Int:=(s.length:Int)*s.length
def DP {n:Nat} {val:Nat->Nat->Int} (hn:n<=16) {b:Int} (Au:0<=b) (pV:b<=4000000) (hb:∀c r,c<n->r<n-> -b<=val c r/\val c r<=b): -(b*256)<=cO n val/\cO n val<=b*256:=by
 have r1:∀r,r<n-> -(b*16)<=a8 (fun c=>val c r) n/\a8 (fun c=>val c r) n<=b*16:=fun r hr=>by
  have:=zh Au (fun c hc=>hb c r hc hr) n (yC n)
  have:b*(n:Int)<=b*16:=wg (by omega) Au
  omega
 have r2:=zh (b:=b*16) (by omega) r1 n (yC n)
 have:b*16*(n:Int)<=b*16*16:=wg (by omega) (by omega)
 unfold cO;omega
def sN {s:List (List Int)} (h0:0<s.length) (h1:s.length<=16):0<bY s/\bY s<=256:=by
 have e:bY s=((s.length*s.length:Nat):Int):=(xA _ _).symm;have h1:s.length*s.length<=16*16:=xO h1 h1;have h2:0<s.length*s.length:=yaw h0 h0;omega
def n16 (h:Dd P L) {v:AV} {s:List (List Int)} (hv:bK v s) (hl:s.length<=1000000) (hr:∀i (hi:i<s.length),s[i].length<=1000000):
  an P L 16 [v] (.ay [.str (if cF s=0 then fU (cJ s) (bY s) else []),aa (cF s)]):=by
 have e4:=s4 h.toSq hv hl hr;unfold an at e4 ⊢;by_cases hz:cF s=0
 ·obtain ⟨a1,a2,a3⟩:=oE hz;have hb:∀c r,-1000<=kv s r c/\kv s r c<=1000:=fun c r=>lA a3 (by decide) r c
  have Av:=Ws h.toBuT h.GM h.na a1 a2 (g:=44) (cap:=[.aO [v]]) (val:=fun c r=>kv s r c) (by simp [ax,aG]) (fun hp=>rfl) (fun c r _ _=>by have:=hb c r;omega) (fun c r hc hr=>n44 h.h44 hv rfl (fun i hi=>(jx a3 i hi).1) hc hr);have bs:=DP a2 (b:=1000) (by decide) (by decide) (val:=fun c r=>kv s r c) (fun c r _ _=>hb c r);have ba:=sN a1 a2;have De:=n46 h.na (a:=cJ s) (b:=bY s) (by unfold cJ;omega) (by omega);unfold an at Av De;rw [yS hz,aT h.Wt];rw [hz] at e4 ⊢;simp only [go_sem,ya,yc,lf,hv.len,hv.pu,hv.aE,hv.one,hv.cells,e4,yE,y9,Av,dM,ef,show cO s.length (fun c r=>kv s r c)=cJ s from rfl,show (s.length:Int)*(s.length:Int)=bY s from rfl,De];rfl
 ·rw [yD hz,aT h.Wt];simp only [go_sem,ya,yc,lf,hv.pu,hv.aE,hv.one,hv.cells,e4,hz];rfl
abbrev UP (s:List (List Int)):Int:=zR s*(bY s*bY s)-cJ s*cJ s*bY s
abbrev JX (s:List (List Int)):Int:=bY s*(bY s*bY s)
def n18 (h:Dd P L) {v:AV} {s:List (List Int)} (hv:bK v s) (hl:s.length<=1000000) (hr:∀i (hi:i<s.length),s[i].length<=1000000) (a b:Int):
  an P L 18 [v,aa a,aa b] (.ay [.str (if bM [cF s,de a,de b]=0 then fU (nY s a b) (bY s) else []),aa (bM [cF s,de a,de b])]):=by
 have e4:=s4 h.toSq hv hl hr;have su:∀a b c:Int,an P L 33 [.aC true 3 [.int .i64 a,.int .i64 b,.int .i64 c]] (aa (bM [a,b,c])):=fun a b c=>sa h.p6 (fM true [a,b,c]) (by simp)
 have sA:=fun n=>Wq h.GK h.jv h.eD n
 unfold an at e4 su sA ⊢;by_cases h0:bM [cF s,de a,de b]=0
 ·have kT:cF s=0:=by
   simp only [bM] at h0
   split at h0
   ·assumption
   ·assumption
  have Dc:de a=0:=by
   simp only [bM,kT,yQ] at h0
   split at h0
   ·assumption
   ·assumption
  have Au:de b=0:=by
   simp only [bM,kT,Dc,yQ] at h0
   split at h0
   ·assumption
   ·assumption
  obtain ⟨a1,a2,a3⟩:=oE kT;have hb:∀c r:Nat,-4000000<=sdiff s a b c r/\sdiff s a b c r<=4000000:=fun c r=>by
   have b1:=lA a3 (by decide) r c;have b2:=Dn a3 (by decide) ((c:Int)+a) ((r:Int)+b)
   exact DK (a:=2000) (b:=2000) (x:=bB s (c+a) (r+b)-kv s r c) (y:=bB s (c+a) (r+b)-kv s r c) (by omega) (by omega)
  have Av:=Ws h.toBuT h.GM h.na a1 a2 (g:=52) (cap:=[.aO [v],.aO [aa a],.aO [aa b]]) (val:=sdiff s a b) (by simp [ax,aG]) (fun hp=>rfl) (fun c r _ _=>hb c r) (fun c r hc hr=>n52 h.h52 h.C9 h.nV hv rfl a1 a2 a3 Dc Au hc hr);have b1:=DP a2 (b:=4000000) (by decide) (by decide) (val:=sdiff s a b) (fun c r _ _=>hb c r);rw [show cO s.length (sdiff s a b)=nY s a b from rfl] at b1;rw [show cO s.length (sdiff s a b)=nY s a b from rfl,show (s.length:Int)*(s.length:Int)=bY s from rfl] at Av;have ba:=sN a1 a2;have De:=n46 h.na (a:=nY s a b) (b:=bY s) (by omega) (by omega);unfold an at Av De;rw [yS h0,aT h.Wu];rw [h0];have hf:=su (cF s) (de a) (de b);rw [h0] at hf
  simp only [go_sem,ya,yc,yj,yd,yh,pY,hv.len,hv.pu,hv.aE,hv.one,hv.cells,e4,sA,hf,yE,y9,Av,dM,ef,De];rfl
 ·rw [yD h0,aT h.Wu];simp only [go_sem,ya,yc,yj,yd,yh,pY,hv.pu,hv.aE,hv.one,hv.cells,e4,sA,su,h0];rfl
end
end
section
def ff {f g:Nat->Int}:∀n,(∀k,k<n->f k=g k)->a8 f n=a8 g n
 | 0,_=>rfl
 | n+1,h=>by
  show a8 f n+f n=a8 g n+g n
  rw [ff n (fun k hk=>h k (by omega)),h n (by omega)]
def Ip (f g:Nat->Int):∀n,a8 (fun k=>f k+g k) n=a8 f n+a8 g n
 | 0=>rfl
 | n+1=>by
  show a8 (fun k=>f k+g k) n+(f n+g n)=a8 f n+f n+(a8 g n+g n)
  rw [Ip f g n];omega
def AW (a:Int) (f:Nat->Int):∀n,a8 (fun k=>a*f k) n=a*a8 f n
 | 0=>(uL a).symm
 | n+1=>by
  show a8 (fun k=>a*f k) n+a*f n=a*(a8 f n+f n)
  rw [AW a f n,vS]
def Iq (a:Int):∀n:Nat,a8 (fun _=>a) n=(n:Int)*a
 | 0=>by simp [a8]
 | n+1=>by
  show a8 (fun _=>a) n+a=_
  rw [Iq a n,wF,Int.add_mul];simp
def PV (f:Nat->Int):∀n,a8 f (n+1)=f 0+a8 (fun k=>f (k+1)) n
 | 0=>by simp [a8]
 | n+1=>by
  show a8 f (n+1)+f (n+1)=f 0+(a8 (fun k=>f (k+1)) n+f (n+1))
  rw [PV f n];omega
def Z0 {g:Int->Int} {n:Nat} (hg:∀x,g (x+n)=g x):a8 (fun k=>g ((k:Int)+1)) n=a8 (fun k=>g k) n:=by
 have h1:=PV (fun k=>g (k:Int)) n;have h2:a8 (fun k=>g (k:Int)) (n+1)=a8 (fun k=>g (k:Int)) n+g (n:Int):=rfl;have h3:g (n:Int)=g ((0:Nat):Int):=by have:=hg 0;rw [Int.zero_add] at this;exact this
 have h4:a8 (fun k=>g (((k+1:Nat)):Int)) n=a8 (fun k=>g ((k:Int)+1)) n:=ff n (fun k _=>by rw [wF];rfl)
 rw [h2,h3] at h1;have h5:a8 (fun k=>g (k:Int)) n=a8 (fun k=>g (((k+1:Nat)):Int)) n:=by omega
 rw [h5,h4]
def HQ {n:Nat}:∀(a:Nat) {g:Int->Int},(∀x,g (x+n)=g x)->a8 (fun k=>g ((k:Int)+(a:Nat))) n=a8 (fun k=>g k) n
 | 0,g,_=>ff n (fun k _=>by rw [Int.natCast_zero,wL])
 | a+1,g,hg=>by
  have ih:=HQ a (g:=fun x=>g (x+1)) (fun x=>by rw [show x+n+1=x+1+n by omega];exact hg _)
  rw [Z0 hg] at ih;rw [<-ih];exact ff n (fun k _=>by rw [wF,<-vJ];rfl)
def OH {n:Nat} {g:Int->Int} (hg:∀x,g (x+n)=g x) (a:Int):a8 (fun k=>g ((k:Int)+a)) n=a8 (fun k=>g k) n:=by
 by_cases h:0<=a
 ·have:=HQ a.toNat hg
  rw [xn h] at this;exact this
 ·have:=HQ (-a).toNat (g:=fun x=>g (x+a)) (fun x=>by rw [show x+n+a=x+a+n by omega];exact hg _)
  rw [xn (by omega)] at this;rw [<-this];exact ff n (fun k _=>by rw [show (k:Int)+ -a+a=k by omega])
def BC {n:Nat} {f g:Nat->Nat->Int} (h:∀c r,c<n->r<n->f c r=g c r):cO n f=cO n g:=
 ff n (fun r hr=>ff n (fun c hc=>h c r hc hr))
def ad9 (n:Nat) (f g:Nat->Nat->Int):cO n (fun c r=>f c r+g c r)=cO n f+cO n g:=by
 unfold cO;rw [<-Ip];exact ff n (fun r _=>Ip _ _ n)
def aea (n:Nat) (a:Int) (f:Nat->Nat->Int):cO n (fun c r=>a*f c r)=a*cO n f:=by
 unfold cO;rw [<-AW];exact ff n (fun r _=>AW a _ n)
def aeb (n:Nat) (a:Int):cO n (fun _ _=>a)=(n:Int)*n*a:=by
 unfold cO;rw [ff n (fun r _=>Iq a n),Iq,Int.mul_assoc]
def Ir (n:Nat) (f:Nat->Nat->Nat->Int):∀m,a8 (fun k=>cO n (f k)) m=cO n (fun c r=>a8 (fun k=>f k c r) m)
 | 0=>by
  show (0:Int)=cO n (fun _ _=>0)
  rw [aeb,uL]
 | m+1=>by
  show a8 (fun k=>cO n (f k)) m+cO n (f m)=cO n (fun c r=>a8 (fun k=>f k c r) m+f m c r)
  rw [Ir n f m,<-ad9]
def aec {n:Nat} {G:Int->Int->Int} (h1:∀x y,G (x+n) y=G x y) (h2:∀x y,G x (y+n)=G x y) (a b:Int):cO n (fun c r=>G ((c:Int)+a) ((r:Int)+b))=cO n (fun c r=>G (c:Int) (r:Int)):=by
 unfold cO
 rw [ff n (fun r _=>OH (g:=fun x=>G x ((r:Int)+b)) (fun x=>h1 x _) a)]
 exact OH (g:=fun y=>a8 (fun c=>G (c:Int) y) n) (fun y=>ff n (fun c _=>h2 _ _)) b
section
variable {s:List (List Int)}
def PW (x y:Int):bB s (x+(s.length:Int)) y=bB s x y:=HM rfl _ _ _ _ (tw _ _) rfl
def PX (x y:Int):bB s x (y+(s.length:Int))=bB s x y:=HM rfl _ _ _ _ rfl (tw _ _)
def PY {c r:Nat} (hc:c<s.length) (hr:r<s.length):kv s r c=bB s (c:Int) (r:Int):=by
 unfold bB kv;rw [tR (by omega) (by omega),tR (by omega) (by omega),wo,wo]
def RJ:cJ s=cO s.length (fun c r=>bB s (c:Int) (r:Int)):=BC (fun c r hc hr=>PY hc hr)
def RL (a b:Int):nY s a b=cO s.length (fun c r=>(bB s ((c:Int)+a) ((r:Int)+b)-bB s (c:Int) (r:Int))*(bB s ((c:Int)+a) ((r:Int)+b)-bB s (c:Int) (r:Int))):=BC (fun c r hc hr=>by unfold sdiff;rw [PY hc hr])
def DQ (a b:Int):(dP s a b).length=s.length:=gY _ _
def iD (s:List (List Int)):List (List Int):=s.map fun r=>r.map fun x=> -x
def sR:(iD s).length=s.length:=yU _
def RM (r c:Nat):kv (iD s) r c= -kv s r c:=by
 unfold kv iD;simp only [xk,vL]
 cases h:s[r]? with
 | none=>simp
 | some l=>
  simp only [Option.map_some,vv,vL];cases h2:l[c]?<;>simp
end
end
section
def ab3 {n:Nat} (h0:0<n) {f:Int->Int->Int} (h1:∀x y,f (x+n) y=f x y) (h2:∀x y,f x (y+n)=f x y) (x y:Int):bB (dK n (fun c r=>f (c:Int) (r:Int))) x y=f x y:=by
 have e1:∀(k:Nat) (x y:Int),f (x+(n:Int)*k) y=f x y:=fun k=>by
  induction k with
  | zero=>intro x y;simp
  | succ k ih=>intro x y;rw [wF,vS,<-vJ,show (n:Int)*((1:Nat):Int)=n by simp,h1,ih]
 have e2:∀(k:Nat) (x y:Int),f x (y+(n:Int)*k)=f x y:=fun k=>by
  induction k with
  | zero=>intro x y;simp
  | succ k ih=>intro x y;rw [wF,vS,<-vJ,show (n:Int)*((1:Nat):Int)=n by simp,h2,ih]
 have m1:∀x y:Int,f (x%n) y=f x y:=fun x y=>by
  have hd:=uW x n;by_cases hq:0<=x/n
  ·have:=e1 (x/n).toNat (x%n) y
   rw [xn hq,show x%n+(n:Int)*(x/n)=x by omega] at this;exact this.symm
  ·have:=e1 (-(x/n)).toNat x y
   rw [xn (by omega),yaH,show x+ -((n:Int)*(x/n))=x%n by omega] at this;exact this
 have m2:∀x y:Int,f x (y%n)=f x y:=fun x y=>by
  have hd:=uW y n;by_cases hq:0<=y/n
  ·have:=e2 (y/n).toNat x (y%n)
   rw [xn hq,show y%n+(n:Int)*(y/n)=y by omega] at this;exact this.symm
  ·have:=e2 (-(y/n)).toNat x y
   rw [xn (by omega),yaH,show y+ -((n:Int)*(y/n))=y%n by omega] at this;exact this
 have b1:=w7 x (show (n:Int)≠0 by omega);have b2:=wG x (show 0<(n:Int) by omega);have b3:=w7 y (show (n:Int)≠0 by omega);have b4:=wG y (show 0<(n:Int) by omega);unfold bB;rw [gY,xk,xk,List.getElem?_eq_getElem (show (y%n).toNat<(dK n _).length by rw [gY];omega),vv,sW (by omega),vL,List.getElem?_range (by omega)];show f (((x%n).toNat:Nat):Int) (((y%n).toNat:Nat):Int)=_
 rw [xn b1,xn b3,m1,m2]
def sB (s k:List (List Int)) (x y:Int):Int:=
 a8 (fun j=>a8 (fun i=>kv k j i*bB s (x+i-(k.length/2:Nat)) (y+j-(k.length/2:Nat))) k.length) k.length
def aim {s k:List (List Int)} (x y:Int):sB s k (x+(s.length:Int)) y=sB s k x y:=
 ff _ (fun j _=>ff _ (fun i _=>by rw [show x+(s.length:Int)+i-(k.length/2:Nat)=x+i-(k.length/2:Nat)+(s.length:Int) by omega,PW]))
def ain {s k:List (List Int)} (x y:Int):sB s k x (y+(s.length:Int))=sB s k x y:=
 ff _ (fun j _=>ff _ (fun i _=>by rw [show y+(s.length:Int)+j-(k.length/2:Nat)=y+j-(k.length/2:Nat)+(s.length:Int) by omega,PX]))
abbrev fw (s k:List (List Int)):List (List Int):=dK s.length (fun c r=>gI s k c r)
def OI {s k:List (List Int)} (h0:0<s.length) (x y:Int):bB (fw s k) x y=sB s k x y:=ab3 h0 (f:=sB s k) aim ain x y
def aio {s k:List (List Int)} (h0:0<s.length) (a b:Int):fw (dP s a b) k=dP (fw s k) a b:=by
 show dK (dP s a b).length _=dK (fw s k).length _
 rw [DQ,show (fw s k).length=s.length from gY _ _];unfold dK;refine uY fun r _=>uY fun c _=>?_
 show gI (dP s a b) k c r=bB (fw s k) ((c:Int)-a) ((r:Int)-b)
 rw [OI h0];unfold gI sB
 exact ff _ (fun j _=>ff _ (fun i _=>by
  rw [Yo h0,show (c:Int)+i-(k.length/2:Nat)-a=c-a+i-(k.length/2:Nat) by omega,show (r:Int)+j-(k.length/2:Nat)-b=r-b+j-(k.length/2:Nat) by omega]))
def fG (k:List (List Int)):Int:=a8 (fun j=>a8 (fun i=>kv k j i) k.length) k.length
def agQ {s k:List (List Int)} (h0:0<s.length):cJ (fw s k)=fG k*cJ s:=by
 rw [RJ,show (fw s k).length=s.length from gY _ _]
 rw [BC (g:=fun c r=>a8 (fun j=>a8 (fun i=>kv k j i*bB s ((c:Int)+i-(k.length/2:Nat)) ((r:Int)+j-(k.length/2:Nat))) k.length) k.length) (fun c r _ _=>OI h0 _ _)];rw [<-Ir s.length (fun j c r=>a8 (fun i=>kv k j i*bB s ((c:Int)+i-(k.length/2:Nat)) ((r:Int)+j-(k.length/2:Nat))) k.length) k.length];have e:∀j i:Nat,cO s.length (fun c r=>kv k j i*bB s ((c:Int)+i-(k.length/2:Nat)) ((r:Int)+j-(k.length/2:Nat)))=cJ s*kv k j i:=fun j i=>by
  rw [aea,wQ,RJ,<-aec (n:=s.length) (G:=bB s) PW PX ((i:Int)-(k.length/2:Nat)) ((j:Int)-(k.length/2:Nat))]
  congr 1
  exact BC (fun c r _ _=>by rw [tS,tS])
 rw [ff k.length (fun j _=>(Ir s.length (fun i c r=>kv k j i*bB s ((c:Int)+i-(k.length/2:Nat)) ((r:Int)+j-(k.length/2:Nat))) k.length).symm)];rw [ff k.length (fun j _=>ff k.length (fun i _=>e j i)),ff k.length (fun j _=>AW (cJ s) _ k.length),AW,wQ];rfl
def OJ {s:List (List Int)} (x y:Int):bB (iD s) x y= -bB s x y:=by
 unfold bB;rw [sR];exact RM _ _
def ab4 {s:List (List Int)} (a b:Int):nY (iD s) a b=nY s a b:=by
 rw [RL,RL,sR];exact BC (fun c r _ _=>by rw [OJ,OJ];grind)
end
section
open Go (IntKind)
def cY (k:Nat) (v:AV) (ps:List (List AV)):Prop:=((v= .ab/\ps=[])\/∃e,v= .aC e ps.length ps.flatten)/\∀p,p∈ps->p.length=k
section
variable {k:Nat} {v:AV} {ps:List (List AV)} {hp:Hp}
def cY.len (h:cY k v ps) {hp:Hp}:eY hp 1 v=some (.int .i64 (ps.length:Nat)):=by
 rcases h.1 with ⟨rfl,rfl⟩ | ⟨e,rfl⟩<;>rfl
def cY.pu (h:cY k v ps):aG v=true:=by
 rcases h.1 with ⟨rfl,rfl⟩ | ⟨e,rfl⟩<;>rfl
def cY.aE (h:cY k v ps) (n:Nat) {hp:Hp}:freeze (n+1) hp v=some (v,hp):=by
 rcases h.1 with ⟨rfl,rfl⟩ | ⟨e,rfl⟩<;>rfl
def cY.shut (h:cY k v ps):shut v=v:=by
 rcases h.1 with ⟨rfl,rfl⟩ | ⟨e,rfl⟩<;>rfl
def cY.bg (h:cY k v ps):bg v=v:=by
 rcases h.1 with ⟨rfl,rfl⟩ | ⟨e,rfl⟩<;>rfl
def cY.bF (h:cY k v ps) {hp:Hp}:result hp v=some v:=by
 rcases h.1 with ⟨rfl,rfl⟩ | ⟨e,rfl⟩<;>rfl
def cY.one (h:cY k v ps):cg v=true:=by
 rcases h.1 with ⟨rfl,rfl⟩ | ⟨e,rfl⟩<;>rfl
def cY.cells (h:cY k v ps):cellsOf v=[v]:=by
 rcases h.1 with ⟨rfl,rfl⟩ | ⟨e,rfl⟩<;>rfl
def NJ:∀{ps:List (List AV)} {i:Nat},(∀p,p∈ps->p.length=k)->∀(hi:i<ps.length),∃rest,ps.flatten.drop (i*k)=ps[i]++rest
 | [],i,_,hi=>absurd hi (wE i)
 | p::ps,0,h,_=>⟨ps.flatten,by simp⟩
 | p::ps,i+1,h,hi=>by
  obtain ⟨rest,e⟩:=NJ (ps:=ps) (i:=i) (fun q hq=>h q (xT _ hq)) (by simpa using hi);refine ⟨rest,?_⟩;rw [show (i+1)*k=p.length+i*k by rw [h p wP,Nat.add_mul];omega,List.flatten_cons,<-List.drop_drop,uV,e];rfl
def cY.a7 (h:cY k v ps) {i:Nat} (hi:i<ps.length):∃rest,fh k i v=some (.aO (ps[i]++rest)):=by
 obtain ⟨rest,e⟩:=NJ h.2 hi;refine ⟨rest,?_⟩;rcases h.1 with ⟨rfl,rfl⟩ | ⟨b,rfl⟩
 ·exact absurd hi (wE i)
 ·rw [Ej b _ hi,e]
end
abbrev mf:=List Nat×List Nat
def plC (p:mf):List AV:=[.str p.1,.str p.2]
def gL (v:AV) (l:List mf):Prop:=cY 2 v (l.map plC)
structure Lay where
 w:AV
 s:List (List Int)
 hh:List Nat
 sc:List Nat
 st:List Nat
 ox:List Nat
 oy:List Nat
 wx:List Nat
 wy:List Nat
def Lay.cs (a:Lay):List AV:=[a.w,.str a.hh,.str a.sc,.str a.st,.str a.ox,.str a.oy,.str a.wx,.str a.wy]
def Lay.T (a:Lay):AV:=lyT a.w a.hh a.sc a.st a.ox a.oy a.wx a.wy
noncomputable def Lay.E (a:Lay):Int:=ajS a.s a.hh a.sc a.st a.ox a.oy a.wx a.wy
def fR (v:AV) (l:List Lay):Prop:=cY 8 v (l.map Lay.cs)/\∀a,a∈l->bK a.w a.s
section
variable {v:AV} {hp:Hp}
def gL.len {l:List mf} (h:gL v l) {hp:Hp}:eY hp 1 v=some (.int .i64 (l.length:Nat)):=by
 have:=cY.len (hp:=hp) h;rwa [yU] at this
def gL.pu {l:List mf} (h:gL v l):aG v=true:=cY.pu h
def gL.aE {l:List mf} (h:gL v l) (n:Nat) {hp:Hp}:freeze (n+1) hp v=some (v,hp):=cY.aE h n
def gL.shut {l:List mf} (h:gL v l):VE.shut v=v:=cY.shut h
def gL.bg {l:List mf} (h:gL v l):VE.bg v=v:=cY.bg h
def gL.bF {l:List mf} (h:gL v l) {hp:Hp}:result hp v=some v:=cY.bF h
def gL.one {l:List mf} (h:gL v l):cg v=true:=cY.one h
def gL.cells {l:List mf} (h:gL v l):cellsOf v=[v]:=cY.cells h
def gL.a7 {l:List mf} (h:gL v l) {i:Nat} (hi:i<l.length):∃rest,fh 2 i v=some (.aO (.str l[i].1:: .str l[i].2::rest)):=by
 obtain ⟨rest,e⟩:=cY.a7 h (i:=i) (by simpa using hi);refine ⟨rest,?_⟩;rw [e,wH];rfl
def fR.len {l:List Lay} (h:fR v l) {hp:Hp}:eY hp 1 v=some (.int .i64 (l.length:Nat)):=by
 have:=cY.len (hp:=hp) h.1;rwa [yU] at this
def fR.pu {l:List Lay} (h:fR v l):aG v=true:=cY.pu h.1
def fR.aE {l:List Lay} (h:fR v l) (n:Nat) {hp:Hp}:freeze (n+1) hp v=some (v,hp):=cY.aE h.1 n
def fR.shut {l:List Lay} (h:fR v l):VE.shut v=v:=cY.shut h.1
def fR.bg {l:List Lay} (h:fR v l):VE.bg v=v:=cY.bg h.1
def fR.bF {l:List Lay} (h:fR v l) {hp:Hp}:result hp v=some v:=cY.bF h.1
def fR.one {l:List Lay} (h:fR v l):cg v=true:=cY.one h.1
def fR.cells {l:List Lay} (h:fR v l):cellsOf v=[v]:=cY.cells h.1
def fR.a7 {l:List Lay} (h:fR v l) {i:Nat} (hi:i<l.length):∃rest,fh 8 i v=some (.aO (l[i].w:: .str l[i].hh:: .str l[i].sc:: .str l[i].st:: .str l[i].ox:: .str l[i].oy:: .str l[i].wx:: .str l[i].wy::rest)):=by
 obtain ⟨rest,e⟩:=cY.a7 h.1 (i:=i) (by simpa using hi);refine ⟨rest,?_⟩;rw [e,wH];rfl
def fR.get {l:List Lay} (h:fR v l) {i:Nat} (hi:i<l.length):bK l[i].w l[i].s:=h.2 _ (List.getElem_mem hi)
end
end
section
open Go (IntKind)
section
variable {P:aA} {L:Lib}
def ed (l:List Int):List AV:=l.map aa
end
end
section
open Go (IntKind)
noncomputable def fD (k A:Int):List Nat:=RT ((k:Rat)/(A:Rat))
def PZ {k A:Int} (hA:0<A):fU k A=fD k A:=by unfold fD;rw [<-IJ hA,tP]
def I0 {z:Int} (h:z.natAbs<1099511627776):Hq 40 (z:Rat):=⟨by rw [Rat.num_intCast];unfold Bd;omega,by rw [Rat.den_intCast];decide⟩
def SQ {k A:Int} (h1:k.natAbs<1099511627776) (h2:A.natAbs<1099511627776):Hq 80 ((k:Rat)/(A:Rat)):=(I0 h1).div (I0 h2)
section
variable {P:aA} {L:Lib}
def Wv (h:Dd P L) {v:AV} {s:List (List Int)} (hv:bK v s) (hz:cF s=0) {a b:Int} (ha: -999999999<=a/\a<=999999999) (hb: -999999999<=b/\b<=999999999):an P L 18 [v,aa a,aa b] (.ay [.str (fD (nY s a b) (bY s)),aa 0]):=by
 have hS:=q8 hv hz;have hl:s.length<=1000000:=by have:=hS.le;omega
 have hr:∀i (hi:i<s.length),s[i].length<=1000000:=fun i hi=>by rw [hS.row i hi];exact hl
 have e:=n18 h hv hl hr a b;have c0:bM [cF s,de a,de b]=0:=by
  rw [hz,show de a=0 by unfold de;rw [yD (by omega)],show de b=0 by unfold de;rw [yD (by omega)]];rfl
 rw [yS c0,c0,PZ (sN hS.pos hS.le).1] at e;exact e
def Ww (h:Dd P L) {v:AV} {s:List (List Int)} (hv:bK v s) (hz:cF s=0):an P L 16 [v] (.ay [.str (fD (cJ s) (bY s)),aa 0]):=by
 have hS:=q8 hv hz;have hl:s.length<=1000000:=by have:=hS.le;omega
 have hr:∀i (hi:i<s.length),s[i].length<=1000000:=fun i hi=>by rw [hS.row i hi];exact hl
 have e:=n16 h hv hl hr;rw [yS hz,hz,PZ (sN hS.pos hS.le).1] at e;exact e
def dV (l:List Int) (c:Nat):List Int:=(l.take c).map fun x=> -x
def aip {l:List Int} {c:Nat} (hc:c<l.length):ed (dV l (c+1))=ed (dV l c)++[aa (-l[c])]:=by
 unfold dV ed;rw [wb hc];simp only [xG,yV,wU]
def P0 {l:List Int} {c:Nat} (hc:c<=l.length):(ed (dV l c)).length=c:=by
 simp [ed,dV,xJ hc]
def aed (l:List Int):dV l l.length=l.map fun x=> -x:=by unfold dV;rw [wi]
def eO (s:List (List Int)) (r:Nat):List AV:=((s.take r).map fun l=>l.map fun x=> -x).map kJ
def aiq {s:List (List Int)} {r:Nat} (hr:r<s.length):eO s (r+1)=eO s r++[kJ (s[r].map fun x=> -x)]:=by
 unfold eO;rw [wb hr];simp only [xG,yV,wU]
def aee {s:List (List Int)} {r:Nat} (hr:r<=s.length):(eO s r).length=r:=by simp [eO,xJ hr]
def aef (s:List (List Int)):eO s s.length=(iD s).map kJ:=by unfold eO iD;rw [wi]
end
end
section
open Go (IntKind)
def ab5 {s:List (List Int)} {n:Nat} (h:∀i (hi:i<s.length),s[i].length=n):∀i (hi:i<(iD s).length),(iD s)[i].length=n:=fun i hi=>by
 unfold iD at hi ⊢;rw [yU] at hi;rw [wH,yU];exact h i hi
def aeg {s:List (List Int)} (h:cF s=0):cF (iD s)=0:=by
 obtain ⟨a1,a2,a3⟩:=oE h
 rw [<-agP (s:=iD s) sR (ab5 fun i hi=>(jx a3 i hi).1)]
 exact Bb a1 a2 (fun c r=>by have:=lA a3 (by decide) r c;rw [RM];omega)
def ajV {s:List (List Int)} (h0:0<s.length) (h1:s.length<=16) (hs:cy s.length (-1000) 1000 s=0):(UP s).natAbs<2^50/\(JX s).natAbs<2^50/\(cJ s).natAbs<=256000:=by
 have b1:=DP h1 (b:=1000) (by decide) (by decide) (val:=fun c r=>kv s r c) (fun c r _ _=>lA hs (by decide) r c);have b2:=DP h1 (b:=1000000) (by decide) (by decide) (val:=fun c r=>kv s r c*kv s r c) (fun c r _ _=>DK (a:=1000) (b:=1000) (lA hs (by decide) r c) (lA hs (by decide) r c));change -(1000*256)<=cJ s/\cJ s<=1000*256 at b1
 change -(1000000*256)<=zR s/\zR s<=1000000*256 at b2
 have ba:=sN h0 h1;have n1:(cJ s).natAbs<=256000:=by omega
 have n2:(zR s).natAbs<=256000000:=by omega
 have n3:(bY s).natAbs<=256:=by omega
 have m11:(cJ s*cJ s).natAbs<=65536000000:=by rw [xX];exact xO n1 n1
 have Wx:(bY s*bY s).natAbs<=65536:=by rw [xX];exact xO n3 n3
 have x1:(zR s*(bY s*bY s)).natAbs<=256000000*65536:=by rw [xX];exact xO n2 Wx
 have x2:(cJ s*cJ s*bY s).natAbs<=65536000000*256:=by rw [xX];exact xO m11 n3
 have x3:(JX s).natAbs<=256*65536:=by unfold JX;rw [xX];exact xO n3 Wx
 have:=Int.natAbs_sub_le (zR s*(bY s*bY s)) (cJ s*cJ s*bY s)
 refine ⟨?_,by omega,n1⟩;unfold UP;omega
section
variable {P:aA} {L:Lib}
end
end
section
def P1 {lo hi:Int}:∀{l:List Int},(∀x,x∈l->lo<=x/\x<=hi)->bA lo hi l=false
 | [],_=>rfl
 | a::r,h=>by
  have h1:=h a (by simp);rw [bA,yD (by omega),P1 (fun x hx=>h x (by simp [hx]))]
end
section
def W2 {key side:Int} {w:List Int} (h0:jd key side w=0):(1<=key/\key<=2147483646)/\w.length<=33/\w.length%2=1/\bA 0 1000 w=false/\b6 w≠0:=by
 unfold jd at h0;by_cases g1:key<1\/2147483646<key
 ·simp [g1] at h0
 ·rw [yD g1] at h0
  split at h0
  ·simp at h0
  ·split at h0
   ·simp at h0
   ·split at h0
    ·simp at h0
    ·split at h0
     ·simp at h0
     ·split at h0
      ·simp at h0
      ·rename_i g6
       split at h0
       ·simp at h0
       ·rename_i g7;exact ⟨by omega,by omega,by omega,by simpa using g6,g7⟩
def OK:∀{l:List (List Int)},(∀r,r∈l->∀x,x∈r-> -1000<=x/\x<=1000)->jM l=false
 | [],_=>rfl
 | r::l,h=>by
  rw [jM,P1 (h r (by simp)),OK (fun r' hr=>h r' (by simp [hr]))];rfl
end
end VE
