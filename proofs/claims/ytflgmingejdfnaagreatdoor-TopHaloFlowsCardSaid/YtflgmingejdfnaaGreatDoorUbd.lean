import Derived.Test.YtflgmingejdfnaaGreatDoorUbb
import Derived.Test.YtflgmingejdfnaaGreatDoorUal
import Derived.Test.YtflgmingejdfnaaGreatDoorUba
import Derived.Test.YtflgmingejdfnaaGreatDoorUay
import Derived.Test.YtflgmingejdfnaaGreatDoorUau
import Derived.Test.YtflgmingejdfnaaGreatDoorUao
import Derived.Test.YtflgmingejdfnaaGreatDoorUbc
set_option linter.all false
set_option maxRecDepth 100000
open Bool renaming and_eq_true→yg,and_self→wi,false_and→xA,not_false→yI,not_true→yM,true_and→xv
open Int renaming add_zero→vz,zero_sub→ybS
open List renaming all_cons→yal,drop→xz,drop_zero→yj
open Nat renaming beq→yx,le_of_ble_eq_true→yC,mul_one→yi,reduceAdd→yb,reduceEqDiff→ya,reduceLT→yt,reduceLeDiff→ye,zero_add→yd
open Option.some renaming injEq→yc
open Rat renaming den_intCast→vR,intCast_neg→ybg,num_intCast→vh,zero_add→ybW
namespace VE
section
open Go (IntKind)
def alX:∀(cs:List AV) (l:List Nat),sX cs=some l->cs=l.map uc/\lo 18446744073709551616 l:=by
 intro cs
 induction cs with
 | nil=>
  intro l h;simp only [sX,yc] at h;subst h;exact ⟨rfl,fun _ h=>by cases h⟩
 | cons c cs ih=>
  intro l h;unfold sX at h
  split at h
  ·grind
  ·rename_i d r po;cases po
   cases hb:Nat.blt d 18446744073709551616 with
   | false=>rw [hb] at h;cases h
   | true=>
    rw [hb] at h
    cases hw:sX cs with
    | none=>rw [hw] at h;cases h
    | some l'=>
     rw [hw] at h;cases h;obtain ⟨k1,k2⟩:=ih l' hw;refine ⟨by rw [k1];rfl,fun x hx=>?_⟩
     rcases List.mem_cons.1 hx with rfl | hx
     ·simp_all
     ·exact k2 x hx
  ·cases h
def abM:∀{l:List Nat},Cp l=true->gU l
 | [],h=>by cases h
 | [a],h=>by
  have h0:a≠0:=fun e=>by subst e;cases h
  exact Fs h0 []
 | a::b::r,h=>by
  have h1:eI (b::r)=b::r:=abM (l:=b::r) h;show eI (a::(b::r))=_
  simp only [eI] at h1 ⊢;rw [h1]
section
variable {P:aI} {L:Lib}
def asq (h:Has P L 99 Bn) (WM:L.pure 135=some Gr) {s:Int} (hs:zc s=true):bY P L (D P L) 99 [.agg [aa s,.ae]]=some (.str (aW s)):=by
 have e1:bY P L (D P L) 135 [aa s]=some (.str (aW s)):=by
  rw [iP WM];show (bif zc s then some (AV.str (aW s)) else none)=_
  rw [hs];rfl
 rw [aq h];simp only [go_sem,ya,yb,Bn,aG,aZ,yd,cC,hZ,dA,e1]
end
section
open Go
variable {O:bD}
def anM (hO:eP O) (hN:Nu O.prog O.aU) (WM:O.aU.pure 135=some Gr) (ED:O.aU.pure 138=some BI) (A8:O.aU.pure 139=some BZ) (Dd:Has O.prog O.aU 99 Bn) {fn:Func} {c:Code} (kM:O.P.funcs[O.ai 99]? =some fn) (jF:fn.body=some c) (Qt:fn.ntmps=69)
  (WJ:Qh 5 c) (ht:Ui O.P c):∀vals r,Of vals=some r->eX O 99 vals r:=by
 intro vals r h;unfold Of at h
 split at h
 ·rename_i s
  cases hs:zc s with
  | false=>rw [hs] at h;cases h
  | true=>
   rw [hs] at h;cases h;obtain ⟨k,hk⟩:=Uu (asq (P:=O.prog) (L:=O.aU) Dd WM hs);exact sound hO hk
 ·rename_i s e n cs
  cases hw:sX cs with
  | none=>rw [hw] at h;cases h
  | some l=>
   rw [hw] at h;simp only at h
   cases hb:(yx l.length n&&(Nat.ble n 4000000000&&(Cp l&&Nat.ble 9223372036854775808 (zy l)))) with
   | false=>rw [hb] at h;cases h
   | true=>
    rw [hb] at h;simp only [yg] at hb;obtain ⟨h1,h2,h3,h4⟩:=hb;obtain ⟨rfl,bt⟩:=alX cs l hw;have h1:=Nat.eq_of_beq_eq_true h1;subst h1;have h2:=yC h2;have h4:=yC h4;have h3:=abM h3;rw [TV] at h4 h;have bm:=nm bt;have key:=fun (s z:Int) (hz:z.natAbs=bv 18446744073709551616 l) (hs:s=if z<0 then -1 else 1)=>
     ap9 hO hN ED A8 Dd.code kM jF Qt WJ ht (s:=s) (z:=z) (e:=e) (l:=l) (.inr ⟨e,l,rfl,bt,h3,hz.symm,hs,by omega⟩) (by omega) h2 (by omega)
    split at h
    ·cases h
     have:=key 1 (bv 18446744073709551616 l:Nat) (by simp) (by rw [yr (by omega)])
     exact this
    ·cases h
     have:=key (-1) (-(bv 18446744073709551616 l:Nat):Int) (by simp) (by rw [yF (by omega)])
     rw [kS (by omega)] at this
     grind
    ·cases h
 ·cases h
end
end
section
open Go
def UL (L:Lib) (n:Nat) (sp:List AV->Option AV):Lib:=⟨fun i=>bif yx i n then some sp else L.pure i,L.heap⟩
def anN {O:bD} (hO:eP O) {n:Nat} {sp:List AV->Option AV} (h:∀vals r,sp vals=some r->eX O n vals r):eP (O.sQ (UL O.aU n sp)) where
 hint:=hO.hint
 mixed:=hO.mixed
 prog:=hO.prog
 aU i QY vals r hi hs:=by
  show eX O i vals r
  simp only [UL] at hi
  cases hb:yx i n with
  | true=>
   simp_all
  | false=>
   rw [hb] at hi;exact hO.aU i QY vals r hi hs
 GD i QY hp ct vals v ao bj hi hs:=abc (hO.GD i QY hp ct vals v ao bj hi hs)
end
section
open Go (IntKind)
noncomputable def Pc (s:List (List Int)) (hh sc st ox oy wx wy:List Nat):Bool:=
 decide (s.length<=4)&&(decide (dz s=0)&&((dh 5 hh&&(dh 5 sc&&dh 5 st))&&((dh 5 ox&&dh 5 oy)&&((dh 5 wx&&dh 5 wy)&&decide (lC s hh sc st ox oy wx wy=0)))))
def oF {s:List Nat} (h:dh 5 s=true):s.length<=14/\aX s=0/\Hq 24 (aB s):=by
 refine Uh (s:=s) ?_;unfold dh at h ⊢;simp only [yg,wN] at h ⊢;omega
section
variable {P:aI} {L:Lib}
def Pd (h:Rm P L) (mi:Has P L 359 qj) {s:List Nat} (hs:s.length<9223372036854775808):af P L 359 [.str s,aa 5] (.bool (dh 5 s)):=awK (k:=5) h mi (by decide) hs
def Pe (h:Rm P L) (CK:Has P L 358 GQ) (mi:Has P L 359 qj) {x y:List Nat} (hx:x.length<9223372036854775808) (hy:y.length<9223372036854775808):af P L 358 [gF x y,aa 5] (.bool (dh 5 x&&dh 5 y)):=by
 have e1:=Pd h mi hx;have e2:=Pd h mi hy;unfold af at e1 e2 ⊢;rw [aq CK];cases h1:dh 5 x<;>rw [h1] at e1
 ·simp only [go_sem,ya,yb,GQ,aG,aZ,yd,e1,xA]
 ·simp only [go_sem,ya,yb,GQ,aG,aZ,yd,cC,e1,e2,xv]
def awN (h:S0 P L) (WG:Has P L 357 GP) (CK:Has P L 358 GQ) (mi:Has P L 359 qj) {x y s:List Nat} (hx:x.length<9223372036854775808) (hy:y.length<9223372036854775808) (hs:s.length<9223372036854775808):af P L 357 [jm x y s,aa 5] (.bool (dh 5 x&&dh 5 y&&(dh 5 s&&decide (rF x y s=0)))):=by
 have e1:=Pe h.toRm CK mi hx hy;have e2:=Pd h.toRm mi hs;unfold af at e1 e2 ⊢;rw [aq WG];cases h1:(dh 5 x&&dh 5 y)<;>rw [h1] at e1
 ·simp only [go_sem,ya,yb,GP,aG,aZ,yd,fy,bl,e1,xA]
 ·cases h2:dh 5 s<;>rw [h2] at e2
  ·simp only [go_sem,ya,yb,GP,aG,aZ,yd,B1,fy,bl,e1,e2,xA,xv]
  ·rw [yg] at h1;obtain ⟨l1,_⟩:=oF h1.1;obtain ⟨l2,_⟩:=oF h1.2;obtain ⟨l3,_⟩:=oF h2;have e3:=ayP h (x:=x) (y:=y) (s:=s) (by omega) (by omega) (by omega);unfold af at e3;rw [show bn [bn [aX x,aX y],iZ s 0]=rF x y s from rfl] at e3;simp only [go_sem,ya,yb,GP,aG,aZ,yd,B1,fy,lh,bl,e1,e2,e3,xv]
def awO (h:Rm P L) (mi:Has P L 359 qj) (WH:Has P L 364 PU) {v:AV} {l:List (List Nat)} (hv:jJ v l) (hl:l.length<=3) (hs:∀s,s∈l->s.length<9223372036854775808):af P L 364 [v,aa 3,aa 5] (.bool (l.all (dh 5))):=by
 have key:=cg (P:=P) (L:=L) (live:=[0,2,7]) (a:=F5)
  (I:=fun k st=>∃i:Nat,i+k=l.length/\(l.drop i).all (dh 5)=l.all (dh 5)/\st=⟨[(0,v),(2,aa 5),(7,aa i)],[],0,0⟩)
  (Q:=fun ex st=>∃tm hp ct,st=⟨tm,hp,ct,0⟩/\((ex= .ret/\ab tm 6= .bool false/\l.all (dh 5)=false)\/(ex= .exit 0/\l.all (dh 5)=true))) ?_
 ·unfold af;rw [aq WH];simp only [go_sem,ya,PU,hv.len,show ¬(3:Int)<l.length by omega,yp];generalize hq:D P L (.loop [0,2,7] F5) _=q;obtain ⟨ex,st,rfl,tm,hp,ct,rfl,h2⟩:=bV hq (key l.length) ⟨0,by omega,rfl,by simp only [go_sem,ya,av,az hv.pu,aE _ hv.pu]<;>rfl⟩
  rcases h2 with ⟨rfl,h3,h4⟩ | ⟨rfl,h4⟩
  ·rw [h4];simp only [go_sem,h3]
  ·rw [h4];simp only [go_sem,av]
 ·rintro k st ⟨i,hk,hf,rfl⟩;by_cases hi:i<l.length
  ·have e2:=Pd h mi (hs _ (List.getElem_mem hi));unfold af at e2;have hd:(l.drop i).all (dh 5)=(dh 5 l[i]&&(l.drop (i+1)).all (dh 5)):=by rw [List.drop_eq_getElem_cons hi,yal]
   rw [hd] at hf
   cases hb:dh 5 l[i] with
   | false=>
    right
    rw [hb] at e2;simp only [go_sem,ya,F5,hv.len,show (i:Int)<l.length by omega,hv.aY hi,e2];refine ⟨_,_,rfl,by simp,_,_,_,rfl,.inl ⟨rfl,by simp only [go_sem],?_⟩⟩;rw [<-hf,hb,xA]
   | true=>
    left
    rw [hb] at e2;simp only [go_sem,ya,F5,hv.len,show (i:Int)<l.length by omega,hv.aY hi,e2];rw [hb,xv] at hf;refine ⟨_,k-1,rfl,by omega,i+1,by omega,hf,?_⟩;rw [wrap64 (by omega) (by omega)];simp only [go_sem,ya,av,az hv.pu,aE _ hv.pu]<;>rfl
  ·right
   simp only [go_sem,ya,F5,hv.len,show ¬(i:Int)<l.length by omega];refine ⟨_,_,rfl,by simp,_,_,_,rfl,.inr ⟨rfl,?_⟩⟩;rw [<-hf,List.drop_eq_nil_of_le (by omega)];rfl
def awP (h:LwFlowB P L) {w:AV} {s:List (List Int)} (hw:bU w s) {hh sc st ox oy wx wy:List Nat} (b1:hh.length<9223372036854775808) (b2:sc.length<9223372036854775808) (b3:st.length<9223372036854775808) (b4:ox.length<9223372036854775808) (b5:oy.length<9223372036854775808) (b6:wx.length<9223372036854775808) (b7:wy.length<9223372036854775808):
  af P L 361 [eF w hh sc st ox oy wx wy,aa 4,aa 5] (.bool (Pc s hh sc st ox oy wx wy)):=by
 have e1:=s3 h.h3 h.gV hw;have e2:=awO h.s.toRm h.mi h.WH (aea true [hh,sc,st]) (by simp) (fun t ht=>by
  simp at ht
  rcases ht with rfl | rfl | rfl<;>omega)
 simp only [List.length_cons,List.length_nil,yd,yb,List.map_cons,List.map_nil,yal,List.all_nil,Bool.and_true] at e2;have e3:=Pe h.s.toRm h.CK h.mi b4 b5;have e4:=Pe h.s.toRm h.CK h.mi b6 b7;have o1:=hw.one;have p1:=hw.pu;have CO:∀a b c d e f g i:AV,xz 1 [a,b,c,d,e,f,g,i]=[b,c,d,e,f,g,i]:=fun _ _ _ _ _ _ _ _=>rfl
 unfold Pc;unfold gF at e3 e4;unfold af at e1 e2 e3 e4;by_cases hl:s.length<=4
 ·rw [xi hl,xv];by_cases hc:dz s=0
  ·rw [xi hc,xv];rw [hc] at e1;cases f1:(dh 5 hh&&(dh 5 sc&&dh 5 st))<;>rw [f1] at e2
   ·unfold af eF;rw [aq h.G9];simp only [go_sem,ya,yb,yt,ye,yi,CC,aG,o1,p1,hw.len,hw.ah,show ¬(4:Int)<s.length by omega,aZ,yd,CO,G8,Qf,yj,e1,yq,yp,e2,yM,yI,xA]
   ·cases f2:(dh 5 ox&&dh 5 oy)<;>rw [f2] at e3
    ·unfold af eF;rw [aq h.G9];simp only [go_sem,ya,yb,yt,ye,yi,CC,aG,o1,p1,hw.len,hw.ah,show ¬(4:Int)<s.length by omega,aZ,yd,CO,G8,Qf,nT,fy,bl,yj,e1,yq,yp,e2,e3,yM,yI,xA,xv]
    ·cases f3:(dh 5 wx&&dh 5 wy)<;>rw [f3] at e4
     ·unfold af eF;rw [aq h.G9];simp only [go_sem,ya,yb,yt,ye,yi,CC,aG,o1,p1,hw.len,hw.ah,show ¬(4:Int)<s.length by omega,aZ,yd,CO,G8,Qf,nT,Qg,fy,bl,yj,e1,yq,yp,e2,e3,e4,yM,yI,xA,xv]
     ·simp only [yg] at f1 f2 f3;obtain ⟨l1,_⟩:=oF f1.1;obtain ⟨l2,_⟩:=oF f1.2.1;obtain ⟨l3,_⟩:=oF f1.2.2;obtain ⟨l4,_⟩:=oF f2.1;obtain ⟨l5,_⟩:=oF f2.2;obtain ⟨l6,_⟩:=oF f3.1;obtain ⟨l7,_⟩:=oF f3.2;have e5:=azb h.s h.h3 h.gV h.WD hw (hh:=hh) (sc:=sc) (st:=st) (ox:=ox) (oy:=oy) (wx:=wx) (wy:=wy) (by omega) (by omega) (by omega) (by omega) (by omega) (by omega) (by omega);unfold eF at e5 ⊢;unfold af at e5 ⊢;rw [aq h.G9];simp only [go_sem,ya,yb,yt,ye,yi,CC,aG,o1,p1,hw.len,hw.ah,show ¬(4:Int)<s.length by omega,aZ,yd,CO,G8,Qf,nT,Qg,kQ,fy,bl,yj,e1,yq,yp,e2,e3,e4,e5,yM,xv]
  ·rw [yR hc,xA];unfold af eF;rw [aq h.G9];simp only [go_sem,ya,yb,CC,aG,o1,p1,hw.len,hw.ah,show ¬(4:Int)<s.length by omega,aZ,yd,yj,e1,hc,yp,yI]
 ·rw [yR hl,xA];unfold af eF;rw [aq h.G9];simp only [go_sem,ya,yb,CC,aG,o1,p1,hw.len,show (4:Int)<s.length by omega,aZ,yd,yj,yq]
end
end
section
open Go (IntKind)
def Gj (hp:Hp) (ct id:Nat) (a b c:List Nat) (x y z:AV):fu hp ct id 0 3 [.str a,.str b,.str c] (some (.cells true true true 3 [x,y,z]))=some (.aw [],bf hp id (.cells true true true 3 [.str a,.str b,.str c]),ct):=by
 rw [lj (by rfl) (by simp) (by rfl)];rfl
section
variable {P:aI} {L:Lib} {dx dy s x y ox oy:List Nat} {fr p:Int}
end
end
section
open Go (IntKind)
def Ha:dh 6 [48]=true/\aB [48]=0:=by
 have h:aB [48]=0:=by
  have:=Ec G4 (by decide)
  rwa [Qc] at this
 refine ⟨?_,h⟩;unfold dh;rw [h];decide
section
variable {P:aI} {L:Lib} {dx dy s x y ox oy:List Nat} {fr p:Int}
end
end
section
def r48:aB [48]=0:=Ha.2
def aeg (h:Rat):jO 0 h=1:=yF rfl
def abN {hh sc o w d x X:List Nat} {n:Int} (h0:aB sc≠0) (hX:aB X=aB x+(n:Rat)/aB sc*aB w):nF hh sc o [48] d [48] X 3=nF hh sc o w d [48] x n:=by
 unfold nF EB;rw [r48,aeg,hX];generalize aB sc=S at*
 generalize aB x=a;generalize aB w=b;generalize aB hh*aB d=c;generalize aB o=e;have h1:(n:Rat)/S=(n:Rat)*S⁻¹:=Rat.div_def _ _;have h2:S*S⁻¹=1:=Rat.mul_inv_cancel _ h0;rw [h1]
 grind
def abO {hh sc o w d sh x X:List Nat} {n:Int} (h0:aB sh≠0) (hX:aB X=(1-aB hh/aB sh)*aB x):nF hh sc o w d [48] X n=nF hh sc o w d sh x n:=by
 unfold nF;rw [r48,aeg,hX,Rat.one_mul];unfold jO;rw [yr h0]
def acR {s:List (List Int)} {hh sc st ox oy wx wy dx dy x y X Y:List Nat} {n:Int} (h0:aB sc≠0) (hX:aB X=aB x+(n:Rat)/aB sc*aB wx) (hY:aB Y=aB y+(n:Rat)/aB sc*aB wy):nN s hh sc st ox oy [48] [48] dx dy [48] X Y 3=nN s hh sc st ox oy wx wy dx dy [48] x y n:=by
 unfold nN;rw [abN h0 hX,abN h0 hY]
def acS {s:List (List Int)} {hh sc st ox oy wx wy dx dy sh x y X Y:List Nat} {n:Int} (h0:aB sh≠0) (hX:aB X=(1-aB hh/aB sh)*aB x) (hY:aB Y=(1-aB hh/aB sh)*aB y):nN s hh sc st ox oy wx wy dx dy [48] X Y n=nN s hh sc st ox oy wx wy dx dy sh x y n:=by
 unfold nN;rw [abO h0 hX,abO h0 hY]
end
section
open Go (IntKind)
def asr {z:Int}: -99<=z.tmod 100/\z.tmod 100<=99:=by
 have h2:z.tmod 100<100:=Int.tmod_lt_of_pos z (by decide);have h3: -100<z.tmod 100:=Int.lt_tmod_of_pos z (by decide);omega
def acT {s t:List (List Int)} {hh sc st ox oy wx wy ax ay vx vy:List Nat} (h:lC s hh sc st ox oy wx wy=0) (h1:dz t=0) (h2:aX ax=0) (h3:aX ay=0) (h4:aX vx=0) (h5:aX vy=0):lC t hh sc st ax ay vx vy=0:=by
 unfold lC at h ⊢;simp only [M1,Nj,wF] at h ⊢;exact ⟨h1,h.2.1,h.2.2.1,h.2.2.2.1,⟨h2,h3⟩,h4,h5⟩
def NW {s:List (List Int)} {hh sc st ox oy wx wy dx dy sh x y:List Nat} {fr:Int} (h1:lC s hh sc st ox oy wx wy=0) (h2:rF dx dy sh=0) (h3:aX x=0) (h4:aX y=0) (h5: -999999999<=fr/\fr<=999999999):rQ s hh sc st ox oy wx wy dx dy sh x y fr=0:=by
 have h6:dd fr=0:=by unfold dd;rw [yr (by omega)]
 unfold rQ;rw [h1,h2,h3,h4,h6];rfl
section
variable {P:aI} {L:Lib}
end
end
section
open Go (IntKind)
structure M2 (P:aI) (L:Lib):Prop extends LwFlowB P L where
 r:Rn P L
 E8:Has P L 21 Hu
 Bq:Has P L 59 EP
 Lt:Has P L 265 KP
 Qb:Has P L 266 PJ
 G2:Has P L 283 KU
 WE:Has P L 363 PT
 Hb:Has P L 479 Cx
 azd:Has P L 482 VG
 Vh:af P L 481 [] (.bool true)
def avk {r:Rat} (h:1<=cA r.num):r≠0:=by
 intro h0;rw [h0] at h;exact absurd h (by decide)
def UM {dx dy:List Nat} (h1:aX dx=0) (h2:aX dy=0):rF dx dy [48]=0:=by
 have h3:iZ [48] 0=0:=by
  unfold iZ;rw [yF (Uh Ha.1).2.1,Ha.2];decide
 unfold rF;rw [h1,h2,h3];rfl
def Uj (h:Rat):pV (aB [48]) h=true:=by
 rw [Ha.2];unfold pV;simp
def awQ:RT 1=[49]:=by decide
section
variable {P:aI} {L:Lib}
def aiD (h:M2 P L) {a b c d t:Rat} {K:Nat} (ka:Hq K a) (kb:Hq K b) (kc:Hq K c) (kd:Hq K d) (kt:Hq K t) (hK:K<=1000000000):af P L 482 [gF (RT a) (RT b),.str (RT t),gF (RT c) (RT d)] (gF (RT (a+t*c)) (RT (b+t*d))):=by
 have e1:=O6 h.r kt kc (by omega);have e2:=Vf h.r.toRp ka (kt.mul kc) (by omega);have e3:=O6 h.r kt kd (by omega);have e4:=Vf h.r.toRp kb (kt.mul kd) (by omega);have s2:∀(hp:Hp) (ct id:Nat) (x y:List Nat) (u v:AV),fu hp ct id 0 2 [.str x,.str y] (some (.cells true true true 2 [u,v]))=some (.aw [],bf hp id (.cells true true true 2 [.str x,.str y]),ct):=fun hp ct id x y u v=>by
  rw [lj (by rfl) (by simp) (by rfl)];rfl
 unfold gF;unfold af at e1 e2 e3 e4 ⊢;rw [aq h.azd];simp only [go_sem,ya,yb,ye,VG,aG,aZ,yd,cC,yj,e1,e2,e3,e4,s2,dB,dD,fy];rfl
def akm (h:M2 P L) {w:AV} {s:List (List Int)} (hw:bU w s) {hh sc st ox oy wx wy dx dy sh x y:List Nat} {f0:Int} (b1:hh.length<9223372036854775808) (b2:sc.length<9223372036854775808) (b3:st.length<9223372036854775808) (b4:ox.length<9223372036854775808) (b5:oy.length<9223372036854775808) (b6:wx.length<9223372036854775808) (b7:wy.length<9223372036854775808) (b8:dx.length<9223372036854775808) (b9:dy.length<9223372036854775808) (ba:sh.length<9223372036854775808) (bb:x.length<9223372036854775808) (bc:y.length<9223372036854775808) (Dg: -128<=f0/\f0<128):
  af P L 479 [.agg [w,.str hh,.str sc,.str st,.str ox,.str oy,.str wx,.str wy,.str dx,.str dy,.str sh,.str x,.str y,.int .i8 f0]] (.bool true):=by
 have ea:=h.Vh;have BG:=awP h.toLwFlowB hw b1 b2 b3 b4 b5 b6 b7;have BH:=awN h.s h.WG h.CK h.mi b8 b9 ba;have Ds:=Pe h.s.toRm h.CK h.mi bb bc;have o1:=hw.one;have p1:=hw.pu;have CO:∀a b c d e f g i:AV,xz 1 [a,b,c,d,e,f,g,i]=[b,c,d,e,f,g,i]:=fun _ _ _ _ _ _ _ _=>rfl
 have k8:∀a b c d e f g i a' b' c' d' e' f':AV,xz 8 [a,b,c,d,e,f,g,i,a',b',c',d',e',f']=[a',b',c',d',e',f']:=fun _ _ _ _ _ _ _ _ _ _ _ _ _ _=>rfl
 have C1:∀a b c d e f g i a' b' c' d' e' f':AV,xz 11 [a,b,c,d,e,f,g,i,a',b',c',d',e',f']=[d',e',f']:=fun _ _ _ _ _ _ _ _ _ _ _ _ _ _=>rfl
 have C2:∀a b c d e f g i a' b' c' d' e' f':AV,xz 13 [a,b,c,d,e,f,g,i,a',b',c',d',e',f']=[f']:=fun _ _ _ _ _ _ _ _ _ _ _ _ _ _=>rfl
 have Fa:∀a b c d e f g i a' b' c' d' e' f':AV,eY 8 true [a,b,c,d,e,f,g,i,a',b',c',d',e',f']=some (.agg [a,b,c,d,e,f,g,i]):=fun _ _ _ _ _ _ _ _ _ _ _ _ _ _=>rfl
 have l6:∀a b c d e f:AV,eY 3 true [a,b,c,d,e,f]=some (.agg [a,b,c]):=fun _ _ _ _ _ _=>rfl
 have l3:∀a b c:AV,eY 2 true [a,b,c]=some (.agg [a,b]):=fun _ _ _=>rfl
 have sw:=UI hw;have s2:∀(hp:Hp) (ct id:Nat) (x y:List Nat) (u v:AV),fu hp ct id 0 2 [.str x,.str y] (some (.cells true true true 2 [u,v]))=some (.aw [],bf hp id (.cells true true true 2 [.str x,.str y]),ct):=fun hp ct id x y u v=>by
  rw [lj (by rfl) (by simp) (by rfl)];rfl
 unfold gF at Ds;unfold jm at BH;unfold af at ea BG BH Ds
 cases g1:Pc s hh sc st ox oy wx wy with
 | false=>
  rw [g1] at BG;unfold eF at*
  unfold af;rw [aq h.Hb];simp only [go_sem,ya,yb,Cx,aG,o1,p1,hw.ah,k8,C1,C2,Fa,l6,l3,kQ,AB,AD,Aj,AE,Ap,wi,sw,Gj,s2,aZ,yd,bl,yj,ea,BG,yI]
 | true=>
  rw [g1] at BG
  cases g2:(dh 5 dx&&dh 5 dy&&(dh 5 sh&&decide (rF dx dy sh=0))) with
  | false=>
   rw [g2] at BH;unfold eF at*
   unfold af;rw [aq h.Hb];simp only [go_sem,ya,yb,Cx,aG,o1,p1,hw.ah,k8,C1,C2,Fa,l6,l3,kQ,lh,AB,AD,Aj,AE,Ap,wi,sw,Gj,s2,aZ,yd,bl,yj,ea,BG,BH,yM,yI]
  | true=>
   rw [g2] at BH
   cases g3:(dh 5 x&&dh 5 y) with
   | false=>
    rw [g3] at Ds;unfold eF at*
    unfold af;rw [aq h.Hb];simp only [go_sem,ya,yb,Cx,aG,o1,p1,hw.ah,k8,C1,C2,Fa,l6,l3,kQ,lh,fy,AB,AD,Aj,AE,Ap,wi,sw,Gj,s2,aZ,yd,bl,yj,ea,BG,BH,Ds,yM,yI]
   | true=>
    rw [g3] at Ds;unfold Pc at g1;simp only [yg,wN] at g1 g2 g3;obtain ⟨j1,j2,⟨j3,j4,j5⟩,⟨j6,j7⟩,⟨j8,j9⟩,jl⟩:=g1;obtain ⟨⟨ja,jb⟩,jc,js⟩:=g2;obtain ⟨jd,je⟩:=g3;have K:=fun {t:List Nat} (c:dh 5 t=true)=>(oF c).2.2
    have C:=fun {t:List Nat} (c:dh 5 t=true)=>(oF c).2.1
    have Ln:=fun {t:List Nat} (c:dh 5 t=true)=>show t.length<=1000000000 from by have:=(oF c).1;omega
    have R:=fun {t:List Nat} (c:dh 5 t=true)=>(DD (C c)).1
    have Dt:=ayR h.rp h.Wv h.Lu (x:=dx) (y:=dy) (K jc) (K j3) (by decide);rw [<-R jc,<-R j3] at Dt;unfold jm at Dt;unfold af at Dt
    cases g4:pV (aB sh) (aB hh) with
    | false=>
     rw [g4] at Dt;unfold eF at*
     unfold af;rw [aq h.Hb];simp only [go_sem,ya,yb,Cx,aG,o1,p1,hw.ah,k8,C1,C2,Fa,l6,l3,kQ,lh,fy,AB,AD,Aj,AE,Ap,wi,sw,Gj,s2,aZ,yd,bl,yj,CO,ea,BG,BH,Ds,Dt,yM,yI]
    | true=>
     rw [g4] at Dt;have hS:=sY hw j2;have hl:s.length<=1000000:=by omega
     have hr:∀i (hi:i<s.length),s[i].length<=1000000:=fun i hi=>by rw [hS.row i hi];exact hl
     obtain ⟨n1,n2⟩:=asr (z:=f0);generalize hn:f0.tmod 100=n at*
     have kn:Hq 10 (n:Rat):=⟨by rw [vh];unfold Bd;omega,by rw [vR];decide⟩
     have km:Hq 10 ((-n:Int):Rat):=⟨by rw [vh];unfold Bd;omega,by rw [vR];decide⟩
     have kz:Hq 24 (aB [48]):=by rw [Ha.2];exact G4.mono (by decide)
     have IY:([48]:List Nat).length<=1000000000:=by decide
     have c48:aX [48]=0:=(Uh Ha.1).2.1;have F:∀z:Int,-999<=z->z<=999->dd z=0:=fun z h1 h2=>by unfold dd;rw [yr (by omega)]
     have Za:aB sc≠0:=avk (Oj jl).2.2.1.2;have kq:∀{g:List Nat},Hq 24 (aB g)->Hq 700 (nN s hh sc st ox oy wx wy dx dy g x y n):=fun kg=>by
      obtain ⟨u1,u2,u3⟩:=sF j2;exact ((K j5).mul (asn (fun c r=>Fj u3 (by decide) c r) (aef (K j4) ((K j6).mono (by omega)) (K j8) kg (K j3) (K jd) (K ja) (by omega)) (aef (K j4) ((K j7).mono (by omega)) (K j9) kg (K j3) (K je) (K jb) (by omega)))).mono (by omega)
     have x1:=Pb h.toLwFlowB hw hl hr (fr:=n) (Ln j3) (Ln j4) (Ln j5) (Ln j6) (Ln j7) (Ln j8) (Ln j9) (Ln ja) (Ln jb) IY (Ln jd) (Ln je) (NW jl (UM (C ja) (C jb)) (C jd) (C je) (by omega)) (Uj _) (Cr (kq kz) (by decide));have y1:=ahe h.s.toRm h.Lt (n:=n) (by omega);have y2:=ahi h.r h.Qb h.G2 kn (K j4) (by decide) Za;rw [<-R j4] at y2;have kt:=(kn.div (K j4)).mono (show 10+24<=100 by decide);have y3:=aiD h ((K jd).mono (show 24<=100 by decide)) ((K je).mono (show 24<=100 by decide)) ((K j8).mono (show 24<=100 by decide)) ((K j9).mono (show 24<=100 by decide)) kt (by decide);rw [<-R jd,<-R je,<-R j8,<-R j9] at y3;have kX:Hq 200 (aB x+(n:Rat)/aB sc*aB wx):=((K jd).add ((kn.div (K j4)).mul (K j8))).mono (by omega);have kY:Hq 200 (aB y+(n:Rat)/aB sc*aB wy):=((K je).add ((kn.div (K j4)).mul (K j9))).mono (by omega);have cX:=Ce kX (by decide)
     have cY:=Ce kY (by decide);have rX:=Ec kX (by decide);have rY:=Ec kY (by decide);have lX:=FD kX (by decide);have lY:=FD kY (by decide);generalize RT (aB x+(n:Rat)/aB sc*aB wx)=X at*
     generalize RT (aB y+(n:Rat)/aB sc*aB wy)=Y at*
     have jw:=acT jl j2 (C j6) (C j7) c48 c48;have x2:=Pb h.toLwFlowB hw hl hr (fr:=3) (Ln j3) (Ln j4) (Ln j5) (Ln j6) (Ln j7) IY IY (Ln ja) (Ln jb) IY (show X.length<=1000000000 by omega) (show Y.length<=1000000000 by omega) (NW jw (UM (C ja) (C jb)) cX cY (by omega)) (Uj _) (by rw [acR Za rX rY];exact Cr (kq kz) (by decide))
     rw [acR Za rX rY] at x2;have kO:∀{o v:List Nat},dh 5 o=true->dh 5 v=true->Hq 60 (aB o+(n:Rat)*aB v):=fun ho hv=>((K ho).add (kn.mul (K hv))).mono (by omega)
     have RI:=kO j6 j8;have RJ:=kO j7 j9;obtain ⟨wa,RL,x3⟩:=ahk h.toLwFlowB hw hl hr (fr:=n) (Ln j3) (Ln j4) (Ln j5) (Ln j6) (Ln j7) (Ln j8) (Ln j9) jl (F n (by omega) (by omega)) (Cr RI (by decide)) (Cr RJ (by decide));have cax:=Ce RI (by decide);have cay:=Ce RJ (by decide);have rax:=Ec RI (by decide);have ray:=Ec RJ (by decide);have lax:=FD RI (by decide);have lay:=FD RJ (by decide);have jl':=acT jl j2 cax cay (C j8) (C j9);have q3:aB (RT (aB ox+(n:Rat)*aB wx))+((-n:Int):Rat)*aB wx=aB ox:=by rw [rax,ybg];grind
     have q4:aB (RT (aB oy+(n:Rat)*aB wy))+((-n:Int):Rat)*aB wy=aB oy:=by rw [ray,ybg];grind
     obtain ⟨wd,RM,x4⟩:=ahk h.toLwFlowB RL hl hr (fr:= -n) (Ln j3) (Ln j4) (Ln j5) (by omega) (by omega) (Ln j8) (Ln j9) jl' (F (-n) (by omega) (by omega)) (by rw [q3];exact Cr (K j6) (by decide)) (by rw [q4];exact Cr (K j7) (by decide))
     rw [q3,q4,<-R j6,<-R j7] at x4;have x5:=azc h.E8 h.Bq h.WE RM hw hl hr hh sc st ox oy wx wy;have sa:=UI RL;have sd:=UI RM;have cv1:oP (.toInt .i64) (.int .i8 f0)=some (.int .i64 f0):=by
      show some (AV.int .i64 (IntKind.wrap .i64 f0))=_
      rw [wrap64 (by omega) (by omega)]
     have qP:∀(hp:Hp) (ct id:Nat) (u:List Nat) (x0 x1 x2:AV),fu hp ct id 2 1 [.str u] (some (.cells true true true 3 [x0,x1,x2]))=some (.aw [],bf hp id (.cells true true true 3 [x0,x1,.str u]),ct):=fun hp ct id u x0 x1 x2=>by
      rw [lj (by rfl) (by simp) (by rfl)];rfl
     have hs6:∀(hp:Hp) (ct id:Nat) (u v:List Nat) (x0 x1 x2 x3 x4 x5 x6 x7:AV),fu hp ct id 6 2 [.str u,.str v] (some (.cells true true true 8 [x0,x1,x2,x3,x4,x5,x6,x7]))=some (.aw [],bf hp id (.cells true true true 8 [x0,x1,x2,x3,x4,x5,.str u,.str v]),ct):=fun hp ct id u v x0 x1 x2 x3 x4 x5 x6 x7=>by
      rw [lj (by rfl) (by simp) (by rfl)];rfl
     have aiE:∀a b:AV,eY 2 true [a,b]=some (.agg [a,b]):=fun _ _=>rfl
     generalize nN s hh sc st ox oy wx wy dx dy [48] x y n=ph at*
     cases he:cN sh [48] with
     | true=>
      unfold eF jm gF at*
      unfold af at x1 x2 x3 x4 x5 y1 y2 y3 ⊢;rw [aq h.Hb]
      simp only [go_sem,ya,yb,ye,Cx,aG,o1,p1,hw.ah,k8,C1,C2,Fa,l6,l3,kQ,lh,AB,AD,Aj,AE,Ap,wi,sw,Gj,s2,aZ,yd,bl,yj,CO,G8,Qg,B1,aiE,ea,BG,BH,Ds,Dt,yM,cv1,dK _ _ _ (show (100:Int)≠0 by decide),hn,qP,hs6,RL.ah,RM.ah,DB,bB,sa,sd,x1,y1,y2,y3,x2,x3,ybS,wrap64 (n:= -n) (by omega) (by omega),x4,vz,show IntKind.wrap .i64 0=0 from rfl,yq,Aq,iQ,Fz,x5,he]
     | false=>
      have fQ:aB sh≠0:=fun h0=>by
       have e:=R jc;rw [h0,Qc] at e;rw [e,Fz] at he;cases he
      have z1:=ahi h.r h.Qb h.G2 (K j3) (K jc) (by decide) fQ;rw [<-R j3,<-R jc] at z1;have z2:=ahh h.r.toRp qC ((K j3).div (K jc)) (by decide);rw [awQ] at z2;have kp:Hq 100 (1-aB hh/aB sh):=(qC.sub ((K j3).div (K jc))).mono (by omega);have z3:=aiD h (a:=0) (b:=0) (G4.mono (show 2<=100 by decide)) (G4.mono (show 2<=100 by decide)) ((K jd).mono (show 24<=100 by decide)) ((K je).mono (show 24<=100 by decide)) kp (by decide);rw [Qc,<-R jd,<-R je,ybW,ybW] at z3;have kU:Hq 200 ((1-aB hh/aB sh)*aB x):=(kp.mul (K jd)).mono (by omega);have kV:Hq 200 ((1-aB hh/aB sh)*aB y):=(kp.mul (K je)).mono (by omega);have cU:=Ce kU (by decide);have cV:=Ce kV (by decide);have rU:=Ec kU (by decide);have rV:=Ec kV (by decide);have lU:=FD kU (by decide);have lV:=FD kV (by decide);generalize RT ((1-aB hh/aB sh)*aB x)=U at*
      generalize RT ((1-aB hh/aB sh)*aB y)=V at*
      have z4:=Pb h.toLwFlowB hw hl hr (fr:=n) (Ln j3) (Ln j4) (Ln j5) (Ln j6) (Ln j7) (Ln j8) (Ln j9) (Ln ja) (Ln jb) (Ln jc) (Ln jd) (Ln je) (NW jl js (C jd) (C je) (by omega)) g4 (Cr (kq (K jc)) (by decide));have z5:=Pb h.toLwFlowB hw hl hr (fr:=n) (Ln j3) (Ln j4) (Ln j5) (Ln j6) (Ln j7) (Ln j8) (Ln j9) (Ln ja) (Ln jb) IY (show U.length<=1000000000 by omega) (show V.length<=1000000000 by omega) (NW jl (UM (C ja) (C jb)) cU cV (by omega)) (Uj _) (by rw [acS fQ rU rV];exact Cr (kq (K jc)) (by decide))
      rw [acS fQ rU rV] at z5;generalize nN s hh sc st ox oy wx wy dx dy sh x y n=pl at*
      generalize RT (1-aB hh/aB sh)=pt at*
      generalize RT (aB hh/aB sh)=pq at*
      unfold eF jm gF at*
      unfold af at x1 x2 x3 x4 x5 y1 y2 y3 z1 z2 z3 z4 z5 ⊢;rw [aq h.Hb]
      simp only [go_sem,ya,yb,ye,Cx,aG,o1,p1,hw.ah,k8,C1,C2,Fa,l6,l3,kQ,lh,AB,AD,Aj,AE,Ap,wi,sw,Gj,s2,aZ,yd,bl,yj,CO,G8,Qg,B1,aiE,ea,BG,BH,Ds,Dt,yM,cv1,dK _ _ _ (show (100:Int)≠0 by decide),hn,qP,hs6,RL.ah,RM.ah,DB,bB,sa,sd,x1,y1,y2,y3,x2,x3,ybS,wrap64 (n:= -n) (by omega) (by omega),x4,vz,show IntKind.wrap .i64 0=0 from rfl,yq,Aq,iQ,Fz,x5,he,z1,z2,z3,z4,z5]
end
end
section
open Go (IntKind)
abbrev ahl:Ty:= .cat afT (.cat ag6 (.cat Ki (.cat (.int .i8) .nil)))
abbrev Jg:List Ty:=[ahl]
def ake {P:aI} {L:Lib} (h:M2 P L) {ls:List (List AV)} (hs:jy jH Jg ls):af P L 479 (D9 Jg ls) (.bool true):=by
 obtain ⟨l0,rfl,h0⟩:∃l,ls=[l]/\jH ahl l:=by
  match ls,hs with
  | [l],h=>exact ⟨l,rfl,h.1⟩
 obtain ⟨_,_,rfl,h1,_,_,rfl,h2,_,_,rfl,h3,_,_,rfl,⟨f,rfl,hf⟩,rfl⟩:=h0;obtain ⟨w,s,a,b,c,d,e,f',g,rfl,hw,ha,hb,hc,hd,he,nG,hg⟩:=ans h1;obtain ⟨dx,dy,sh,rfl,b1,b2,b3⟩:=apG h2;obtain ⟨x,y,rfl,b4,b5⟩:=Nv h3;have bd: -128<=f/\f<128:=by
  simp only [Go.Lit.wf,yg,wN] at hf;have h1:IntKind.i8.min= -128:=rfl;have h2:IntKind.i8.max=127:=rfl;rw [h1,h2] at hf;omega
 exact akm h hw ha hb hc hd he nG hg b1 b2 b3 b4 b5 bd
end
section
namespace J2
open Go Go.Proofs
def T:List (Tr aH):=[.n 481 [.o 7 [] (.bool true)] .l .l]
def L0:VE.Lib:=UL VE.aU 99 Of
def L1:VE.Lib:=K2 L0 T 1000
def nu:Nu VE.prog VE.aU:=by
 repeat' (first | rfl | constructor)
def lw:M2 VE.prog L1:=by
 repeat' (first | rfl | constructor)
section
variable {W:World} {m:Int} (hm:W.cell? ⟨2,0,none⟩=some (.int .i64 m)) (ht:Go.Lib.TabIs Tryz.prog W "internal/strconv.uint64pow10" .u64 Go.Lib.pow10Tab)
include hm ht
def linked:eP ((J1.O W).sQ L1):=by
 have hO:=J1.adU hm ht;have hs:=anM hO nu rfl rfl rfl ⟨rfl,rfl,rfl⟩ (fn:=Tryz.f185) (c:=CM) Tryz.func185 rfl rfl trivial aqc;have hT:er (J1.O W) T:=er.cons (Tr.li (lA.one (XC.holds hO rfl rfl)) Tr.jt Tr.jt) er.nil;exact TL (anN hO hs) hT 1000
def law {ls:List (List AV)} (hs:jy jH Jg ls):eX (J1.O W) 479 (D9 Jg ls) (.bool true):=by
 obtain ⟨k,hk⟩:=Uu (ake lw hs);exact sound (linked hm ht) hk
end
end J2
end
end VE
