import Derived.TacticsIn
import Derived.LoopNIn
import Derived.OwnWalk
import Derived.WalkKit
import Derived.Test.YtflgmingejdfnaaGreatDoorVai
import Derived.Test.YtflgmingejdfnaaGreatDoorVau
import Derived.Test.YtflgmingejdfnaaGreatDoorVah
set_option linter.all false
set_option maxRecDepth 100000
open Go renaming Code→wI,Deferred→ybz,World→yh
open List renaming drop_eq_getElem_cons→yO,drop_length→yaA,length_append→yQ,sum_cons→ybb
open Nat renaming le_refl→yD
open Option renaming getD_some→vK
namespace Go.Proofs
open Go.Shelf
open Go.RowKit
def bU {α:Type} {l:List α} {n:Nat} (h:l.length=n+1):∃x r,l=x::r/\r.length=n:=by
 cases l with
 | nil=>simp at h
 | cons x r=>exact ⟨x,r,rfl,by simpa using h⟩
def RQ {α:Type} {l:List α} (h0:l.length=69):∃x0 x1 x2 x3 x4 x5 x6 x7 x8 x9 BY Du FM FN FO FP FQ FR FT FU FV FW FX FY FZ F0 F1 F2 F3 F5 F6 F7 F9 Ga Gb Gc Gd Ge Gf Gg Gh Gi Gj Gk Gl Gm Gn Gp Gq Gr Gs Gt Gu Gv Gw Gx Gy Gz GA GB GC GD GF GG GH GI GJ GK GL,l=[x0,x1,x2,x3,x4,x5,x6,x7,x8,x9,BY,Du,FM,FN,FO,FP,FQ,FR,FT,FU,FV,FW,FX,FY,FZ,F0,F1,F2,F3,F5,F6,F7,F9,Ga,Gb,Gc,Gd,Ge,Gf,Gg,Gh,Gi,Gj,Gk,Gl,Gm,Gn,Gp,Gq,Gr,Gs,Gt,Gu,Gv,Gw,Gx,Gy,Gz,GA,GB,GC,GD,GF,GG,GH,GI,GJ,GK,GL]:=by
 obtain ⟨x0,l0,rfl,h1⟩:=bU h0;obtain ⟨x1,l1,rfl,h2⟩:=bU h1;obtain ⟨x2,l2,rfl,h3⟩:=bU h2;obtain ⟨x3,l3,rfl,h4⟩:=bU h3;obtain ⟨x4,l4,rfl,h5⟩:=bU h4;obtain ⟨x5,l5,rfl,h6⟩:=bU h5;obtain ⟨x6,l6,rfl,h7⟩:=bU h6;obtain ⟨x7,l7,rfl,h8⟩:=bU h7;obtain ⟨x8,l8,rfl,h9⟩:=bU h8;obtain ⟨x9,l9,rfl,iA⟩:=bU h9;obtain ⟨BY,l10,rfl,GM⟩:=bU iA;obtain ⟨Du,l11,rfl,h12⟩:=bU GM;obtain ⟨FM,l12,rfl,h13⟩:=bU h12;obtain ⟨FN,l13,rfl,Kp⟩:=bU h13;obtain ⟨FO,l14,rfl,h15⟩:=bU Kp;obtain ⟨FP,l15,rfl,h16⟩:=bU h15;obtain ⟨FQ,l16,rfl,h17⟩:=bU h16;obtain ⟨FR,l17,rfl,h18⟩:=bU h17;obtain ⟨FT,l18,rfl,h19⟩:=bU h18;obtain ⟨FU,l19,rfl,lh⟩:=bU h19;obtain ⟨FV,l20,rfl,GN⟩:=bU lh;obtain ⟨FW,l21,rfl,h22⟩:=bU GN;obtain ⟨FX,l22,rfl,h23⟩:=bU h22;obtain ⟨FY,l23,rfl,VP⟩:=bU h23
 obtain ⟨FZ,l24,rfl,h25⟩:=bU VP;obtain ⟨F0,l25,rfl,h26⟩:=bU h25;obtain ⟨F1,l26,rfl,h27⟩:=bU h26;obtain ⟨F2,l27,rfl,h28⟩:=bU h27;obtain ⟨F3,l28,rfl,h29⟩:=bU h28;obtain ⟨F5,l29,rfl,Af⟩:=bU h29;obtain ⟨F6,l30,rfl,fm⟩:=bU Af;obtain ⟨F7,l31,rfl,Vi⟩:=bU fm;obtain ⟨F9,l32,rfl,nj⟩:=bU Vi;obtain ⟨Ga,l33,rfl,mH⟩:=bU nj;obtain ⟨Gb,l34,rfl,VQ⟩:=bU mH;obtain ⟨Gc,l35,rfl,VR⟩:=bU VQ;obtain ⟨Gd,l36,rfl,VS⟩:=bU VR;obtain ⟨Ge,l37,rfl,J7⟩:=bU VS;obtain ⟨Gf,l38,rfl,VT⟩:=bU J7;obtain ⟨Gg,l39,rfl,Pe⟩:=bU VT;obtain ⟨Gh,l40,rfl,VU⟩:=bU Pe;obtain ⟨Gi,l41,rfl,Pf⟩:=bU VU;obtain ⟨Gj,l42,rfl,h43⟩:=bU Pf;obtain ⟨Gk,l43,rfl,h44⟩:=bU h43;obtain ⟨Gl,l44,rfl,h45⟩:=bU h44;obtain ⟨Gm,l45,rfl,VL⟩:=bU h45;obtain ⟨Gn,l46,rfl,h47⟩:=bU VL
 obtain ⟨Gp,l47,rfl,jm⟩:=bU h47;obtain ⟨Gq,l48,rfl,od⟩:=bU jm;obtain ⟨Gr,l49,rfl,VI⟩:=bU od;obtain ⟨Gs,l50,rfl,Kq⟩:=bU VI;obtain ⟨Gt,l51,rfl,h52⟩:=bU Kq;obtain ⟨Gu,l52,rfl,VV⟩:=bU h52;obtain ⟨Gv,l53,rfl,VW⟩:=bU VV;obtain ⟨Gw,l54,rfl,Kr⟩:=bU VW;obtain ⟨Gx,l55,rfl,VX⟩:=bU Kr;obtain ⟨Gy,l56,rfl,VY⟩:=bU VX;obtain ⟨Gz,l57,rfl,VZ⟩:=bU VY;obtain ⟨GA,l58,rfl,BN⟩:=bU VZ;obtain ⟨GB,l59,rfl,V1⟩:=bU BN;obtain ⟨GC,l60,rfl,V2⟩:=bU V1;obtain ⟨GD,l61,rfl,Pa⟩:=bU V2;obtain ⟨GF,l62,rfl,Oc⟩:=bU Pa;obtain ⟨GG,l63,rfl,Pg⟩:=bU Oc;obtain ⟨GH,l64,rfl,V3⟩:=bU Pg;obtain ⟨GI,l65,rfl,V4⟩:=bU V3;obtain ⟨GJ,l66,rfl,V5⟩:=bU V4;obtain ⟨GK,l67,rfl,V6⟩:=bU V5;obtain ⟨GL,l68,rfl,VH⟩:=bU V6;cases List.eq_nil_of_length_eq_zero VH
 exact ⟨x0,x1,x2,x3,x4,x5,x6,x7,x8,x9,BY,Du,FM,FN,FO,FP,FQ,FR,FT,FU,FV,FW,FX,FY,FZ,F0,F1,F2,F3,F5,F6,F7,F9,Ga,Gb,Gc,Gd,Ge,Gf,Gg,Gh,Gi,Gj,Gk,Gl,Gm,Gn,Gp,Gq,Gr,Gs,Gt,Gu,Gv,Gw,Gx,Gy,Gz,GA,GB,GC,GD,GF,GG,GH,GI,GJ,GK,GL,rfl⟩
noncomputable def Br:wI:=Tryz.f185.body.getD .skip
open VE (nN)
def akO (a:List ByteArray) (t:ByteArray):nN (a++[t])=nN a++t.data.toList:=by simp [nN]
def am4 (a:List ByteArray):(nN a).length=(a.map (·.size)).sum:=by
 induction a with
 | nil=>rfl
 | cons t r ih=>
  show (t.data.toList++nN r).length=t.size+(r.map (·.size)).sum
  rw [yQ,ih];rfl
def Z7 (l:List Nat) (k:Nat):(l.drop k).sum<=l.sum:=by
 induction l generalizing k with
 | nil=>simp
 | cons x l ih=>
  cases k with
  | zero=>simp
  | succ k=>have:=ih k;simp only [List.drop_succ_cons,ybb];omega
def NS:wI->wI
 | .seq a _=>a
 | .block _ a=>a
 | .loop a=>a
 | c=>c
def Bs:wI->wI
 | .seq _ b=>b
 | c=>c
noncomputable def afE:wI:=NS (NS (Bs (NS (Bs (Bs (VE.zm 5 Br))))))
def NT (w0:yh) (ts:List ByteArray) (b o c:Nat) (ds:List ybz) (pre:List UInt8) (k:Nat) (a:Act) (w:yh):Prop:=
 k<=ts.length/\a.tmps.size=69/\a.defers=ds/\a.tmps.getD 6 undef= .slice (some ⟨b,o,none⟩) ts.length c/\a.tmps.getD 10 undef= .pointer (some ⟨w0.heap.size,0,none⟩)/\a.tmps.getD 11 undef= .int .i64 ((k:Int)-1)/\
  Lib.IsBuilder 276 5 w0.heap.size w0.heap.size (Lib.byteCells (pre++nN (ts.drop k).reverse)) w/\Below w0.heap.size w0 w
def TB (a:Act):Nat:=match a.tmps.getD 11 undef with
 | .int _ z=>(z+1).toNat
 | _=>0
set_option maxHeartbeats 4000000 in
def Z8 {Q:Exit->Act->yh->Prop} {w0:yh} {ts:List ByteArray} {b o c:Nat} {ds:List ybz} {pre:List UInt8} (hc:∀i (h:i<ts.length),w0.cell? ⟨b,o+i,none⟩=some (.string ts[i])) (eV:pre.length<=1)
  (hl:(ts.map (·.size)).sum+1<=140737488355328) (hn:ts.length<=c) (ew:ts.length<9223372036854775808) (hQ:∀a w,NT w0 ts b o c ds pre 0 a w->Q (.exit 2) a w):∀a w,(∃k,NT w0 ts b o c ds pre k a w)->(Code.loop afE).wpIn Fence.wide 0 Tryz.prog Q a w:=by
 intro a w h0;refine wpIn_loop (fun a w=>∃k,NT w0 ts b o c ds pre k a w) (fun a _=>TB a) h0 ?_;rintro a w ⟨k,hk,eQ,rfl,h6,iA,GM,Dv,Dw⟩;have hm:TB a=k:=by
  unfold TB;rw [GM];simp
 simp only [hm];simp only [afE,Br,Tryz.f185,vK,VE.zm,NS,Bs];obtain ⟨⟨l⟩,ds⟩:=a;obtain ⟨x0,x1,x2,x3,x4,x5,x6,x7,x8,x9,BY,Du,FM,FN,FO,FP,FQ,FR,FT,FU,FV,FW,FX,FY,FZ,F0,F1,F2,F3,F5,F6,F7,F9,Ga,Gb,Gc,Gd,Ge,Gf,Gg,Gh,Gi,Gj,Gk,Gl,Gm,Gn,Gp,Gq,Gr,Gs,Gt,Gu,Gv,Gw,Gx,Gy,Gz,GA,GB,GC,GD,GF,GG,GH,GI,GJ,GK,GL,rfl⟩:=RQ (l:=l) eQ;have e6:x6= .slice (some ⟨b,o,none⟩) ts.length c:=h6;have Ap:BY= .pointer (some ⟨w0.heap.size,0,none⟩):=iA;have e11:Du= .int .i64 ((k:Int)-1):=GM;clear h6 iA GM hm eQ;subst e6;subst Ap;subst e11
 cases k with
 | zero=>
  gi_wp2
  exact ⟨Nat.zero_le _,rfl,rfl,rfl,rfl,rfl,Dv,Dw⟩
 | succ k=>
  have hi:k<ts.length:=hk;have ri:=hc k hi;have azs:w.cell? ⟨b,o+k,none⟩=some (.string ts[k]):=(Dw.cell (World.block_lt_of_cell? _ _ ri)).trans ri;have e1:((k+1:Nat):Int)-1=(k:Int):=by omega
  rw [e1]
  gi_wp2
  refine ⟨trivial,rfl,callsIn_wide.2 ((Tryz.Builder_WriteString _ _ _ ts[k] w Dv ?_ Dw.size).mono ?_)⟩
  ·have h1:=am4 (ts.drop (k+1)).reverse;have h2:=Z7 (ts.map (·.size)) (k+1);have h3:(ts.map (·.size)).drop k=ts[k].size::(ts.map (·.size)).drop (k+1):=by
    rw [yO (by simpa using hi)];simp
   have h4:=Z7 (ts.map (·.size)) k;rw [h3,ybb] at h4;rw [Lib.byteCells_length,yQ,h1,List.map_reverse,List.sum_reverse,List.map_drop];omega
  ·rintro e w' ⟨rfl,cS,Jn⟩;have hd:pre++nN (ts.drop k).reverse=pre++nN (ts.drop (k+1)).reverse++ts[k].data.toList:=by
    rw [yO hi,List.reverse_cons,akO,List.append_assoc]
   rw [Lib.strCells_eq,<-Lib.byteCells_append,<-hd] at cS;have hw:wrap64 ((k:Int)-1)=(k:Int)-1:=by unfold wrap64;omega
   simp only
   gi_wp2
   refine ⟨⟨k,by omega,rfl,rfl,rfl,rfl,rfl,.inr cS,Dw.trans Jn⟩,?_⟩;show ((k:Int)-1+1).toNat<k+1
   omega
set_option maxHeartbeats 4000000 in
def am5 {Q:Exit->Act->yh->Prop} (a:Act) (w:yh) (neg:Bool) (ts:List ByteArray) (b o c:Nat) (eQ:a.tmps.size=69) (h3:a.tmps.getD 3 undef= .bool neg) (h6:a.tmps.getD 6 undef= .slice (some ⟨b,o,none⟩) ts.length c)
  (hc:∀i (h:i<ts.length),w.cell? ⟨b,o+i,none⟩=some (.string ts[i])) (hl:(ts.map (·.size)).sum+1<=140737488355328) (hn:ts.length<=c) (ew:ts.length<9223372036854775808)
  (hQ:∀a' w',VE.Calm w w'->a'.tmps.size=69->a'.defers=a.defers->a'.tmps.getD 2 undef= .string ⟨((if neg then [45] else [])++nN ts.reverse).toArray⟩->Q .ret a' w'):
  (VE.zm 5 Br).wpIn Fence.wide 0 Tryz.prog Q a w:=by
 simp only [Br,Tryz.f185,vK,VE.zm];obtain ⟨⟨l⟩,ds⟩:=a;obtain ⟨x0,x1,x2,x3,x4,x5,x6,x7,x8,x9,BY,Du,FM,FN,FO,FP,FQ,FR,FT,FU,FV,FW,FX,FY,FZ,F0,F1,F2,F3,F5,F6,F7,F9,Ga,Gb,Gc,Gd,Ge,Gf,Gg,Gh,Gi,Gj,Gk,Gl,Gm,Gn,Gp,Gq,Gr,Gs,Gt,Gu,Gv,Gw,Gx,Gy,Gz,GA,GB,GC,GD,GF,GG,GH,GI,GJ,GK,GL,rfl⟩:=RQ (l:=l) eQ;have e3:x3= .bool neg:=h3;have e6:x6= .slice (some ⟨b,o,none⟩) ts.length c:=h6;clear h3 h6 eQ;subst e3;subst e6;have hw:wrap64 ((ts.length:Int)-1)=(ts.length:Int)-1:=by unfold wrap64;omega
 obtain ⟨pre,hp⟩:∃pre:List UInt8,(if neg then [45] else [])=pre:=⟨_,rfl⟩;rw [hp] at hQ;have fin:∀(a:Act) (w':yh) (K:Act->yh->Prop),NT w ts b o c ds pre 0 a w'->
   (∀(a:Act) (w:yh),Code.wpIn Fence.wide 0 Tryz.prog (Bs (Bs (Bs (VE.zm 5 Br)))) Q a w->K a w)->K a w':=by
  rintro a w' K ⟨_,eQ,rfl,h6,iA,GM,Dv,Dw⟩ hK;clear hp;refine hK _ _ ?_;simp only [Br,Tryz.f185,vK,VE.zm,Bs];obtain ⟨⟨l⟩,ds⟩:=a;obtain ⟨x0,x1,x2,x3,x4,x5,x6,x7,x8,x9,BY,Du,FM,FN,FO,FP,FQ,FR,FT,FU,FV,FW,FX,FY,FZ,F0,F1,F2,F3,F5,F6,F7,F9,Ga,Gb,Gc,Gd,Ge,Gf,Gg,Gh,Gi,Gj,Gk,Gl,Gm,Gn,Gp,Gq,Gr,Gs,Gt,Gu,Gv,Gw,Gx,Gy,Gz,GA,GB,GC,GD,GF,GG,GH,GI,GJ,GK,GL,rfl⟩:=RQ (l:=l) eQ;have Ap:BY= .pointer (some ⟨w.heap.size,0,none⟩):=iA;subst Ap
  gi_wp2
  refine ⟨trivial,rfl,callsIn_wide.2 ((Tryz.Builder_String_any _ _ _ _ Dv Dw.size).mono ?_)⟩;rintro e w2 ⟨rfl,Jn⟩;simp only
  gi_wp2
  exact hQ _ _ (VE.G9 (Dw.trans Jn)) rfl rfl rfl
 cases neg with
 | false=>
  cases hp
  gi_wp2
  refine Z8 (pre:=[]) hc (by simp) hl hn ew (fun a w' hI=>?_) _ _ ⟨ts.length,yD _,rfl,rfl,rfl,rfl,?_,?_,?_⟩
  ·simp only [Exit.inBlock,Exit.then];exact fin a w' _ hI (by assumption)
  ·rfl
  ·rw [yaA];exact Lib.fresh_isBuilder _ _ w
  ·exact (Below.refl _ w).alloc (yD _) _
 | true=>
  cases hp
  gi_wp2
  refine ⟨trivial,rfl,callsIn_wide.2 ((Tryz.Builder_WriteString _ _ [] _ _ (Lib.fresh_isBuilder _ _ w) (by decide) (by simp)).mono ?_)⟩;rintro e w' ⟨rfl,cS,Jn⟩;simp only
  gi_wp2
  refine Z8 (pre:=[45]) hc (by simp) hl hn ew (fun a w' hI=>?_) _ _ ⟨ts.length,yD _,rfl,rfl,rfl,rfl,?_,?_,?_⟩
  ·simp only [Exit.inBlock,Exit.then];exact fin a w' _ hI (by assumption)
  ·rfl
  ·rw [yaA];exact .inr cS
  ·exact ((Below.refl _ w).alloc (yD _) _).trans Jn
def am6:VE.Re Tryz.prog Br:=fun _ a w neg ts b o c h1 h2 h3 h4 h5 h6 h7 h8=>am5 a w neg ts b o c h1 h2 h3 h4 h5 h6 h7 h8
end Go.Proofs
