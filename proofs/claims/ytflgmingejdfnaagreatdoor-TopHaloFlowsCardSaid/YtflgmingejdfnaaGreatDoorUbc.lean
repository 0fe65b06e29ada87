import Derived.TacticsIn
import Derived.LoopNIn
import Derived.OwnWalk
import Derived.WalkKit
import Derived.Test.YtflgmingejdfnaaGreatDoorUai
import Derived.Test.YtflgmingejdfnaaGreatDoorUbb
import Derived.Test.YtflgmingejdfnaaGreatDoorUah
set_option linter.all false
set_option maxRecDepth 100000
open Go renaming Code→wM,Deferred→ybP,World→yh
open List renaming drop_eq_getElem_cons→yT,drop_length→yaR,length_append→yO,sum_cons→ybr
open Nat renaming le_refl→yB
open Option renaming getD_some→vt
namespace Go.Proofs
open Go.Shelf
open Go.RowKit
def cp {α:Type} {l:List α} {n:Nat} (h:l.length=n+1):∃x r,l=x::r/\r.length=n:=by
 cases l with
 | nil=>simp at h
 | cons x r=>exact ⟨x,r,rfl,by simpa using h⟩
def UK {α:Type} {l:List α} (h0:l.length=69):∃x0 x1 x2 x3 x4 x5 x6 x7 x8 x9 Dr E9 HT HU HV HW HX HY HZ H0 H4 H5 H6 H7 H8 H9 Ia Ib Ic Ie Ig Ih Ii Ij Ik Il Im Io Ip Iq Ir Is It Iu Iv Iw Ix Iy Iz IA IB IC ID IE IF IG II IJ IK IL IM IN IP IQ IR IS IT IU IV,l=[x0,x1,x2,x3,x4,x5,x6,x7,x8,x9,Dr,E9,HT,HU,HV,HW,HX,HY,HZ,H0,H4,H5,H6,H7,H8,H9,Ia,Ib,Ic,Ie,Ig,Ih,Ii,Ij,Ik,Il,Im,Io,Ip,Iq,Ir,Is,It,Iu,Iv,Iw,Ix,Iy,Iz,IA,IB,IC,ID,IE,IF,IG,II,IJ,IK,IL,IM,IN,IP,IQ,IR,IS,IT,IU,IV]:=by
 obtain ⟨x0,l0,rfl,h1⟩:=cp h0;obtain ⟨x1,l1,rfl,h2⟩:=cp h1;obtain ⟨x2,l2,rfl,h3⟩:=cp h2;obtain ⟨x3,l3,rfl,h4⟩:=cp h3;obtain ⟨x4,l4,rfl,h5⟩:=cp h4;obtain ⟨x5,l5,rfl,h6⟩:=cp h5;obtain ⟨x6,l6,rfl,h7⟩:=cp h6;obtain ⟨x7,l7,rfl,h8⟩:=cp h7;obtain ⟨x8,l8,rfl,h9⟩:=cp h8;obtain ⟨x9,l9,rfl,iy⟩:=cp h9;obtain ⟨Dr,l10,rfl,IW⟩:=cp iy;obtain ⟨E9,l11,rfl,h12⟩:=cp IW;obtain ⟨HT,l12,rfl,h13⟩:=cp h12;obtain ⟨HU,l13,rfl,h14⟩:=cp h13;obtain ⟨HV,Fa,rfl,h15⟩:=cp h14;obtain ⟨HW,l15,rfl,RG⟩:=cp h15;obtain ⟨HX,l16,rfl,h17⟩:=cp RG;obtain ⟨HY,l17,rfl,RH⟩:=cp h17;obtain ⟨HZ,l18,rfl,h19⟩:=cp RH;obtain ⟨H0,l19,rfl,jZ⟩:=cp h19;obtain ⟨H4,l20,rfl,E8⟩:=cp jZ;obtain ⟨H5,l21,rfl,h22⟩:=cp E8;obtain ⟨H6,l22,rfl,h23⟩:=cp h22;obtain ⟨H7,l23,rfl,Y3⟩:=cp h23
 obtain ⟨H8,l24,rfl,h25⟩:=cp Y3;obtain ⟨H9,l25,rfl,h26⟩:=cp h25;obtain ⟨Ia,l26,rfl,h27⟩:=cp h26;obtain ⟨Ib,l27,rfl,h28⟩:=cp h27;obtain ⟨Ic,l28,rfl,h29⟩:=cp h28;obtain ⟨Ie,l29,rfl,gV⟩:=cp h29;obtain ⟨Ig,l30,rfl,fF⟩:=cp gV;obtain ⟨Ih,l31,rfl,XK⟩:=cp fF;obtain ⟨Ii,l32,rfl,nK⟩:=cp XK;obtain ⟨Ij,l33,rfl,lH⟩:=cp nK;obtain ⟨Ik,l34,rfl,YY⟩:=cp lH;obtain ⟨Il,l35,rfl,YZ⟩:=cp YY;obtain ⟨Im,l36,rfl,Y0⟩:=cp YZ;obtain ⟨Io,l37,rfl,Me⟩:=cp Y0;obtain ⟨Ip,l38,rfl,Y1⟩:=cp Me;obtain ⟨Iq,l39,rfl,Rz⟩:=cp Y1;obtain ⟨Ir,l40,rfl,YW⟩:=cp Rz;obtain ⟨Is,l41,rfl,Rv⟩:=cp YW;obtain ⟨It,l42,rfl,h43⟩:=cp Rv;obtain ⟨Iu,l43,rfl,Y8⟩:=cp h43;obtain ⟨Iv,l44,rfl,IX⟩:=cp Y8;obtain ⟨Iw,l45,rfl,Mx⟩:=cp IX;obtain ⟨Ix,l46,rfl,h47⟩:=cp Mx
 obtain ⟨Iy,l47,rfl,j0⟩:=cp h47;obtain ⟨Iz,IY,rfl,nM⟩:=cp j0;obtain ⟨IA,l49,rfl,Rh⟩:=cp nM;obtain ⟨IB,l50,rfl,Dn⟩:=cp Rh;obtain ⟨IC,l51,rfl,Y9⟩:=cp Dn;obtain ⟨ID,l52,rfl,Yr⟩:=cp Y9;obtain ⟨IE,l53,rfl,Ys⟩:=cp Yr;obtain ⟨IF,l54,rfl,MG⟩:=cp Ys;obtain ⟨IG,l55,rfl,YO⟩:=cp MG;obtain ⟨II,l56,rfl,Y4⟩:=cp YO;obtain ⟨IJ,l57,rfl,HR⟩:=cp Y4;obtain ⟨IK,l58,rfl,Bq⟩:=cp HR;obtain ⟨IL,l59,rfl,Yt⟩:=cp Bq;obtain ⟨IM,l60,rfl,Yu⟩:=cp Yt;obtain ⟨IN,l61,rfl,Rk⟩:=cp Yu;obtain ⟨IP,l62,rfl,Qq⟩:=cp Rk;obtain ⟨IQ,l63,rfl,Rw⟩:=cp Qq;obtain ⟨IR,l64,rfl,Yv⟩:=cp Rw;obtain ⟨IS,l65,rfl,Y5⟩:=cp Yv;obtain ⟨IT,l66,rfl,Y6⟩:=cp Y5;obtain ⟨IU,l67,rfl,Yw⟩:=cp Y6;obtain ⟨IV,l68,rfl,Mv⟩:=cp Yw;cases List.eq_nil_of_length_eq_zero Mv
 exact ⟨x0,x1,x2,x3,x4,x5,x6,x7,x8,x9,Dr,E9,HT,HU,HV,HW,HX,HY,HZ,H0,H4,H5,H6,H7,H8,H9,Ia,Ib,Ic,Ie,Ig,Ih,Ii,Ij,Ik,Il,Im,Io,Ip,Iq,Ir,Is,It,Iu,Iv,Iw,Ix,Iy,Iz,IA,IB,IC,ID,IE,IF,IG,II,IJ,IK,IL,IM,IN,IP,IQ,IR,IS,IT,IU,IV,rfl⟩
noncomputable def CM:wM:=Tryz.f185.body.getD .skip
open VE (oY)
def anL (a:List ByteArray) (t:ByteArray):oY (a++[t])=oY a++t.data.toList:=by simp [oY]
def aqa (a:List ByteArray):(oY a).length=(a.map (·.size)).sum:=by
 induction a with
 | nil=>rfl
 | cons t r ih=>
  show (t.data.toList++oY r).length=t.size+(r.map (·.size)).sum
  rw [yO,ih];rfl
def acP (l:List Nat) (k:Nat):(l.drop k).sum<=l.sum:=by
 induction l generalizing k with
 | nil=>simp
 | cons x l ih=>
  cases k with
  | zero=>simp
  | succ k=>have:=ih k;simp only [List.drop_succ_cons,ybr];omega
def Qi:wM->wM
 | .seq a _=>a
 | .block _ a=>a
 | .loop a=>a
 | c=>c
def CN:wM->wM
 | .seq _ b=>b
 | c=>c
noncomputable def aiC:wM:=Qi (Qi (CN (Qi (CN (CN (VE.AQ 5 CM))))))
def Qj (w0:yh) (ts:List ByteArray) (b o c:Nat) (ds:List ybP) (pre:List UInt8) (k:Nat) (a:Act) (w:yh):Prop:=
 k<=ts.length/\a.tmps.size=69/\a.defers=ds/\a.tmps.getD 6 undef= .slice (some ⟨b,o,none⟩) ts.length c/\a.tmps.getD 10 undef= .pointer (some ⟨w0.heap.size,0,none⟩)/\a.tmps.getD 11 undef= .int .i64 ((k:Int)-1)/\
  Lib.IsBuilder 276 5 w0.heap.size w0.heap.size (Lib.byteCells (pre++oY (ts.drop k).reverse)) w/\Below w0.heap.size w0 w
def WL (a:Act):Nat:=match a.tmps.getD 11 undef with
 | .int _ z=>(z+1).toNat
 | _=>0
set_option maxHeartbeats 4000000 in
def acQ {Q:Exit->Act->yh->Prop} {w0:yh} {ts:List ByteArray} {b o c:Nat} {ds:List ybP} {pre:List UInt8} (hc:∀i (h:i<ts.length),w0.cell? ⟨b,o+i,none⟩=some (.string ts[i])) (fC:pre.length<=1)
  (hl:(ts.map (·.size)).sum+1<=140737488355328) (hn:ts.length<=c) (eQ:ts.length<9223372036854775808) (hQ:∀a w,Qj w0 ts b o c ds pre 0 a w->Q (.exit 2) a w):∀a w,(∃k,Qj w0 ts b o c ds pre k a w)->(Code.loop aiC).wpIn Fence.wide 0 Tryz.prog Q a w:=by
 intro a w h0;refine wpIn_loop (fun a w=>∃k,Qj w0 ts b o c ds pre k a w) (fun a _=>WL a) h0 ?_;rintro a w ⟨k,hk,fk,rfl,h6,iy,IW,BC,Fb⟩;have hm:WL a=k:=by
  unfold WL;rw [IW];simp
 simp only [hm];simp only [aiC,CM,Tryz.f185,vt,VE.AQ,Qi,CN];obtain ⟨⟨l⟩,ds⟩:=a;obtain ⟨x0,x1,x2,x3,x4,x5,x6,x7,x8,x9,Dr,E9,HT,HU,HV,HW,HX,HY,HZ,H0,H4,H5,H6,H7,H8,H9,Ia,Ib,Ic,Ie,Ig,Ih,Ii,Ij,Ik,Il,Im,Io,Ip,Iq,Ir,Is,It,Iu,Iv,Iw,Ix,Iy,Iz,IA,IB,IC,ID,IE,IF,IG,II,IJ,IK,IL,IM,IN,IP,IQ,IR,IS,IT,IU,IV,rfl⟩:=UK (l:=l) fk;have e6:x6= .slice (some ⟨b,o,none⟩) ts.length c:=h6;have BD:Dr= .pointer (some ⟨w0.heap.size,0,none⟩):=iy;have e11:E9= .int .i64 ((k:Int)-1):=IW;clear h6 iy IW hm fk;subst e6;subst BD;subst e11
 cases k with
 | zero=>
  gi_wp2
  exact ⟨Nat.zero_le _,rfl,rfl,rfl,rfl,rfl,BC,Fb⟩
 | succ k=>
  have hi:k<ts.length:=hk;have nl:=hc k hi;have aCc:w.cell? ⟨b,o+k,none⟩=some (.string ts[k]):=(Fb.cell (World.block_lt_of_cell? _ _ nl)).trans nl;have e1:((k+1:Nat):Int)-1=(k:Int):=by omega
  rw [e1]
  gi_wp2
  refine ⟨trivial,rfl,callsIn_wide.2 ((Tryz.Builder_WriteString _ _ _ ts[k] w BC ?_ Fb.size).mono ?_)⟩
  ·have h1:=aqa (ts.drop (k+1)).reverse;have h2:=acP (ts.map (·.size)) (k+1);have h3:(ts.map (·.size)).drop k=ts[k].size::(ts.map (·.size)).drop (k+1):=by
    rw [yT (by simpa using hi)];simp
   have h4:=acP (ts.map (·.size)) k;rw [h3,ybr] at h4;rw [Lib.byteCells_length,yO,h1,List.map_reverse,List.sum_reverse,List.map_drop];omega
  ·rintro e w' ⟨rfl,dl,Ly⟩;have hd:pre++oY (ts.drop k).reverse=pre++oY (ts.drop (k+1)).reverse++ts[k].data.toList:=by
    rw [yT hi,List.reverse_cons,anL,List.append_assoc]
   rw [Lib.strCells_eq,<-Lib.byteCells_append,<-hd] at dl;have hw:wrap64 ((k:Int)-1)=(k:Int)-1:=by unfold wrap64;omega
   simp only
   gi_wp2
   refine ⟨⟨k,by omega,rfl,rfl,rfl,rfl,rfl,.inr dl,Fb.trans Ly⟩,?_⟩;show ((k:Int)-1+1).toNat<k+1
   omega
set_option maxHeartbeats 4000000 in
def aqb {Q:Exit->Act->yh->Prop} (a:Act) (w:yh) (neg:Bool) (ts:List ByteArray) (b o c:Nat) (fk:a.tmps.size=69) (h3:a.tmps.getD 3 undef= .bool neg) (h6:a.tmps.getD 6 undef= .slice (some ⟨b,o,none⟩) ts.length c)
  (hc:∀i (h:i<ts.length),w.cell? ⟨b,o+i,none⟩=some (.string ts[i])) (hl:(ts.map (·.size)).sum+1<=140737488355328) (hn:ts.length<=c) (eQ:ts.length<9223372036854775808)
  (hQ:∀a' w',VE.Calm w w'->a'.tmps.size=69->a'.defers=a.defers->a'.tmps.getD 2 undef= .string ⟨((if neg then [45] else [])++oY ts.reverse).toArray⟩->Q .ret a' w'):
  (VE.AQ 5 CM).wpIn Fence.wide 0 Tryz.prog Q a w:=by
 simp only [CM,Tryz.f185,vt,VE.AQ];obtain ⟨⟨l⟩,ds⟩:=a;obtain ⟨x0,x1,x2,x3,x4,x5,x6,x7,x8,x9,Dr,E9,HT,HU,HV,HW,HX,HY,HZ,H0,H4,H5,H6,H7,H8,H9,Ia,Ib,Ic,Ie,Ig,Ih,Ii,Ij,Ik,Il,Im,Io,Ip,Iq,Ir,Is,It,Iu,Iv,Iw,Ix,Iy,Iz,IA,IB,IC,ID,IE,IF,IG,II,IJ,IK,IL,IM,IN,IP,IQ,IR,IS,IT,IU,IV,rfl⟩:=UK (l:=l) fk;have e3:x3= .bool neg:=h3;have e6:x6= .slice (some ⟨b,o,none⟩) ts.length c:=h6;clear h3 h6 fk;subst e3;subst e6;have hw:wrap64 ((ts.length:Int)-1)=(ts.length:Int)-1:=by unfold wrap64;omega
 obtain ⟨pre,hp⟩:∃pre:List UInt8,(if neg then [45] else [])=pre:=⟨_,rfl⟩;rw [hp] at hQ;have fin:∀(a:Act) (w':yh) (K:Act->yh->Prop),Qj w ts b o c ds pre 0 a w'->
   (∀(a:Act) (w:yh),Code.wpIn Fence.wide 0 Tryz.prog (CN (CN (CN (VE.AQ 5 CM)))) Q a w->K a w)->K a w':=by
  rintro a w' K ⟨_,fk,rfl,h6,iy,IW,BC,Fb⟩ hK;clear hp;refine hK _ _ ?_;simp only [CM,Tryz.f185,vt,VE.AQ,CN];obtain ⟨⟨l⟩,ds⟩:=a;obtain ⟨x0,x1,x2,x3,x4,x5,x6,x7,x8,x9,Dr,E9,HT,HU,HV,HW,HX,HY,HZ,H0,H4,H5,H6,H7,H8,H9,Ia,Ib,Ic,Ie,Ig,Ih,Ii,Ij,Ik,Il,Im,Io,Ip,Iq,Ir,Is,It,Iu,Iv,Iw,Ix,Iy,Iz,IA,IB,IC,ID,IE,IF,IG,II,IJ,IK,IL,IM,IN,IP,IQ,IR,IS,IT,IU,IV,rfl⟩:=UK (l:=l) fk;have BD:Dr= .pointer (some ⟨w.heap.size,0,none⟩):=iy;subst BD
  gi_wp2
  refine ⟨trivial,rfl,callsIn_wide.2 ((Tryz.Builder_String_any _ _ _ _ BC Fb.size).mono ?_)⟩;rintro e w2 ⟨rfl,Ly⟩;simp only
  gi_wp2
  exact hQ _ _ (VE.Jb (Fb.trans Ly)) rfl rfl rfl
 cases neg with
 | false=>
  cases hp
  gi_wp2
  refine acQ (pre:=[]) hc (by simp) hl hn eQ (fun a w' hI=>?_) _ _ ⟨ts.length,yB _,rfl,rfl,rfl,rfl,?_,?_,?_⟩
  ·simp only [Exit.inBlock,Exit.then];exact fin a w' _ hI (by assumption)
  ·rfl
  ·rw [yaR];exact Lib.fresh_isBuilder _ _ w
  ·exact (Below.refl _ w).alloc (yB _) _
 | true=>
  cases hp
  gi_wp2
  refine ⟨trivial,rfl,callsIn_wide.2 ((Tryz.Builder_WriteString _ _ [] _ _ (Lib.fresh_isBuilder _ _ w) (by decide) (by simp)).mono ?_)⟩;rintro e w' ⟨rfl,dl,Ly⟩;simp only
  gi_wp2
  refine acQ (pre:=[45]) hc (by simp) hl hn eQ (fun a w' hI=>?_) _ _ ⟨ts.length,yB _,rfl,rfl,rfl,rfl,?_,?_,?_⟩
  ·simp only [Exit.inBlock,Exit.then];exact fin a w' _ hI (by assumption)
  ·rfl
  ·rw [yaR];exact .inr dl
  ·exact ((Below.refl _ w).alloc (yB _) _).trans Ly
def aqc:VE.Ui Tryz.prog CM:=fun _ a w neg ts b o c h1 h2 h3 h4 h5 h6 h7 h8=>aqb a w neg ts b o c h1 h2 h3 h4 h5 h6 h7 h8
end Go.Proofs
