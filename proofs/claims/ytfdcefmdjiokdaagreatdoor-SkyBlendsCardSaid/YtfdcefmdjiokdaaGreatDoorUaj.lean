import Derived.TacticsIn
import Derived.LoopNIn
import Derived.OwnWalk
import Derived.WalkKit
import Derived.Test.YtfdcefmdjiokdaaGreatDoorUac
import Derived.Test.YtfdcefmdjiokdaaGreatDoorUai
import Derived.Test.YtfdcefmdjiokdaaGreatDoorUab
set_option linter.all false
set_option maxRecDepth 100000
open Go renaming Code→wU,Deferred→yab,World→yi
open List renaming drop_eq_getElem_cons→yP,drop_length→ybF,length_append→yR,sum_cons→ycn
open Nat renaming le_refl→yA
open Option renaming getD_some→uz
namespace Go.Proofs
open Go.Shelf
open Go.RowKit
def bK {α:Type} {l:List α} {n:Nat} (h:l.length=n+1):∃x r,l=x::r/\r.length=n:=by
 cases l with
 | nil=>simp at h
 | cons x r=>exact ⟨x,r,rfl,by simpa using h⟩
def QT {α:Type} {l:List α} (h0:l.length=69):∃x0 x1 x2 x3 x4 x5 x6 x7 x8 x9 Bs C4 Fc Fe Ff Fg Fh Fi Fj Fk Fm Fo Fp Fq Fs Ft Fu Fv Fw Fx Fy Fz FA FB FC FD FE FF FG FH FI FJ FK FL FM FN FO FP FQ FR FT FU FV FW FX FY FZ F0 F1 F2 F3 F5 F6 F7 F9 Ga Gb Gc Gd,l=[x0,x1,x2,x3,x4,x5,x6,x7,x8,x9,Bs,C4,Fc,Fe,Ff,Fg,Fh,Fi,Fj,Fk,Fm,Fo,Fp,Fq,Fs,Ft,Fu,Fv,Fw,Fx,Fy,Fz,FA,FB,FC,FD,FE,FF,FG,FH,FI,FJ,FK,FL,FM,FN,FO,FP,FQ,FR,FT,FU,FV,FW,FX,FY,FZ,F0,F1,F2,F3,F5,F6,F7,F9,Ga,Gb,Gc,Gd]:=by
 obtain ⟨x0,l0,rfl,h1⟩:=bK h0;obtain ⟨x1,l1,rfl,h2⟩:=bK h1;obtain ⟨x2,l2,rfl,h3⟩:=bK h2;obtain ⟨x3,l3,rfl,h4⟩:=bK h3;obtain ⟨x4,l4,rfl,h5⟩:=bK h4;obtain ⟨x5,l5,rfl,h6⟩:=bK h5;obtain ⟨x6,l6,rfl,h7⟩:=bK h6;obtain ⟨x7,l7,rfl,h8⟩:=bK h7;obtain ⟨x8,l8,rfl,h9⟩:=bK h8;obtain ⟨x9,l9,rfl,iJ⟩:=bK h9;obtain ⟨Bs,l10,rfl,Ge⟩:=bK iJ;obtain ⟨C4,l11,rfl,h12⟩:=bK Ge;obtain ⟨Fc,l12,rfl,h13⟩:=bK h12;obtain ⟨Fe,l13,rfl,JL⟩:=bK h13;obtain ⟨Ff,l14,rfl,h15⟩:=bK JL;obtain ⟨Fg,l15,rfl,h16⟩:=bK h15;obtain ⟨Fh,l16,rfl,h17⟩:=bK h16;obtain ⟨Fi,l17,rfl,h18⟩:=bK h17;obtain ⟨Fj,l18,rfl,Oz⟩:=bK h18;obtain ⟨Fk,l19,rfl,mv⟩:=bK Oz;obtain ⟨Fm,l20,rfl,h21⟩:=bK mv;obtain ⟨Fo,l21,rfl,h22⟩:=bK h21;obtain ⟨Fp,l22,rfl,h23⟩:=bK h22;obtain ⟨Fq,l23,rfl,h24⟩:=bK h23
 obtain ⟨Fs,l24,rfl,h25⟩:=bK h24;obtain ⟨Ft,l25,rfl,h26⟩:=bK h25;obtain ⟨Fu,l26,rfl,h27⟩:=bK h26;obtain ⟨Fv,l27,rfl,h28⟩:=bK h27;obtain ⟨Fw,l28,rfl,h29⟩:=bK h28;obtain ⟨Fx,l29,rfl,CX⟩:=bK h29;obtain ⟨Fy,l30,rfl,CW⟩:=bK CX;obtain ⟨Fz,l31,rfl,Ug⟩:=bK CW;obtain ⟨FA,l32,rfl,qd⟩:=bK Ug;obtain ⟨FB,l33,rfl,h34⟩:=bK qd;obtain ⟨FC,l34,rfl,h35⟩:=bK h34;obtain ⟨FD,l35,rfl,h36⟩:=bK h35;obtain ⟨FE,l36,rfl,h37⟩:=bK h36;obtain ⟨FF,l37,rfl,h38⟩:=bK h37;obtain ⟨FG,l38,rfl,h39⟩:=bK h38;obtain ⟨FH,l39,rfl,OA⟩:=bK h39;obtain ⟨FI,l40,rfl,h41⟩:=bK OA;obtain ⟨FJ,l41,rfl,h42⟩:=bK h41;obtain ⟨FK,l42,rfl,h43⟩:=bK h42;obtain ⟨FL,l43,rfl,h44⟩:=bK h43;obtain ⟨FM,l44,rfl,h45⟩:=bK h44;obtain ⟨FN,l45,rfl,UD⟩:=bK h45;obtain ⟨FO,l46,rfl,h47⟩:=bK UD
 obtain ⟨FP,l47,rfl,jv⟩:=bK h47;obtain ⟨FQ,l48,rfl,n5⟩:=bK jv;obtain ⟨FR,l49,rfl,UA⟩:=bK n5;obtain ⟨FT,l50,rfl,h51⟩:=bK UA;obtain ⟨FU,l51,rfl,h52⟩:=bK h51;obtain ⟨FV,l52,rfl,UI⟩:=bK h52;obtain ⟨FW,l53,rfl,UJ⟩:=bK UI;obtain ⟨FX,l54,rfl,JM⟩:=bK UJ;obtain ⟨FY,l55,rfl,UK⟩:=bK JM;obtain ⟨FZ,l56,rfl,Gf⟩:=bK UK;obtain ⟨F0,l57,rfl,h58⟩:=bK Gf;obtain ⟨F1,l58,rfl,h59⟩:=bK h58;obtain ⟨F2,l59,rfl,h60⟩:=bK h59;obtain ⟨F3,l60,rfl,h61⟩:=bK h60;obtain ⟨F5,l61,rfl,Ov⟩:=bK h61;obtain ⟨F6,l62,rfl,Tj⟩:=bK Ov;obtain ⟨F7,l63,rfl,h64⟩:=bK Tj;obtain ⟨F9,l64,rfl,h65⟩:=bK h64;obtain ⟨Ga,l65,rfl,h66⟩:=bK h65;obtain ⟨Gb,l66,rfl,h67⟩:=bK h66;obtain ⟨Gc,l67,rfl,h68⟩:=bK h67;obtain ⟨Gd,l68,rfl,Uz⟩:=bK h68;cases List.eq_nil_of_length_eq_zero Uz
 exact ⟨x0,x1,x2,x3,x4,x5,x6,x7,x8,x9,Bs,C4,Fc,Fe,Ff,Fg,Fh,Fi,Fj,Fk,Fm,Fo,Fp,Fq,Fs,Ft,Fu,Fv,Fw,Fx,Fy,Fz,FA,FB,FC,FD,FE,FF,FG,FH,FI,FJ,FK,FL,FM,FN,FO,FP,FQ,FR,FT,FU,FV,FW,FX,FY,FZ,F0,F1,F2,F3,F5,F6,F7,F9,Ga,Gb,Gc,Gd,rfl⟩
noncomputable def AW:wU:=Tryz.f201.body.getD .skip
open VE (nK)
def aiE (a:List ByteArray) (t:ByteArray):nK (a++[t])=nK a++t.data.toList:=by simp [nK]
def akZ (a:List ByteArray):(nK a).length=(a.map (·.size)).sum:=by
 induction a with
 | nil=>rfl
 | cons t r ih=>
  show (t.data.toList++nK r).length=t.size+(r.map (·.size)).sum
  rw [yR,ih];rfl
def Yo (l:List Nat) (k:Nat):(l.drop k).sum<=l.sum:=by
 induction l generalizing k with
 | nil=>simp
 | cons x l ih=>
  cases k with
  | zero=>simp
  | succ k=>have:=ih k;simp only [List.drop_succ_cons,ycn];omega
def Nl:wU->wU
 | .seq a _=>a
 | .block _ a=>a
 | .loop a=>a
 | c=>c
def AX:wU->wU
 | .seq _ b=>b
 | c=>c
noncomputable def acs:wU:=Nl (Nl (AX (Nl (AX (AX (VE.za 5 AW))))))
def Nn (w0:yi) (ts:List ByteArray) (b o c:Nat) (ds:List yab) (pre:List UInt8) (k:Nat) (a:Act) (w:yi):Prop:=
 k<=ts.length/\a.tmps.size=69/\a.defers=ds/\a.tmps.getD 6 undef= .slice (some ⟨b,o,none⟩) ts.length c/\a.tmps.getD 10 undef= .pointer (some ⟨w0.heap.size,0,none⟩)/\a.tmps.getD 11 undef= .int .i64 ((k:Int)-1)/\
  Lib.IsBuilder 285 5 w0.heap.size w0.heap.size (Lib.byteCells (pre++nK (ts.drop k).reverse)) w/\Below w0.heap.size w0 w
def SO (a:Act):Nat:=match a.tmps.getD 11 undef with
 | .int _ z=>(z+1).toNat
 | _=>0
set_option maxHeartbeats 4000000 in
def Yp {Q:Exit->Act->yi->Prop} {w0:yi} {ts:List ByteArray} {b o c:Nat} {ds:List yab} {pre:List UInt8} (hc:∀i (h:i<ts.length),w0.cell? ⟨b,o+i,none⟩=some (.string ts[i])) (eH:pre.length<=1)
  (hl:(ts.map (·.size)).sum+1<=140737488355328) (hn:ts.length<=c) (dd:ts.length<9223372036854775808) (hQ:∀a w,Nn w0 ts b o c ds pre 0 a w->Q (.exit 2) a w):∀a w,(∃k,Nn w0 ts b o c ds pre k a w)->(Code.loop acs).wpIn Fence.wide 0 Tryz.prog Q a w:=by
 intro a w h0;refine wpIn_loop (fun a w=>∃k,Nn w0 ts b o c ds pre k a w) (fun a _=>SO a) h0 ?_;rintro a w ⟨k,hk,ek,rfl,h6,iJ,Ge,C5,C6⟩;have hm:SO a=k:=by
  unfold SO;rw [Ge];simp
 simp only [hm];simp only [acs,AW,Tryz.f201,uz,VE.za,Nl,AX];obtain ⟨⟨l⟩,ds⟩:=a;obtain ⟨x0,x1,x2,x3,x4,x5,x6,x7,x8,x9,Bs,C4,Fc,Fe,Ff,Fg,Fh,Fi,Fj,Fk,Fm,Fo,Fp,Fq,Fs,Ft,Fu,Fv,Fw,Fx,Fy,Fz,FA,FB,FC,FD,FE,FF,FG,FH,FI,FJ,FK,FL,FM,FN,FO,FP,FQ,FR,FT,FU,FV,FW,FX,FY,FZ,F0,F1,F2,F3,F5,F6,F7,F9,Ga,Gb,Gc,Gd,rfl⟩:=QT (l:=l) ek;have e6:x6= .slice (some ⟨b,o,none⟩) ts.length c:=h6;have Gg:Bs= .pointer (some ⟨w0.heap.size,0,none⟩):=iJ;have e11:C4= .int .i64 ((k:Int)-1):=Ge;clear h6 iJ Ge hm ek;subst e6;subst Gg;subst e11
 cases k with
 | zero=>
  gi_wp2
  exact ⟨Nat.zero_le _,rfl,rfl,rfl,rfl,rfl,C5,C6⟩
 | succ k=>
  have hi:k<ts.length:=hk;have sU:=hc k hi;have aya:w.cell? ⟨b,o+k,none⟩=some (.string ts[k]):=(C6.cell (World.block_lt_of_cell? _ _ sU)).trans sU;have e1:((k+1:Nat):Int)-1=(k:Int):=by omega
  rw [e1]
  gi_wp2
  refine ⟨trivial,rfl,callsIn_wide.2 ((Tryz.Builder_WriteString _ _ _ ts[k] w C5 ?_ C6.size).mono ?_)⟩
  ·have h1:=akZ (ts.drop (k+1)).reverse;have h2:=Yo (ts.map (·.size)) (k+1);have h3:(ts.map (·.size)).drop k=ts[k].size::(ts.map (·.size)).drop (k+1):=by
    rw [yP (by simpa using hi)];simp
   have h4:=Yo (ts.map (·.size)) k;rw [h3,ycn] at h4;rw [Lib.byteCells_length,yR,h1,List.map_reverse,List.sum_reverse,List.map_drop];omega
  ·rintro e w' ⟨rfl,bX,IX⟩;have hd:pre++nK (ts.drop k).reverse=pre++nK (ts.drop (k+1)).reverse++ts[k].data.toList:=by
    rw [yP hi,List.reverse_cons,aiE,List.append_assoc]
   rw [Lib.strCells_eq,<-Lib.byteCells_append,<-hd] at bX;have hw:wrap64 ((k:Int)-1)=(k:Int)-1:=by unfold wrap64;omega
   simp only
   gi_wp2
   refine ⟨⟨k,by omega,rfl,rfl,rfl,rfl,rfl,.inr bX,C6.trans IX⟩,?_⟩;show ((k:Int)-1+1).toNat<k+1
   omega
set_option maxHeartbeats 4000000 in
def ak0 {Q:Exit->Act->yi->Prop} (a:Act) (w:yi) (neg:Bool) (ts:List ByteArray) (b o c:Nat) (ek:a.tmps.size=69) (h3:a.tmps.getD 3 undef= .bool neg) (h6:a.tmps.getD 6 undef= .slice (some ⟨b,o,none⟩) ts.length c)
  (hc:∀i (h:i<ts.length),w.cell? ⟨b,o+i,none⟩=some (.string ts[i])) (hl:(ts.map (·.size)).sum+1<=140737488355328) (hn:ts.length<=c) (dd:ts.length<9223372036854775808)
  (hQ:∀a' w',VE.Calm w w'->a'.tmps.size=69->a'.defers=a.defers->a'.tmps.getD 2 undef= .string ⟨((if neg then [45] else [])++nK ts.reverse).toArray⟩->Q .ret a' w'):
  (VE.za 5 AW).wpIn Fence.wide 0 Tryz.prog Q a w:=by
 simp only [AW,Tryz.f201,uz,VE.za];obtain ⟨⟨l⟩,ds⟩:=a;obtain ⟨x0,x1,x2,x3,x4,x5,x6,x7,x8,x9,Bs,C4,Fc,Fe,Ff,Fg,Fh,Fi,Fj,Fk,Fm,Fo,Fp,Fq,Fs,Ft,Fu,Fv,Fw,Fx,Fy,Fz,FA,FB,FC,FD,FE,FF,FG,FH,FI,FJ,FK,FL,FM,FN,FO,FP,FQ,FR,FT,FU,FV,FW,FX,FY,FZ,F0,F1,F2,F3,F5,F6,F7,F9,Ga,Gb,Gc,Gd,rfl⟩:=QT (l:=l) ek;have e3:x3= .bool neg:=h3;have e6:x6= .slice (some ⟨b,o,none⟩) ts.length c:=h6;clear h3 h6 ek;subst e3;subst e6;have hw:wrap64 ((ts.length:Int)-1)=(ts.length:Int)-1:=by unfold wrap64;omega
 obtain ⟨pre,hp⟩:∃pre:List UInt8,(if neg then [45] else [])=pre:=⟨_,rfl⟩;rw [hp] at hQ;have fin:∀(a:Act) (w':yi) (K:Act->yi->Prop),Nn w ts b o c ds pre 0 a w'->
   (∀(a:Act) (w:yi),Code.wpIn Fence.wide 0 Tryz.prog (AX (AX (AX (VE.za 5 AW)))) Q a w->K a w)->K a w':=by
  rintro a w' K ⟨_,ek,rfl,h6,iJ,Ge,C5,C6⟩ hK;clear hp;refine hK _ _ ?_;simp only [AW,Tryz.f201,uz,VE.za,AX];obtain ⟨⟨l⟩,ds⟩:=a;obtain ⟨x0,x1,x2,x3,x4,x5,x6,x7,x8,x9,Bs,C4,Fc,Fe,Ff,Fg,Fh,Fi,Fj,Fk,Fm,Fo,Fp,Fq,Fs,Ft,Fu,Fv,Fw,Fx,Fy,Fz,FA,FB,FC,FD,FE,FF,FG,FH,FI,FJ,FK,FL,FM,FN,FO,FP,FQ,FR,FT,FU,FV,FW,FX,FY,FZ,F0,F1,F2,F3,F5,F6,F7,F9,Ga,Gb,Gc,Gd,rfl⟩:=QT (l:=l) ek;have Gg:Bs= .pointer (some ⟨w.heap.size,0,none⟩):=iJ;subst Gg
  gi_wp2
  refine ⟨trivial,rfl,callsIn_wide.2 ((Tryz.Builder_String_any _ _ _ _ C5 C6.size).mono ?_)⟩;rintro e w2 ⟨rfl,IX⟩;simp only
  gi_wp2
  exact hQ _ _ (VE.Gu (C6.trans IX)) rfl rfl rfl
 cases neg with
 | false=>
  cases hp
  gi_wp2
  refine Yp (pre:=[]) hc (by simp) hl hn dd (fun a w' hI=>?_) _ _ ⟨ts.length,yA _,rfl,rfl,rfl,rfl,?_,?_,?_⟩
  ·simp only [Exit.inBlock,Exit.then];exact fin a w' _ hI (by assumption)
  ·rfl
  ·rw [ybF];exact Lib.fresh_isBuilder _ _ w
  ·exact (Below.refl _ w).alloc (yA _) _
 | true=>
  cases hp
  gi_wp2
  refine ⟨trivial,rfl,callsIn_wide.2 ((Tryz.Builder_WriteString _ _ [] _ _ (Lib.fresh_isBuilder _ _ w) (by decide) (by simp)).mono ?_)⟩;rintro e w' ⟨rfl,bX,IX⟩;simp only
  gi_wp2
  refine Yp (pre:=[45]) hc (by simp) hl hn dd (fun a w' hI=>?_) _ _ ⟨ts.length,yA _,rfl,rfl,rfl,rfl,?_,?_,?_⟩
  ·simp only [Exit.inBlock,Exit.then];exact fin a w' _ hI (by assumption)
  ·rfl
  ·rw [ybF];exact .inr bX
  ·exact ((Below.refl _ w).alloc (yA _) _).trans IX
def ak1:VE.Qs Tryz.prog AW:=fun _ a w neg ts b o c h1 h2 h3 h4 h5 h6 h7 h8=>ak0 a w neg ts b o c h1 h2 h3 h4 h5 h6 h7 h8
end Go.Proofs
