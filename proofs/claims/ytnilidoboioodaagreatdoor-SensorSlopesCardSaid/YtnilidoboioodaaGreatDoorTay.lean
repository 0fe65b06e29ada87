import Derived.TacticsIn
import Derived.LoopNIn
import Derived.OwnWalk
import Derived.WalkKit
import Derived.Test.YtnilidoboioodaaGreatDoorTag
import Derived.Test.YtnilidoboioodaaGreatDoorTax
import Derived.Test.YtnilidoboioodaaGreatDoorTaf
set_option linter.all false
set_option maxRecDepth 100000
open Go renaming Code→wF,Deferred→uG,World→yh
open List renaming drop_eq_getElem_cons→yP,drop_length→tY,length_append→yU,sum_cons→yaz
open Nat renaming le_refl→yv
open Option renaming getD_some→xX
namespace Go.Proofs
open Go.Shelf
open Go.RowKit
def bC {α:Type} {l:List α} {n:Nat} (h:l.length=n+1):∃x r,l=x::r/\r.length=n:=by
 cases l with
 | nil=>simp at h
 | cons x r=>exact ⟨x,r,rfl,by simpa using h⟩
def M8 {α:Type} {l:List α} (h0:l.length=69):∃x0 x1 x2 x3 x4 x5 x6 x7 x8 x9 zy Bk C5 C6 C7 C8 C9 Da Db Dc Dd De Df Dg Dh Di Dj Dk Dl Dm Dn Dp Dq Dr Ds Dt Du Dv Dw Dx Dy Dz DA DB DC DD DE DF DG DH DI DJ DK DL DM DN DO DP DQ DR DS DT DU DV DW DX DY DZ D0,l=[x0,x1,x2,x3,x4,x5,x6,x7,x8,x9,zy,Bk,C5,C6,C7,C8,C9,Da,Db,Dc,Dd,De,Df,Dg,Dh,Di,Dj,Dk,Dl,Dm,Dn,Dp,Dq,Dr,Ds,Dt,Du,Dv,Dw,Dx,Dy,Dz,DA,DB,DC,DD,DE,DF,DG,DH,DI,DJ,DK,DL,DM,DN,DO,DP,DQ,DR,DS,DT,DU,DV,DW,DX,DY,DZ,D0]:=by
 obtain ⟨x0,l0,rfl,h1⟩:=bC h0;obtain ⟨x1,l1,rfl,h2⟩:=bC h1;obtain ⟨x2,l2,rfl,h3⟩:=bC h2;obtain ⟨x3,l3,rfl,h4⟩:=bC h3;obtain ⟨x4,l4,rfl,h5⟩:=bC h4;obtain ⟨x5,l5,rfl,h6⟩:=bC h5;obtain ⟨x6,l6,rfl,h7⟩:=bC h6;obtain ⟨x7,l7,rfl,h8⟩:=bC h7;obtain ⟨x8,l8,rfl,h9⟩:=bC h8;obtain ⟨x9,l9,rfl,fH⟩:=bC h9;obtain ⟨zy,l10,rfl,zA⟩:=bC fH;obtain ⟨Bk,l11,rfl,P9⟩:=bC zA;obtain ⟨C5,l12,rfl,h13⟩:=bC P9;obtain ⟨C6,l13,rfl,h14⟩:=bC h13;obtain ⟨C7,l14,rfl,h15⟩:=bC h14;obtain ⟨C8,l15,rfl,h16⟩:=bC h15;obtain ⟨C9,l16,rfl,h17⟩:=bC h16;obtain ⟨Da,l17,rfl,h18⟩:=bC h17;obtain ⟨Db,l18,rfl,h19⟩:=bC h18;obtain ⟨Dc,l19,rfl,kY⟩:=bC h19;obtain ⟨Dd,l20,rfl,h21⟩:=bC kY;obtain ⟨De,l21,rfl,h22⟩:=bC h21;obtain ⟨Df,l22,rfl,h23⟩:=bC h22;obtain ⟨Dg,l23,rfl,h24⟩:=bC h23
 obtain ⟨Dh,l24,rfl,h25⟩:=bC h24;obtain ⟨Di,l25,rfl,h26⟩:=bC h25;obtain ⟨Dj,l26,rfl,h27⟩:=bC h26;obtain ⟨Dk,l27,rfl,h28⟩:=bC h27;obtain ⟨Dl,l28,rfl,K1⟩:=bC h28;obtain ⟨Dm,l29,rfl,h30⟩:=bC K1;obtain ⟨Dn,l30,rfl,h31⟩:=bC h30;obtain ⟨Dp,l31,rfl,h32⟩:=bC h31;obtain ⟨Dq,l32,rfl,h33⟩:=bC h32;obtain ⟨Dr,l33,rfl,h34⟩:=bC h33;obtain ⟨Ds,l34,rfl,h35⟩:=bC h34;obtain ⟨Dt,l35,rfl,h36⟩:=bC h35;obtain ⟨Du,l36,rfl,h37⟩:=bC h36;obtain ⟨Dv,l37,rfl,h38⟩:=bC h37;obtain ⟨Dw,l38,rfl,h39⟩:=bC h38;obtain ⟨Dx,l39,rfl,h40⟩:=bC h39;obtain ⟨Dy,l40,rfl,h41⟩:=bC h40;obtain ⟨Dz,l41,rfl,h42⟩:=bC h41;obtain ⟨DA,l42,rfl,h43⟩:=bC h42;obtain ⟨DB,l43,rfl,h44⟩:=bC h43;obtain ⟨DC,l44,rfl,h45⟩:=bC h44;obtain ⟨DD,l45,rfl,P6⟩:=bC h45;obtain ⟨DE,l46,rfl,h47⟩:=bC P6
 obtain ⟨DF,l47,rfl,ij⟩:=bC h47;obtain ⟨DG,l48,rfl,nl⟩:=bC ij;obtain ⟨DH,l49,rfl,P3⟩:=bC nl;obtain ⟨DI,l50,rfl,h51⟩:=bC P3;obtain ⟨DJ,l51,rfl,h52⟩:=bC h51;obtain ⟨DK,l52,rfl,h53⟩:=bC h52;obtain ⟨DL,l53,rfl,h54⟩:=bC h53;obtain ⟨DM,l54,rfl,h55⟩:=bC h54;obtain ⟨DN,l55,rfl,h56⟩:=bC h55;obtain ⟨DO,l56,rfl,h57⟩:=bC h56;obtain ⟨DP,l57,rfl,h58⟩:=bC h57;obtain ⟨DQ,l58,rfl,h59⟩:=bC h58;obtain ⟨DR,l59,rfl,h60⟩:=bC h59;obtain ⟨DS,l60,rfl,h61⟩:=bC h60;obtain ⟨DT,l61,rfl,KY⟩:=bC h61;obtain ⟨DU,l62,rfl,X6⟩:=bC KY;obtain ⟨DV,l63,rfl,He⟩:=bC X6;obtain ⟨DW,l64,rfl,h65⟩:=bC He;obtain ⟨DX,l65,rfl,h66⟩:=bC h65;obtain ⟨DY,l66,rfl,h67⟩:=bC h66;obtain ⟨DZ,l67,rfl,h68⟩:=bC h67;obtain ⟨D0,l68,rfl,P2⟩:=bC h68;cases List.eq_nil_of_length_eq_zero P2
 exact ⟨x0,x1,x2,x3,x4,x5,x6,x7,x8,x9,zy,Bk,C5,C6,C7,C8,C9,Da,Db,Dc,Dd,De,Df,Dg,Dh,Di,Dj,Dk,Dl,Dm,Dn,Dp,Dq,Dr,Ds,Dt,Du,Dv,Dw,Dx,Dy,Dz,DA,DB,DC,DD,DE,DF,DG,DH,DI,DJ,DK,DL,DM,DN,DO,DP,DQ,DR,DS,DT,DU,DV,DW,DX,DY,DZ,D0,rfl⟩
noncomputable def sN:wF:=Tryz.f177.body.getD .skip
open VE (lS)
def ac7 (a:List ByteArray) (t:ByteArray):lS (a++[t])=lS a++t.data.toList:=by simp [lS]
def aff (a:List ByteArray):(lS a).length=(a.map (·.size)).sum:=by
 induction a with
 | nil=>rfl
 | cons t r ih=>
  show (t.data.toList++lS r).length=t.size+(r.map (·.size)).sum
  rw [yU,ih];rfl
def Tt (l:List Nat) (k:Nat):(l.drop k).sum<=l.sum:=by
 induction l generalizing k with
 | nil=>simp
 | cons x l ih=>
  cases k with
  | zero=>simp
  | succ k=>have:=ih k;simp only [List.drop_succ_cons,yaz];omega
def J9:wF->wF
 | .seq a _=>a
 | .block _ a=>a
 | .loop a=>a
 | c=>c
def sO:wF->wF
 | .seq _ b=>b
 | c=>c
noncomputable def Xk:wF:=J9 (J9 (sO (J9 (sO (sO (VE.p7 5 sN))))))
def Ka (w0:yh) (ts:List ByteArray) (b o c:Nat) (ds:List uG) (pre:List UInt8) (k:Nat) (a:Act) (w:yh):Prop:=
 k<=ts.length/\a.tmps.size=69/\a.defers=ds/\a.tmps.getD 6 undef= .slice (some ⟨b,o,none⟩) ts.length c/\a.tmps.getD 10 undef= .pointer (some ⟨w0.heap.size,0,none⟩)/\a.tmps.getD 11 undef= .int .i64 ((k:Int)-1)/\
  Lib.IsBuilder 310 5 w0.heap.size w0.heap.size (Lib.byteCells (pre++lS (ts.drop k).reverse)) w/\Below w0.heap.size w0 w
def OD (a:Act):Nat:=match a.tmps.getD 11 undef with
 | .int _ z=>(z+1).toNat
 | _=>0
set_option maxHeartbeats 4000000 in
def Tu {Q:Exit->Act->yh->Prop} {w0:yh} {ts:List ByteArray} {b o c:Nat} {ds:List uG} {pre:List UInt8} (hc:∀i (h:i<ts.length),w0.cell? ⟨b,o+i,none⟩=some (.string ts[i])) (dw:pre.length<=1)
  (hl:(ts.map (·.size)).sum+1<=140737488355328) (hn:ts.length<=c) (da:ts.length<9223372036854775808) (hQ:∀a w,Ka w0 ts b o c ds pre 0 a w->Q (.exit 2) a w):∀a w,(∃k,Ka w0 ts b o c ds pre k a w)->(Code.loop Xk).wpIn Fence.wide 0 Tryz.prog Q a w:=by
 intro a w h0;refine wpIn_loop (fun a w=>∃k,Ka w0 ts b o c ds pre k a w) (fun a _=>OD a) h0 ?_;rintro a w ⟨k,hk,dM,rfl,h6,fH,zA,Bl,Bm⟩;have hm:OD a=k:=by
  unfold OD;rw [zA];simp
 simp only [hm];simp only [Xk,sN,Tryz.f177,xX,VE.p7,J9,sO];obtain ⟨⟨l⟩,ds⟩:=a;obtain ⟨x0,x1,x2,x3,x4,x5,x6,x7,x8,x9,zy,Bk,C5,C6,C7,C8,C9,Da,Db,Dc,Dd,De,Df,Dg,Dh,Di,Dj,Dk,Dl,Dm,Dn,Dp,Dq,Dr,Ds,Dt,Du,Dv,Dw,Dx,Dy,Dz,DA,DB,DC,DD,DE,DF,DG,DH,DI,DJ,DK,DL,DM,DN,DO,DP,DQ,DR,DS,DT,DU,DV,DW,DX,DY,DZ,D0,rfl⟩:=M8 (l:=l) dM;have e6:x6= .slice (some ⟨b,o,none⟩) ts.length c:=h6;have Qa:zy= .pointer (some ⟨w0.heap.size,0,none⟩):=fH;have e11:Bk= .int .i64 ((k:Int)-1):=zA;clear h6 fH zA hm dM;subst e6;subst Qa;subst e11
 cases k with
 | zero=>
  gi_wp2
  exact ⟨Nat.zero_le _,rfl,rfl,rfl,rfl,rfl,Bl,Bm⟩
 | succ k=>
  have hi:k<ts.length:=hk;have At:=hc k hi;have arl:w.cell? ⟨b,o+k,none⟩=some (.string ts[k]):=(Bm.cell (World.block_lt_of_cell? _ _ At)).trans At;have e1:((k+1:Nat):Int)-1=(k:Int):=by omega
  rw [e1]
  gi_wp2
  refine ⟨trivial,rfl,callsIn_wide.2 ((Tryz.Builder_WriteString _ _ _ ts[k] w Bl ?_ Bm.size).mono ?_)⟩
  ·have h1:=aff (ts.drop (k+1)).reverse;have h2:=Tt (ts.map (·.size)) (k+1);have h3:(ts.map (·.size)).drop k=ts[k].size::(ts.map (·.size)).drop (k+1):=by
    rw [yP (by simpa using hi)];simp
   have h4:=Tt (ts.map (·.size)) k;rw [h3,yaz] at h4;rw [Lib.byteCells_length,yU,h1,List.map_reverse,List.sum_reverse,List.map_drop];omega
  ·rintro e w' ⟨rfl,bK,Gg⟩;have hd:pre++lS (ts.drop k).reverse=pre++lS (ts.drop (k+1)).reverse++ts[k].data.toList:=by
    rw [yP hi,List.reverse_cons,ac7,List.append_assoc]
   rw [Lib.strCells_eq,<-Lib.byteCells_append,<-hd] at bK;have hw:wrap64 ((k:Int)-1)=(k:Int)-1:=by unfold wrap64;omega
   simp only
   gi_wp2
   refine ⟨⟨k,by omega,rfl,rfl,rfl,rfl,rfl,.inr bK,Bm.trans Gg⟩,?_⟩;show ((k:Int)-1+1).toNat<k+1
   omega
set_option maxHeartbeats 4000000 in
def afg {Q:Exit->Act->yh->Prop} (a:Act) (w:yh) (neg:Bool) (ts:List ByteArray) (b o c:Nat) (dM:a.tmps.size=69) (h3:a.tmps.getD 3 undef= .bool neg) (h6:a.tmps.getD 6 undef= .slice (some ⟨b,o,none⟩) ts.length c)
  (hc:∀i (h:i<ts.length),w.cell? ⟨b,o+i,none⟩=some (.string ts[i])) (hl:(ts.map (·.size)).sum+1<=140737488355328) (hn:ts.length<=c) (da:ts.length<9223372036854775808)
  (hQ:∀a' w',VE.Calm w w'->a'.tmps.size=69->a'.defers=a.defers->a'.tmps.getD 2 undef= .string ⟨((if neg then [45] else [])++lS ts.reverse).toArray⟩->Q .ret a' w'):
  (VE.p7 5 sN).wpIn Fence.wide 0 Tryz.prog Q a w:=by
 simp only [sN,Tryz.f177,xX,VE.p7];obtain ⟨⟨l⟩,ds⟩:=a;obtain ⟨x0,x1,x2,x3,x4,x5,x6,x7,x8,x9,zy,Bk,C5,C6,C7,C8,C9,Da,Db,Dc,Dd,De,Df,Dg,Dh,Di,Dj,Dk,Dl,Dm,Dn,Dp,Dq,Dr,Ds,Dt,Du,Dv,Dw,Dx,Dy,Dz,DA,DB,DC,DD,DE,DF,DG,DH,DI,DJ,DK,DL,DM,DN,DO,DP,DQ,DR,DS,DT,DU,DV,DW,DX,DY,DZ,D0,rfl⟩:=M8 (l:=l) dM;have e3:x3= .bool neg:=h3;have e6:x6= .slice (some ⟨b,o,none⟩) ts.length c:=h6;clear h3 h6 dM;subst e3;subst e6;have hw:wrap64 ((ts.length:Int)-1)=(ts.length:Int)-1:=by unfold wrap64;omega
 obtain ⟨pre,hp⟩:∃pre:List UInt8,(if neg then [45] else [])=pre:=⟨_,rfl⟩;rw [hp] at hQ;have fin:∀(a:Act) (w':yh) (K:Act->yh->Prop),Ka w ts b o c ds pre 0 a w'->
   (∀(a:Act) (w:yh),Code.wpIn Fence.wide 0 Tryz.prog (sO (sO (sO (VE.p7 5 sN)))) Q a w->K a w)->K a w':=by
  rintro a w' K ⟨_,dM,rfl,h6,fH,zA,Bl,Bm⟩ hK;clear hp;refine hK _ _ ?_;simp only [sN,Tryz.f177,xX,VE.p7,sO];obtain ⟨⟨l⟩,ds⟩:=a;obtain ⟨x0,x1,x2,x3,x4,x5,x6,x7,x8,x9,zy,Bk,C5,C6,C7,C8,C9,Da,Db,Dc,Dd,De,Df,Dg,Dh,Di,Dj,Dk,Dl,Dm,Dn,Dp,Dq,Dr,Ds,Dt,Du,Dv,Dw,Dx,Dy,Dz,DA,DB,DC,DD,DE,DF,DG,DH,DI,DJ,DK,DL,DM,DN,DO,DP,DQ,DR,DS,DT,DU,DV,DW,DX,DY,DZ,D0,rfl⟩:=M8 (l:=l) dM;have Qa:zy= .pointer (some ⟨w.heap.size,0,none⟩):=fH;subst Qa
  gi_wp2
  refine ⟨trivial,rfl,callsIn_wide.2 ((Tryz.Builder_String_any _ _ _ _ Bl Bm.size).mono ?_)⟩;rintro e w2 ⟨rfl,Gg⟩;simp only
  gi_wp2
  exact hQ _ _ (VE.D9 (Bm.trans Gg)) rfl rfl rfl
 cases neg with
 | false=>
  cases hp
  gi_wp2
  refine Tu (pre:=[]) hc (by simp) hl hn da (fun a w' hI=>?_) _ _ ⟨ts.length,yv _,rfl,rfl,rfl,rfl,?_,?_,?_⟩
  ·simp only [Exit.inBlock,Exit.then];exact fin a w' _ hI (by assumption)
  ·rfl
  ·rw [tY];exact Lib.fresh_isBuilder _ _ w
  ·exact (Below.refl _ w).alloc (yv _) _
 | true=>
  cases hp
  gi_wp2
  refine ⟨trivial,rfl,callsIn_wide.2 ((Tryz.Builder_WriteString _ _ [] _ _ (Lib.fresh_isBuilder _ _ w) (by decide) (by simp)).mono ?_)⟩;rintro e w' ⟨rfl,bK,Gg⟩;simp only
  gi_wp2
  refine Tu (pre:=[45]) hc (by simp) hl hn da (fun a w' hI=>?_) _ _ ⟨ts.length,yv _,rfl,rfl,rfl,rfl,?_,?_,?_⟩
  ·simp only [Exit.inBlock,Exit.then];exact fin a w' _ hI (by assumption)
  ·rfl
  ·rw [tY];exact .inr bK
  ·exact ((Below.refl _ w).alloc (yv _) _).trans Gg
def afh:VE.MK Tryz.prog sN:=fun _ a w neg ts b o c h1 h2 h3 h4 h5 h6 h7 h8=>afg a w neg ts b o c h1 h2 h3 h4 h5 h6 h7 h8
end Go.Proofs
