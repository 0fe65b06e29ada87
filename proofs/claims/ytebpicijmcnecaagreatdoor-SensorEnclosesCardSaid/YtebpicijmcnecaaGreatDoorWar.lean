import Derived.TacticsIn
import Derived.LoopNIn
import Derived.OwnWalk
import Derived.WalkKit
import Derived.Test.YtebpicijmcnecaaGreatDoorWaq
set_option linter.all false
set_option maxRecDepth 100000
open Go renaming Code->vA,Deferred->yaK,World->yk
open List renaming drop_eq_getElem_cons->yW,drop_length->ybR,length_append->yJ,sum_cons->ycn
open Nat renaming le_refl->yx
open Option renaming getD_some->xW
namespace Go.Proofs
open Go.Shelf
open Go.RowKit
def bM{α:Type}{l:List α}{n:Nat}(h:l.length=n+1):∃x r,l=x::r/\r.length=n:=by
 cases l with
 | nil=>simp at h
 | cons x r=>exact⟨x,r,rfl,by simpa using h⟩
def U1{α:Type}{l:List α}(h0:l.length=69):∃x0 x1 x2 x3 x4 x5 x6 x7 x8 x9 x10 x11 x12 x13 x14 x15 x16 H8 H9 Ia Ib Ic Ie Ig Ih Ii Ij Ik Il Im Io Ip Iq Ir Is It Iu Iv Iw Ix Iy Iz IA IB IC ID IE IF IG II IJ IK IL IM IN IP IQ IR IS IT IU IV IW IX IY IZ I0 I1 I2,l=[x0,x1,x2,x3,x4,x5,x6,x7,x8,x9,x10,x11,x12,x13,x14,x15,x16,H8,H9,Ia,Ib,Ic,Ie,Ig,Ih,Ii,Ij,Ik,Il,Im,Io,Ip,Iq,Ir,Is,It,Iu,Iv,Iw,Ix,Iy,Iz,IA,IB,IC,ID,IE,IF,IG,II,IJ,IK,IL,IM,IN,IP,IQ,IR,IS,IT,IU,IV,IW,IX,IY,IZ,I0,I1,I2]:=by
 obtain⟨x0,l0,rfl,h1⟩:=bM h0;obtain⟨x1,l1,rfl,h2⟩:=bM h1;obtain⟨x2,l2,rfl,h3⟩:=bM h2;obtain⟨x3,l3,rfl,h4⟩:=bM h3;obtain⟨x4,l4,rfl,h5⟩:=bM h4;obtain⟨x5,l5,rfl,h6⟩:=bM h5;obtain⟨x6,l6,rfl,h7⟩:=bM h6;obtain⟨x7,l7,rfl,h8⟩:=bM h7;obtain⟨x8,l8,rfl,h9⟩:=bM h8;obtain⟨x9,l9,rfl,iW⟩:=bM h9;obtain⟨x10,l10,rfl,DT⟩:=bM iW;obtain⟨x11,l11,rfl,I3⟩:=bM DT;obtain⟨x12,l12,rfl,h13⟩:=bM I3;obtain⟨x13,l13,rfl,h14⟩:=bM h13;obtain⟨x14,l14,rfl,h15⟩:=bM h14;obtain⟨x15,l15,rfl,h16⟩:=bM h15;obtain⟨x16,l16,rfl,h17⟩:=bM h16;obtain⟨H8,l17,rfl,h18⟩:=bM h17;obtain⟨H9,l18,rfl,h19⟩:=bM h18;obtain⟨Ia,l19,rfl,pw⟩:=bM h19;obtain⟨Ib,l20,rfl,h21⟩:=bM pw;obtain⟨Ic,l21,rfl,h22⟩:=bM h21;obtain⟨Ie,l22,rfl,h23⟩:=bM h22;obtain⟨Ig,l23,rfl,h24⟩:=bM h23
 obtain⟨Ih,l24,rfl,h25⟩:=bM h24;obtain⟨Ii,l25,rfl,h26⟩:=bM h25;obtain⟨Ij,l26,rfl,h27⟩:=bM h26;obtain⟨Ik,l27,rfl,h28⟩:=bM h27;obtain⟨Il,l28,rfl,h29⟩:=bM h28;obtain⟨Im,l29,rfl,h30⟩:=bM h29;obtain⟨Io,l30,rfl,h31⟩:=bM h30;obtain⟨Ip,l31,rfl,h32⟩:=bM h31;obtain⟨Iq,l32,rfl,h33⟩:=bM h32;obtain⟨Ir,l33,rfl,h34⟩:=bM h33;obtain⟨Is,l34,rfl,h35⟩:=bM h34;obtain⟨It,l35,rfl,h36⟩:=bM h35;obtain⟨Iu,l36,rfl,h37⟩:=bM h36;obtain⟨Iv,l37,rfl,h38⟩:=bM h37;obtain⟨Iw,l38,rfl,h39⟩:=bM h38;obtain⟨Ix,l39,rfl,h40⟩:=bM h39;obtain⟨Iy,l40,rfl,h41⟩:=bM h40;obtain⟨Iz,l41,rfl,h42⟩:=bM h41;obtain⟨IA,l42,rfl,h43⟩:=bM h42;obtain⟨IB,l43,rfl,h44⟩:=bM h43;obtain⟨IC,l44,rfl,h45⟩:=bM h44;obtain⟨ID,l45,rfl,YB⟩:=bM h45;obtain⟨IE,l46,rfl,h47⟩:=bM YB
 obtain⟨IF,l47,rfl,kT⟩:=bM h47;obtain⟨IG,l48,rfl,qY⟩:=bM kT;obtain⟨II,l49,rfl,Yy⟩:=bM qY;obtain⟨IJ,l50,rfl,h51⟩:=bM Yy;obtain⟨IK,l51,rfl,h52⟩:=bM h51;obtain⟨IL,l52,rfl,h53⟩:=bM h52;obtain⟨IM,l53,rfl,h54⟩:=bM h53;obtain⟨IN,l54,rfl,h55⟩:=bM h54;obtain⟨IP,l55,rfl,h56⟩:=bM h55;obtain⟨IQ,l56,rfl,h57⟩:=bM h56;obtain⟨IR,l57,rfl,h58⟩:=bM h57;obtain⟨IS,l58,rfl,h59⟩:=bM h58;obtain⟨IT,l59,rfl,h60⟩:=bM h59;obtain⟨IU,l60,rfl,h61⟩:=bM h60;obtain⟨IV,l61,rfl,RX⟩:=bM h61;obtain⟨IW,l62,rfl,h63⟩:=bM RX;obtain⟨IX,l63,rfl,h64⟩:=bM h63;obtain⟨IY,l64,rfl,h65⟩:=bM h64;obtain⟨IZ,l65,rfl,h66⟩:=bM h65;obtain⟨I0,l66,rfl,h67⟩:=bM h66;obtain⟨I1,l67,rfl,h68⟩:=bM h67;obtain⟨I2,l68,rfl,Yx⟩:=bM h68;cases List.eq_nil_of_length_eq_zero Yx
 exact⟨x0,x1,x2,x3,x4,x5,x6,x7,x8,x9,x10,x11,x12,x13,x14,x15,x16,H8,H9,Ia,Ib,Ic,Ie,Ig,Ih,Ii,Ij,Ik,Il,Im,Io,Ip,Iq,Ir,Is,It,Iu,Iv,Iw,Ix,Iy,Iz,IA,IB,IC,ID,IE,IF,IG,II,IJ,IK,IL,IM,IN,IP,IQ,IR,IS,IT,IU,IV,IW,IX,IY,IZ,I0,I1,I2,rfl⟩
noncomputable def De:vA:=Tryz.f168.body.getD .skip
open VE (qB)
def ann(a:List ByteArray)(t:ByteArray):qB (a++[t])=qB a++t.data.toList:=by simp[qB]
def apw(a:List ByteArray):(qB a).length=(a.map (·.size)).sum:=by
 induction a with
 | nil=>rfl
 | cons t r ih=>
  show (t.data.toList++qB r).length=t.size+(r.map (·.size)).sum
  rw[yJ,ih];rfl
def ace(l:List Nat)(k:Nat):(l.drop k).sum<=l.sum:=by
 induction l generalizing k with
 | nil=>simp
 | cons x l ih=>
  cases k with
  | zero=>simp
  | succ k=>have:=ih k;simp only[List.drop_succ_cons,ycn];omega
def QE:vA->vA
 | .seq a _=>a
 | .block _ a=>a
 | .loop a=>a
 | c=>c
def Df:vA->vA
 | .seq _ b=>b
 | c=>c
noncomputable def ahd:vA:=QE (QE (Df (QE (Df (Df (VE.By 5 De))))))
def QF(w0:yk)(ts:List ByteArray)(b o c:Nat)(ds:List yaK)(pre:List UInt8)(k:Nat)(a:Act)(w:yk):Prop:=
 k<=ts.length/\a.tmps.size=69/\a.defers=ds/\a.tmps.getD 6 undef=.slice (some ⟨b,o,none⟩) ts.length c/\a.tmps.getD 10 undef=.pointer (some ⟨w0.heap.size,0,none⟩)/\a.tmps.getD 11 undef=.int .i64 ((k:Int)-1)/\
  Lib.IsBuilder 302 5 w0.heap.size w0.heap.size (Lib.byteCells (pre++qB (ts.drop k).reverse)) w/\Below w0.heap.size w0 w
def WT(a:Act):Nat:=match a.tmps.getD 11 undef with
 | .int _ z=>(z+1).toNat
 | _=>0
set_option maxHeartbeats 4000000 in
def acf{Q:Exit->Act->yk->Prop}{w0:yk}{ts:List ByteArray}{b o c:Nat}{ds:List yaK}{pre:List UInt8}(hc:∀i (h:i<ts.length),w0.cell? ⟨b,o+i,none⟩=some (.string ts[i]))(eN:pre.length<=1)(hl:(ts.map (·.size)).sum+1<=140737488355328)(hn:ts.length<=c)(cE:ts.length<9223372036854775808)(hQ:∀a w,QF w0 ts b o c ds pre 0 a w->Q (.exit 2) a w):∀a w,(∃k,QF w0 ts b o c ds pre k a w)->(Code.loop ahd).wpIn Fence.wide 0 Tryz.prog Q a w:=by
 intro a w h0;refine wpIn_loop (fun a w=>∃k,QF w0 ts b o c ds pre k a w) (fun a _=>WT a) h0 ?_;rintro a w ⟨k,hk,eJ,rfl,h6,iW,DT,zK,AW⟩;have hm:WT a=k:=by
  unfold WT;rw[DT];simp
 simp only[hm];simp only[ahd,De,Tryz.f168,xW,VE.By,QE,Df];obtain⟨⟨l⟩,ds⟩:=a;obtain⟨x0,x1,x2,x3,x4,x5,x6,x7,x8,x9,x10,x11,x12,x13,x14,x15,x16,H8,H9,Ia,Ib,Ic,Ie,Ig,Ih,Ii,Ij,Ik,Il,Im,Io,Ip,Iq,Ir,Is,It,Iu,Iv,Iw,Ix,Iy,Iz,IA,IB,IC,ID,IE,IF,IG,II,IJ,IK,IL,IM,IN,IP,IQ,IR,IS,IT,IU,IV,IW,IX,IY,IZ,I0,I1,I2,rfl⟩:=U1 (l:=l) eJ;have e6:x6=.slice (some ⟨b,o,none⟩) ts.length c:=h6;have pG:x10=.pointer (some ⟨w0.heap.size,0,none⟩):=iW;have AX:x11=.int .i64 ((k:Int)-1):=DT;clear h6 iW DT hm eJ;subst e6;subst pG;subst AX
 cases k with
 | zero=>
  gi_wp2
  exact⟨Nat.zero_le _,rfl,rfl,rfl,rfl,rfl,zK,AW⟩
 | succ k=>
  have hi:k<ts.length:=hk;have EV:=hc k hi;have aFh:w.cell? ⟨b,o+k,none⟩=some (.string ts[k]):=(AW.cell (World.block_lt_of_cell? _ _ EV)).trans EV;have e1:((k+1:Nat):Int)-1=(k:Int):=by omega
  rw[e1]
  gi_wp2
  refine⟨trivial,rfl,callsIn_wide.2 ((Tryz.Builder_WriteString _ _ _ ts[k] w zK ?_ AW.size).mono ?_)⟩
  .have h1:=apw (ts.drop (k+1)).reverse;have h2:=ace (ts.map (·.size)) (k+1);have h3:(ts.map (·.size)).drop k=ts[k].size::(ts.map (·.size)).drop (k+1):=by
    rw[yW (by simpa using hi)];simp
   have h4:=ace (ts.map (·.size)) k;rw[h3,ycn] at h4;rw[Lib.byteCells_length,yJ,h1,List.map_reverse,List.sum_reverse,List.map_drop];omega
  .rintro e w' ⟨rfl,bI,LZ⟩;have hd:pre++qB (ts.drop k).reverse=pre++qB (ts.drop (k+1)).reverse++ts[k].data.toList:=by
    rw[yW hi,List.reverse_cons,ann,List.append_assoc]
   rw[Lib.strCells_eq,<-Lib.byteCells_append,<-hd] at bI;have hw:wrap64 ((k:Int)-1)=(k:Int)-1:=by unfold wrap64;omega
   simp only
   gi_wp2
   refine⟨⟨k,by omega,rfl,rfl,rfl,rfl,rfl,.inr bI,AW.trans LZ⟩,?_⟩;show ((k:Int)-1+1).toNat<k+1
   omega
set_option maxHeartbeats 4000000 in
def apx{Q:Exit->Act->yk->Prop}(a:Act)(w:yk)(neg:Bool)(ts:List ByteArray)(b o c:Nat)(eJ:a.tmps.size=69)(h3:a.tmps.getD 3 undef=.bool neg)(h6:a.tmps.getD 6 undef=.slice (some ⟨b,o,none⟩) ts.length c)(hc:∀i (h:i<ts.length),w.cell? ⟨b,o+i,none⟩=some (.string ts[i]))(hl:(ts.map (·.size)).sum+1<=140737488355328)(hn:ts.length<=c)(cE:ts.length<9223372036854775808)(hQ:∀a' w',VE.Calm w w'->a'.tmps.size=69->a'.defers=a.defers->a'.tmps.getD 2 undef=.string ⟨((if neg then [45] else [])++qB ts.reverse).toArray⟩->Q .ret a' w'):
  (VE.By 5 De).wpIn Fence.wide 0 Tryz.prog Q a w:=by
 simp only[De,Tryz.f168,xW,VE.By];obtain⟨⟨l⟩,ds⟩:=a;obtain⟨x0,x1,x2,x3,x4,x5,x6,x7,x8,x9,x10,x11,x12,x13,x14,x15,x16,H8,H9,Ia,Ib,Ic,Ie,Ig,Ih,Ii,Ij,Ik,Il,Im,Io,Ip,Iq,Ir,Is,It,Iu,Iv,Iw,Ix,Iy,Iz,IA,IB,IC,ID,IE,IF,IG,II,IJ,IK,IL,IM,IN,IP,IQ,IR,IS,IT,IU,IV,IW,IX,IY,IZ,I0,I1,I2,rfl⟩:=U1 (l:=l) eJ;have e3:x3=.bool neg:=h3;have e6:x6=.slice (some ⟨b,o,none⟩) ts.length c:=h6;clear h3 h6 eJ;subst e3;subst e6;have hw:wrap64 ((ts.length:Int)-1)=(ts.length:Int)-1:=by unfold wrap64;omega
 obtain⟨pre,hp⟩:∃pre:List UInt8,(if neg then [45] else [])=pre:=⟨_,rfl⟩;rw[hp] at hQ;have fin:∀(a:Act) (w':yk) (K:Act->yk->Prop),QF w ts b o c ds pre 0 a w'->
   (∀(a:Act) (w:yk),Code.wpIn Fence.wide 0 Tryz.prog (Df (Df (Df (VE.By 5 De)))) Q a w->K a w)->K a w':=by
  rintro a w' K ⟨_,eJ,rfl,h6,iW,DT,zK,AW⟩ hK;clear hp;refine hK _ _ ?_;simp only[De,Tryz.f168,xW,VE.By,Df];obtain⟨⟨l⟩,ds⟩:=a;obtain⟨x0,x1,x2,x3,x4,x5,x6,x7,x8,x9,x10,x11,x12,x13,x14,x15,x16,H8,H9,Ia,Ib,Ic,Ie,Ig,Ih,Ii,Ij,Ik,Il,Im,Io,Ip,Iq,Ir,Is,It,Iu,Iv,Iw,Ix,Iy,Iz,IA,IB,IC,ID,IE,IF,IG,II,IJ,IK,IL,IM,IN,IP,IQ,IR,IS,IT,IU,IV,IW,IX,IY,IZ,I0,I1,I2,rfl⟩:=U1 (l:=l) eJ;have pG:x10=.pointer (some ⟨w.heap.size,0,none⟩):=iW;subst pG
  gi_wp2
  refine⟨trivial,rfl,callsIn_wide.2 ((Tryz.Builder_String_any _ _ _ _ zK AW.size).mono ?_)⟩;rintro e w2 ⟨rfl,LZ⟩;simp only
  gi_wp2
  exact hQ _ _ (VE.Ju (AW.trans LZ)) rfl rfl rfl
 cases neg with
 | false=>
  cases hp
  gi_wp2
  refine acf (pre:=[]) hc (by simp) hl hn cE (fun a w' hI=>?_) _ _ ⟨ts.length,yx _,rfl,rfl,rfl,rfl,?_,?_,?_⟩
  .simp only [Exit.inBlock,Exit.then];exact fin a w' _ hI (by assumption)
  .rfl
  .rw [ybR];exact Lib.fresh_isBuilder _ _ w
  .exact (Below.refl _ w).alloc (yx _) _
 | true=>
  cases hp
  gi_wp2
  refine⟨trivial,rfl,callsIn_wide.2 ((Tryz.Builder_WriteString _ _ [] _ _ (Lib.fresh_isBuilder _ _ w) (by decide) (by simp)).mono ?_)⟩;rintro e w' ⟨rfl,bI,LZ⟩;simp only
  gi_wp2
  refine acf (pre:=[45]) hc (by simp) hl hn cE (fun a w' hI=>?_) _ _ ⟨ts.length,yx _,rfl,rfl,rfl,rfl,?_,?_,?_⟩
  .simp only [Exit.inBlock,Exit.then];exact fin a w' _ hI (by assumption)
  .rfl
  .rw [ybR];exact .inr bI
  .exact ((Below.refl _ w).alloc (yx _) _).trans LZ
def apy:VE.Uz Tryz.prog De:=fun _ a w neg ts b o c h1 h2 h3 h4 h5 h6 h7 h8=>apx a w neg ts b o c h1 h2 h3 h4 h5 h6 h7 h8
end Go.Proofs
