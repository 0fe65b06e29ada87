import Derived.TacticsIn
import Derived.LoopNIn
import Derived.OwnWalk
import Derived.WalkKit
import Derived.Test.YtebpicijmcnecaaGreatDoorTaq
set_option linter.all false
set_option maxRecDepth 100000
open Go renaming Code->vA,Deferred->yam,World->yj
open List renaming drop_eq_getElem_cons->yZ,drop_length->yby,length_append->yN,sum_cons->ybX
open Nat renaming le_refl->yu
open Option renaming getD_some->wX
namespace Go.Proofs
open Go.Shelf
open Go.RowKit
def bQ{α:Type}{l:List α}{n:Nat}(h:l.length=n+1):∃x r,l=x::r/\r.length=n:=by
 cases l with
 | nil=>simp at h
 | cons x r=>exact⟨x,r,rfl,by simpa using h⟩
def UT{α:Type}{l:List α}(h0:l.length=69):∃x0 x1 x2 x3 x4 x5 x6 x7 x8 x9 x10 x11 x12 x13 x14 x15 x16 HW HX HY HZ H4 H5 H6 H7 H8 H9 Ia Ib Ic Ie Ig Ih Ii Ij Ik Il Im Io Ip Iq Ir Is It Iu Iv Iw Ix Iy Iz IA IB IC ID IE IF IG II IJ IK IL IM IN IP IQ IR IS IT IU,l=[x0,x1,x2,x3,x4,x5,x6,x7,x8,x9,x10,x11,x12,x13,x14,x15,x16,HW,HX,HY,HZ,H4,H5,H6,H7,H8,H9,Ia,Ib,Ic,Ie,Ig,Ih,Ii,Ij,Ik,Il,Im,Io,Ip,Iq,Ir,Is,It,Iu,Iv,Iw,Ix,Iy,Iz,IA,IB,IC,ID,IE,IF,IG,II,IJ,IK,IL,IM,IN,IP,IQ,IR,IS,IT,IU]:=by
 obtain⟨x0,l0,rfl,h1⟩:=bQ h0;obtain⟨x1,l1,rfl,h2⟩:=bQ h1;obtain⟨x2,l2,rfl,h3⟩:=bQ h2;obtain⟨x3,l3,rfl,h4⟩:=bQ h3;obtain⟨x4,l4,rfl,h5⟩:=bQ h4;obtain⟨x5,l5,rfl,h6⟩:=bQ h5;obtain⟨x6,l6,rfl,h7⟩:=bQ h6;obtain⟨x7,l7,rfl,h8⟩:=bQ h7;obtain⟨x8,l8,rfl,h9⟩:=bQ h8;obtain⟨x9,l9,rfl,iM⟩:=bQ h9;obtain⟨x10,l10,rfl,Dx⟩:=bQ iM;obtain⟨x11,l11,rfl,YU⟩:=bQ Dx;obtain⟨x12,l12,rfl,h13⟩:=bQ YU;obtain⟨x13,l13,rfl,h14⟩:=bQ h13;obtain⟨x14,l14,rfl,h15⟩:=bQ h14;obtain⟨x15,l15,rfl,h16⟩:=bQ h15;obtain⟨x16,l16,rfl,h17⟩:=bQ h16;obtain⟨HW,l17,rfl,h18⟩:=bQ h17;obtain⟨HX,l18,rfl,h19⟩:=bQ h18;obtain⟨HY,l19,rfl,oF⟩:=bQ h19;obtain⟨HZ,l20,rfl,h21⟩:=bQ oF;obtain⟨H4,l21,rfl,h22⟩:=bQ h21;obtain⟨H5,l22,rfl,h23⟩:=bQ h22;obtain⟨H6,l23,rfl,h24⟩:=bQ h23
 obtain⟨H7,l24,rfl,h25⟩:=bQ h24;obtain⟨H8,l25,rfl,h26⟩:=bQ h25;obtain⟨H9,l26,rfl,h27⟩:=bQ h26;obtain⟨Ia,l27,rfl,h28⟩:=bQ h27;obtain⟨Ib,l28,rfl,h29⟩:=bQ h28;obtain⟨Ic,l29,rfl,h30⟩:=bQ h29;obtain⟨Ie,l30,rfl,h31⟩:=bQ h30;obtain⟨Ig,l31,rfl,h32⟩:=bQ h31;obtain⟨Ih,l32,rfl,h33⟩:=bQ h32;obtain⟨Ii,l33,rfl,h34⟩:=bQ h33;obtain⟨Ij,l34,rfl,h35⟩:=bQ h34;obtain⟨Ik,l35,rfl,h36⟩:=bQ h35;obtain⟨Il,l36,rfl,h37⟩:=bQ h36;obtain⟨Im,l37,rfl,h38⟩:=bQ h37;obtain⟨Io,l38,rfl,h39⟩:=bQ h38;obtain⟨Ip,l39,rfl,h40⟩:=bQ h39;obtain⟨Iq,l40,rfl,h41⟩:=bQ h40;obtain⟨Ir,l41,rfl,h42⟩:=bQ h41;obtain⟨Is,l42,rfl,h43⟩:=bQ h42;obtain⟨It,l43,rfl,h44⟩:=bQ h43;obtain⟨Iu,l44,rfl,h45⟩:=bQ h44;obtain⟨Iv,l45,rfl,YR⟩:=bQ h45;obtain⟨Iw,l46,rfl,h47⟩:=bQ YR
 obtain⟨Ix,l47,rfl,kI⟩:=bQ h47;obtain⟨Iy,l48,rfl,p6⟩:=bQ kI;obtain⟨Iz,l49,rfl,YN⟩:=bQ p6;obtain⟨IA,l50,rfl,h51⟩:=bQ YN;obtain⟨IB,l51,rfl,h52⟩:=bQ h51;obtain⟨IC,l52,rfl,h53⟩:=bQ h52;obtain⟨ID,l53,rfl,h54⟩:=bQ h53;obtain⟨IE,l54,rfl,h55⟩:=bQ h54;obtain⟨IF,l55,rfl,h56⟩:=bQ h55;obtain⟨IG,l56,rfl,h57⟩:=bQ h56;obtain⟨II,l57,rfl,h58⟩:=bQ h57;obtain⟨IJ,l58,rfl,h59⟩:=bQ h58;obtain⟨IK,l59,rfl,h60⟩:=bQ h59;obtain⟨IL,l60,rfl,h61⟩:=bQ h60;obtain⟨IM,l61,rfl,RX⟩:=bQ h61;obtain⟨IN,l62,rfl,h63⟩:=bQ RX;obtain⟨IP,l63,rfl,R1⟩:=bQ h63;obtain⟨IQ,l64,rfl,h65⟩:=bQ R1;obtain⟨IR,l65,rfl,h66⟩:=bQ h65;obtain⟨IS,l66,rfl,h67⟩:=bQ h66;obtain⟨IT,l67,rfl,h68⟩:=bQ h67;obtain⟨IU,l68,rfl,YM⟩:=bQ h68;cases List.eq_nil_of_length_eq_zero YM
 exact⟨x0,x1,x2,x3,x4,x5,x6,x7,x8,x9,x10,x11,x12,x13,x14,x15,x16,HW,HX,HY,HZ,H4,H5,H6,H7,H8,H9,Ia,Ib,Ic,Ie,Ig,Ih,Ii,Ij,Ik,Il,Im,Io,Ip,Iq,Ir,Is,It,Iu,Iv,Iw,Ix,Iy,Iz,IA,IB,IC,ID,IE,IF,IG,II,IJ,IK,IL,IM,IN,IP,IQ,IR,IS,IT,IU,rfl⟩
noncomputable def C3:vA:=Tryz.f168.body.getD .skip
open VE (pE)
def anh(a:List ByteArray)(t:ByteArray):pE (a++[t])=pE a++t.data.toList:=by simp[pE]
def aps(a:List ByteArray):(pE a).length=(a.map (·.size)).sum:=by
 induction a with
 | nil=>rfl
 | cons t r ih=>
  show (t.data.toList++pE r).length=t.size+(r.map (·.size)).sum
  rw[yN,ih];rfl
def acu(l:List Nat)(k:Nat):(l.drop k).sum<=l.sum:=by
 induction l generalizing k with
 | nil=>simp
 | cons x l ih=>
  cases k with
  | zero=>simp
  | succ k=>have:=ih k;simp only[List.drop_succ_cons,ybX];omega
def QK:vA->vA
 | .seq a _=>a
 | .block _ a=>a
 | .loop a=>a
 | c=>c
def C4:vA->vA
 | .seq _ b=>b
 | c=>c
noncomputable def ahi:vA:=QK (QK (C4 (QK (C4 (C4 (VE.Bb 5 C3))))))
def QM(w0:yj)(ts:List ByteArray)(b o c:Nat)(ds:List yam)(pre:List UInt8)(k:Nat)(a:Act)(w:yj):Prop:=
 k<=ts.length/\a.tmps.size=69/\a.defers=ds/\a.tmps.getD 6 undef=.slice (some ⟨b,o,none⟩) ts.length c/\a.tmps.getD 10 undef=.pointer (some ⟨w0.heap.size,0,none⟩)/\a.tmps.getD 11 undef=.int .i64 ((k:Int)-1)/\
  Lib.IsBuilder 302 5 w0.heap.size w0.heap.size (Lib.byteCells (pre++pE (ts.drop k).reverse)) w/\Below w0.heap.size w0 w
def WW(a:Act):Nat:=match a.tmps.getD 11 undef with
 | .int _ z=>(z+1).toNat
 | _=>0
set_option maxHeartbeats 4000000 in
def acv{Q:Exit->Act->yj->Prop}{w0:yj}{ts:List ByteArray}{b o c:Nat}{ds:List yam}{pre:List UInt8}(hc:∀i (h:i<ts.length),w0.cell? ⟨b,o+i,none⟩=some (.string ts[i]))(eM:pre.length<=1)(hl:(ts.map (·.size)).sum+1<=140737488355328)(hn:ts.length<=c)(dQ:ts.length<9223372036854775808)(hQ:∀a w,QM w0 ts b o c ds pre 0 a w->Q (.exit 2) a w):∀a w,(∃k,QM w0 ts b o c ds pre k a w)->(Code.loop ahi).wpIn Fence.wide 0 Tryz.prog Q a w:=by
 intro a w h0;refine wpIn_loop (fun a w=>∃k,QM w0 ts b o c ds pre k a w) (fun a _=>WW a) h0 ?_;rintro a w ⟨k,hk,eG,rfl,h6,iM,Dx,Fw,AA⟩;have hm:WW a=k:=by
  unfold WW;rw[Dx];simp
 simp only[hm];simp only[ahi,C3,Tryz.f168,wX,VE.Bb,QK,C4];obtain⟨⟨l⟩,ds⟩:=a;obtain⟨x0,x1,x2,x3,x4,x5,x6,x7,x8,x9,x10,x11,x12,x13,x14,x15,x16,HW,HX,HY,HZ,H4,H5,H6,H7,H8,H9,Ia,Ib,Ic,Ie,Ig,Ih,Ii,Ij,Ik,Il,Im,Io,Ip,Iq,Ir,Is,It,Iu,Iv,Iw,Ix,Iy,Iz,IA,IB,IC,ID,IE,IF,IG,II,IJ,IK,IL,IM,IN,IP,IQ,IR,IS,IT,IU,rfl⟩:=UT (l:=l) eG;have e6:x6=.slice (some ⟨b,o,none⟩) ts.length c:=h6;have oJ:x10=.pointer (some ⟨w0.heap.size,0,none⟩):=iM;have AB:x11=.int .i64 ((k:Int)-1):=Dx;clear h6 iM Dx hm eG;subst e6;subst oJ;subst AB
 cases k with
 | zero=>
  gi_wp2
  exact⟨Nat.zero_le _,rfl,rfl,rfl,rfl,rfl,Fw,AA⟩
 | succ k=>
  have hi:k<ts.length:=hk;have Et:=hc k hi;have aEB:w.cell? ⟨b,o+k,none⟩=some (.string ts[k]):=(AA.cell (World.block_lt_of_cell? _ _ Et)).trans Et;have e1:((k+1:Nat):Int)-1=(k:Int):=by omega
  rw[e1]
  gi_wp2
  refine⟨trivial,rfl,callsIn_wide.2 ((Tryz.Builder_WriteString _ _ _ ts[k] w Fw ?_ AA.size).mono ?_)⟩
  .have h1:=aps (ts.drop (k+1)).reverse;have h2:=acu (ts.map (·.size)) (k+1);have h3:(ts.map (·.size)).drop k=ts[k].size::(ts.map (·.size)).drop (k+1):=by
    rw[yZ (by simpa using hi)];simp
   have h4:=acu (ts.map (·.size)) k;rw[h3,ybX] at h4;rw[Lib.byteCells_length,yN,h1,List.map_reverse,List.sum_reverse,List.map_drop];omega
  .rintro e w' ⟨rfl,bG,LI⟩;have hd:pre++pE (ts.drop k).reverse=pre++pE (ts.drop (k+1)).reverse++ts[k].data.toList:=by
    rw[yZ hi,List.reverse_cons,anh,List.append_assoc]
   rw[Lib.strCells_eq,<-Lib.byteCells_append,<-hd] at bG;have hw:wrap64 ((k:Int)-1)=(k:Int)-1:=by unfold wrap64;omega
   simp only
   gi_wp2
   refine⟨⟨k,by omega,rfl,rfl,rfl,rfl,rfl,.inr bG,AA.trans LI⟩,?_⟩;show ((k:Int)-1+1).toNat<k+1
   omega
set_option maxHeartbeats 4000000 in
def apt{Q:Exit->Act->yj->Prop}(a:Act)(w:yj)(neg:Bool)(ts:List ByteArray)(b o c:Nat)(eG:a.tmps.size=69)(h3:a.tmps.getD 3 undef=.bool neg)(h6:a.tmps.getD 6 undef=.slice (some ⟨b,o,none⟩) ts.length c)(hc:∀i (h:i<ts.length),w.cell? ⟨b,o+i,none⟩=some (.string ts[i]))(hl:(ts.map (·.size)).sum+1<=140737488355328)(hn:ts.length<=c)(dQ:ts.length<9223372036854775808)(hQ:∀a' w',VE.Calm w w'->a'.tmps.size=69->a'.defers=a.defers->a'.tmps.getD 2 undef=.string ⟨((if neg then [45] else [])++pE ts.reverse).toArray⟩->Q .ret a' w'):
  (VE.Bb 5 C3).wpIn Fence.wide 0 Tryz.prog Q a w:=by
 simp only[C3,Tryz.f168,wX,VE.Bb];obtain⟨⟨l⟩,ds⟩:=a;obtain⟨x0,x1,x2,x3,x4,x5,x6,x7,x8,x9,x10,x11,x12,x13,x14,x15,x16,HW,HX,HY,HZ,H4,H5,H6,H7,H8,H9,Ia,Ib,Ic,Ie,Ig,Ih,Ii,Ij,Ik,Il,Im,Io,Ip,Iq,Ir,Is,It,Iu,Iv,Iw,Ix,Iy,Iz,IA,IB,IC,ID,IE,IF,IG,II,IJ,IK,IL,IM,IN,IP,IQ,IR,IS,IT,IU,rfl⟩:=UT (l:=l) eG;have e3:x3=.bool neg:=h3;have e6:x6=.slice (some ⟨b,o,none⟩) ts.length c:=h6;clear h3 h6 eG;subst e3;subst e6;have hw:wrap64 ((ts.length:Int)-1)=(ts.length:Int)-1:=by unfold wrap64;omega
 obtain⟨pre,hp⟩:∃pre:List UInt8,(if neg then [45] else [])=pre:=⟨_,rfl⟩;rw[hp] at hQ;have fin:∀(a:Act) (w':yj) (K:Act->yj->Prop),QM w ts b o c ds pre 0 a w'->
   (∀(a:Act) (w:yj),Code.wpIn Fence.wide 0 Tryz.prog (C4 (C4 (C4 (VE.Bb 5 C3)))) Q a w->K a w)->K a w':=by
  rintro a w' K ⟨_,eG,rfl,h6,iM,Dx,Fw,AA⟩ hK;clear hp;refine hK _ _ ?_;simp only[C3,Tryz.f168,wX,VE.Bb,C4];obtain⟨⟨l⟩,ds⟩:=a;obtain⟨x0,x1,x2,x3,x4,x5,x6,x7,x8,x9,x10,x11,x12,x13,x14,x15,x16,HW,HX,HY,HZ,H4,H5,H6,H7,H8,H9,Ia,Ib,Ic,Ie,Ig,Ih,Ii,Ij,Ik,Il,Im,Io,Ip,Iq,Ir,Is,It,Iu,Iv,Iw,Ix,Iy,Iz,IA,IB,IC,ID,IE,IF,IG,II,IJ,IK,IL,IM,IN,IP,IQ,IR,IS,IT,IU,rfl⟩:=UT (l:=l) eG;have oJ:x10=.pointer (some ⟨w.heap.size,0,none⟩):=iM;subst oJ
  gi_wp2
  refine⟨trivial,rfl,callsIn_wide.2 ((Tryz.Builder_String_any _ _ _ _ Fw AA.size).mono ?_)⟩;rintro e w2 ⟨rfl,LI⟩;simp only
  gi_wp2
  exact hQ _ _ (VE.Ja (AA.trans LI)) rfl rfl rfl
 cases neg with
 | false=>
  cases hp
  gi_wp2
  refine acv (pre:=[]) hc (by simp) hl hn dQ (fun a w' hI=>?_) _ _ ⟨ts.length,yu _,rfl,rfl,rfl,rfl,?_,?_,?_⟩
  .simp only [Exit.inBlock,Exit.then];exact fin a w' _ hI (by assumption)
  .rfl
  .rw [yby];exact Lib.fresh_isBuilder _ _ w
  .exact (Below.refl _ w).alloc (yu _) _
 | true=>
  cases hp
  gi_wp2
  refine⟨trivial,rfl,callsIn_wide.2 ((Tryz.Builder_WriteString _ _ [] _ _ (Lib.fresh_isBuilder _ _ w) (by decide) (by simp)).mono ?_)⟩;rintro e w' ⟨rfl,bG,LI⟩;simp only
  gi_wp2
  refine acv (pre:=[45]) hc (by simp) hl hn dQ (fun a w' hI=>?_) _ _ ⟨ts.length,yu _,rfl,rfl,rfl,rfl,?_,?_,?_⟩
  .simp only [Exit.inBlock,Exit.then];exact fin a w' _ hI (by assumption)
  .rfl
  .rw [yby];exact .inr bG
  .exact ((Below.refl _ w).alloc (yu _) _).trans LI
def apu:VE.Us Tryz.prog C3:=fun _ a w neg ts b o c h1 h2 h3 h4 h5 h6 h7 h8=>apt a w neg ts b o c h1 h2 h3 h4 h5 h6 h7 h8
end Go.Proofs
