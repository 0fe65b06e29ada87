import Derived.TacticsIn
import Derived.LoopNIn
import Derived.OwnWalk
import Derived.WalkKit
import Derived.Test.YtpdlhopnhojpjaaGreatDoorTae
import Derived.Test.YtpdlhopnhojpjaaGreatDoorTal
import Derived.Test.YtpdlhopnhojpjaaGreatDoorTad
set_option linter.all false
set_option maxRecDepth 100000
open Go renaming Code→vn,Deferred→tJ,World→ym
open List renaming drop_eq_getElem_cons→yP,drop_length→ta,length_append→yG,sum_cons→ybv
open Nat renaming le_refl→yq
open Option renaming getD_some→uL
namespace Go.Proofs
open Go.Shelf
open Go.RowKit
def bW {α:Type} {l:List α} {n:Nat} (h:l.length=n+1):∃x r,l=x::r/\r.length=n:=by
 cases l with
 | nil=>simp at h
 | cons x r=>exact ⟨x,r,rfl,by simpa using h⟩
def Uz {α:Type} {l:List α} (h0:l.length=69):∃x0 x1 x2 x3 x4 x5 x6 x7 x8 x9 C2 EZ HN HO HP HQ HR HS HT HU HV HW HX HY HZ H0 H4 H5 H6 H7 H8 H9 Ia Ib Ic Ie Ig Ih Ii Ij Ik Il Im Io Ip Iq Ir Is It Iu Iv Iw Ix Iy Iz IA IB IC ID IE IF IG II IJ IK IL IM IN IP,l=[x0,x1,x2,x3,x4,x5,x6,x7,x8,x9,C2,EZ,HN,HO,HP,HQ,HR,HS,HT,HU,HV,HW,HX,HY,HZ,H0,H4,H5,H6,H7,H8,H9,Ia,Ib,Ic,Ie,Ig,Ih,Ii,Ij,Ik,Il,Im,Io,Ip,Iq,Ir,Is,It,Iu,Iv,Iw,Ix,Iy,Iz,IA,IB,IC,ID,IE,IF,IG,II,IJ,IK,IL,IM,IN,IP]:=by
 obtain ⟨x0,l0,rfl,h1⟩:=bW h0;obtain ⟨x1,l1,rfl,h2⟩:=bW h1;obtain ⟨x2,l2,rfl,h3⟩:=bW h2;obtain ⟨x3,l3,rfl,h4⟩:=bW h3;obtain ⟨x4,l4,rfl,h5⟩:=bW h4;obtain ⟨x5,l5,rfl,h6⟩:=bW h5;obtain ⟨x6,l6,rfl,h7⟩:=bW h6;obtain ⟨x7,l7,rfl,h8⟩:=bW h7;obtain ⟨x8,l8,rfl,h9⟩:=bW h8;obtain ⟨x9,l9,rfl,jl⟩:=bW h9;obtain ⟨C2,l10,rfl,C3⟩:=bW jl;obtain ⟨EZ,l11,rfl,h12⟩:=bW C3;obtain ⟨HN,l12,rfl,X2⟩:=bW h12;obtain ⟨HO,l13,rfl,h14⟩:=bW X2;obtain ⟨HP,l14,rfl,h15⟩:=bW h14;obtain ⟨HQ,l15,rfl,h16⟩:=bW h15;obtain ⟨HR,l16,rfl,h17⟩:=bW h16;obtain ⟨HS,l17,rfl,h18⟩:=bW h17;obtain ⟨HT,l18,rfl,h19⟩:=bW h18;obtain ⟨HU,l19,rfl,nK⟩:=bW h19;obtain ⟨HV,l20,rfl,h21⟩:=bW nK;obtain ⟨HW,l21,rfl,h22⟩:=bW h21;obtain ⟨HX,l22,rfl,h23⟩:=bW h22;obtain ⟨HY,l23,rfl,h24⟩:=bW h23
 obtain ⟨HZ,l24,rfl,h25⟩:=bW h24;obtain ⟨H0,l25,rfl,h26⟩:=bW h25;obtain ⟨H4,l26,rfl,MM⟩:=bW h26;obtain ⟨H5,l27,rfl,h28⟩:=bW MM;obtain ⟨H6,l28,rfl,MN⟩:=bW h28;obtain ⟨H7,l29,rfl,h30⟩:=bW MN;obtain ⟨H8,l30,rfl,zM⟩:=bW h30;obtain ⟨H9,l31,rfl,h32⟩:=bW zM;obtain ⟨Ia,l32,rfl,CR⟩:=bW h32;obtain ⟨Ib,l33,rfl,h34⟩:=bW CR;obtain ⟨Ic,l34,rfl,h35⟩:=bW h34;obtain ⟨Ie,l35,rfl,h36⟩:=bW h35;obtain ⟨Ig,l36,rfl,h37⟩:=bW h36;obtain ⟨Ih,l37,rfl,h38⟩:=bW h37;obtain ⟨Ii,l38,rfl,h39⟩:=bW h38;obtain ⟨Ij,l39,rfl,h40⟩:=bW h39;obtain ⟨Ik,l40,rfl,h41⟩:=bW h40;obtain ⟨Il,l41,rfl,Mu⟩:=bW h41;obtain ⟨Im,l42,rfl,h43⟩:=bW Mu;obtain ⟨Io,l43,rfl,h44⟩:=bW h43;obtain ⟨Ip,l44,rfl,h45⟩:=bW h44;obtain ⟨Iq,l45,rfl,XZ⟩:=bW h45;obtain ⟨Ir,l46,rfl,h47⟩:=bW XZ
 obtain ⟨Is,l47,rfl,jX⟩:=bW h47;obtain ⟨It,l48,rfl,pV⟩:=bW jX;obtain ⟨Iu,l49,rfl,XU⟩:=bW pV;obtain ⟨Iv,l50,rfl,h51⟩:=bW XU;obtain ⟨Iw,l51,rfl,h52⟩:=bW h51;obtain ⟨Ix,l52,rfl,h53⟩:=bW h52;obtain ⟨Iy,l53,rfl,h54⟩:=bW h53;obtain ⟨Iz,l54,rfl,h55⟩:=bW h54;obtain ⟨IA,l55,rfl,h56⟩:=bW h55;obtain ⟨IB,l56,rfl,h57⟩:=bW h56;obtain ⟨IC,l57,rfl,h58⟩:=bW h57;obtain ⟨ID,l58,rfl,h59⟩:=bW h58;obtain ⟨IE,l59,rfl,h60⟩:=bW h59;obtain ⟨IF,l60,rfl,E0⟩:=bW h60;obtain ⟨IG,l61,rfl,Rz⟩:=bW E0;obtain ⟨II,l62,rfl,W3⟩:=bW Rz;obtain ⟨IJ,l63,rfl,C4⟩:=bW W3;obtain ⟨IK,l64,rfl,h65⟩:=bW C4;obtain ⟨IL,l65,rfl,X3⟩:=bW h65;obtain ⟨IM,l66,rfl,h67⟩:=bW X3;obtain ⟨IN,l67,rfl,h68⟩:=bW h67;obtain ⟨IP,l68,rfl,XT⟩:=bW h68;cases List.eq_nil_of_length_eq_zero XT
 exact ⟨x0,x1,x2,x3,x4,x5,x6,x7,x8,x9,C2,EZ,HN,HO,HP,HQ,HR,HS,HT,HU,HV,HW,HX,HY,HZ,H0,H4,H5,H6,H7,H8,H9,Ia,Ib,Ic,Ie,Ig,Ih,Ii,Ij,Ik,Il,Im,Io,Ip,Iq,Ir,Is,It,Iu,Iv,Iw,Ix,Iy,Iz,IA,IB,IC,ID,IE,IF,IG,II,IJ,IK,IL,IM,IN,IP,rfl⟩
noncomputable def CA:vn:=Tryz.f188.body.getD .skip
open VE (pC)
def aor (a:List ByteArray) (t:ByteArray):pC (a++[t])=pC a++t.data.toList:=by simp [pC]
def aqz (a:List ByteArray):(pC a).length=(a.map (·.size)).sum:=by
 induction a with
 | nil=>rfl
 | cons t r ih=>
  show (t.data.toList++pC r).length=t.size+(r.map (·.size)).sum
  rw [yG,ih];rfl
def aby (l:List Nat) (k:Nat):(l.drop k).sum<=l.sum:=by
 induction l generalizing k with
 | nil=>simp
 | cons x l ih=>
  cases k with
  | zero=>simp
  | succ k=>have:=ih k;simp only [List.drop_succ_cons,ybv];omega
def Qq:vn->vn
 | .seq a _=>a
 | .block _ a=>a
 | .loop a=>a
 | c=>c
def CB:vn->vn
 | .seq _ b=>b
 | c=>c
noncomputable def aiy:vn:=Qq (Qq (CB (Qq (CB (CB (VE.AG 5 CA))))))
def Qr (w0:ym) (ts:List ByteArray) (b o c:Nat) (ds:List tJ) (pre:List UInt8) (k:Nat) (a:Act) (w:ym):Prop:=
 k<=ts.length/\a.tmps.size=69/\a.defers=ds/\a.tmps.getD 6 undef= .slice (some ⟨b,o,none⟩) ts.length c/\a.tmps.getD 10 undef= .pointer (some ⟨w0.heap.size,0,none⟩)/\a.tmps.getD 11 undef= .int .i64 ((k:Int)-1)/\
  Lib.IsBuilder 264 5 w0.heap.size w0.heap.size (Lib.byteCells (pre++pC (ts.drop k).reverse)) w/\Below w0.heap.size w0 w
def Wq (a:Act):Nat:=match a.tmps.getD 11 undef with
 | .int _ z=>(z+1).toNat
 | _=>0
set_option maxHeartbeats 4000000 in
def abz {Q:Exit->Act->ym->Prop} {w0:ym} {ts:List ByteArray} {b o c:Nat} {ds:List tJ} {pre:List UInt8} (hc:∀i (h:i<ts.length),w0.cell? ⟨b,o+i,none⟩=some (.string ts[i])) (fC:pre.length<=1)
  (hl:(ts.map (·.size)).sum+1<=140737488355328) (hn:ts.length<=c) (dE:ts.length<9223372036854775808) (hQ:∀a w,Qr w0 ts b o c ds pre 0 a w->Q (.exit 2) a w):∀a w,(∃k,Qr w0 ts b o c ds pre k a w)->(Code.loop aiy).wpIn Fence.wide 0 Tryz.prog Q a w:=by
 intro a w h0;refine wpIn_loop (fun a w=>∃k,Qr w0 ts b o c ds pre k a w) (fun a _=>Wq a) h0 ?_;rintro a w ⟨k,hk,fg,rfl,h6,jl,C3,E1,E2⟩;have hm:Wq a=k:=by
  unfold Wq;rw [C3];simp
 simp only [hm];simp only [aiy,CA,Tryz.f188,uL,VE.AG,Qq,CB];obtain ⟨⟨l⟩,ds⟩:=a;obtain ⟨x0,x1,x2,x3,x4,x5,x6,x7,x8,x9,C2,EZ,HN,HO,HP,HQ,HR,HS,HT,HU,HV,HW,HX,HY,HZ,H0,H4,H5,H6,H7,H8,H9,Ia,Ib,Ic,Ie,Ig,Ih,Ii,Ij,Ik,Il,Im,Io,Ip,Iq,Ir,Is,It,Iu,Iv,Iw,Ix,Iy,Iz,IA,IB,IC,ID,IE,IF,IG,II,IJ,IK,IL,IM,IN,IP,rfl⟩:=Uz (l:=l) fg;have e6:x6= .slice (some ⟨b,o,none⟩) ts.length c:=h6;have X4:C2= .pointer (some ⟨w0.heap.size,0,none⟩):=jl;have e11:EZ= .int .i64 ((k:Int)-1):=C3;clear h6 jl C3 hm fg;subst e6;subst X4;subst e11
 cases k with
 | zero=>
  gi_wp2
  exact ⟨Nat.zero_le _,rfl,rfl,rfl,rfl,rfl,E1,E2⟩
 | succ k=>
  have hi:k<ts.length:=hk;have D3:=hc k hi;have aEe:w.cell? ⟨b,o+k,none⟩=some (.string ts[k]):=(E2.cell (World.block_lt_of_cell? _ _ D3)).trans D3;have e1:((k+1:Nat):Int)-1=(k:Int):=by omega
  rw [e1]
  gi_wp2
  refine ⟨trivial,rfl,callsIn_wide.2 ((Tryz.Builder_WriteString _ _ _ ts[k] w E1 ?_ E2.size).mono ?_)⟩
  ·have h1:=aqz (ts.drop (k+1)).reverse;have h2:=aby (ts.map (·.size)) (k+1);have h3:(ts.map (·.size)).drop k=ts[k].size::(ts.map (·.size)).drop (k+1):=by
    rw [yP (by simpa using hi)];simp
   have h4:=aby (ts.map (·.size)) k;rw [h3,ybv] at h4;rw [Lib.byteCells_length,yG,h1,List.map_reverse,List.sum_reverse,List.map_drop];omega
  ·rintro e w' ⟨rfl,cA,LB⟩;have hd:pre++pC (ts.drop k).reverse=pre++pC (ts.drop (k+1)).reverse++ts[k].data.toList:=by
    rw [yP hi,List.reverse_cons,aor,List.append_assoc]
   rw [Lib.strCells_eq,<-Lib.byteCells_append,<-hd] at cA;have hw:wrap64 ((k:Int)-1)=(k:Int)-1:=by unfold wrap64;omega
   simp only
   gi_wp2
   refine ⟨⟨k,by omega,rfl,rfl,rfl,rfl,rfl,.inr cA,E2.trans LB⟩,?_⟩;show ((k:Int)-1+1).toNat<k+1
   omega
set_option maxHeartbeats 4000000 in
def aqA {Q:Exit->Act->ym->Prop} (a:Act) (w:ym) (neg:Bool) (ts:List ByteArray) (b o c:Nat) (fg:a.tmps.size=69) (h3:a.tmps.getD 3 undef= .bool neg) (h6:a.tmps.getD 6 undef= .slice (some ⟨b,o,none⟩) ts.length c)
  (hc:∀i (h:i<ts.length),w.cell? ⟨b,o+i,none⟩=some (.string ts[i])) (hl:(ts.map (·.size)).sum+1<=140737488355328) (hn:ts.length<=c) (dE:ts.length<9223372036854775808)
  (hQ:∀a' w',VE.Calm w w'->a'.tmps.size=69->a'.defers=a.defers->a'.tmps.getD 2 undef= .string ⟨((if neg then [45] else [])++pC ts.reverse).toArray⟩->Q .ret a' w'):
  (VE.AG 5 CA).wpIn Fence.wide 0 Tryz.prog Q a w:=by
 simp only [CA,Tryz.f188,uL,VE.AG];obtain ⟨⟨l⟩,ds⟩:=a;obtain ⟨x0,x1,x2,x3,x4,x5,x6,x7,x8,x9,C2,EZ,HN,HO,HP,HQ,HR,HS,HT,HU,HV,HW,HX,HY,HZ,H0,H4,H5,H6,H7,H8,H9,Ia,Ib,Ic,Ie,Ig,Ih,Ii,Ij,Ik,Il,Im,Io,Ip,Iq,Ir,Is,It,Iu,Iv,Iw,Ix,Iy,Iz,IA,IB,IC,ID,IE,IF,IG,II,IJ,IK,IL,IM,IN,IP,rfl⟩:=Uz (l:=l) fg;have e3:x3= .bool neg:=h3;have e6:x6= .slice (some ⟨b,o,none⟩) ts.length c:=h6;clear h3 h6 fg;subst e3;subst e6;have hw:wrap64 ((ts.length:Int)-1)=(ts.length:Int)-1:=by unfold wrap64;omega
 obtain ⟨pre,hp⟩:∃pre:List UInt8,(if neg then [45] else [])=pre:=⟨_,rfl⟩;rw [hp] at hQ;have fin:∀(a:Act) (w':ym) (K:Act->ym->Prop),Qr w ts b o c ds pre 0 a w'->
   (∀(a:Act) (w:ym),Code.wpIn Fence.wide 0 Tryz.prog (CB (CB (CB (VE.AG 5 CA)))) Q a w->K a w)->K a w':=by
  rintro a w' K ⟨_,fg,rfl,h6,jl,C3,E1,E2⟩ hK;clear hp;refine hK _ _ ?_;simp only [CA,Tryz.f188,uL,VE.AG,CB];obtain ⟨⟨l⟩,ds⟩:=a;obtain ⟨x0,x1,x2,x3,x4,x5,x6,x7,x8,x9,C2,EZ,HN,HO,HP,HQ,HR,HS,HT,HU,HV,HW,HX,HY,HZ,H0,H4,H5,H6,H7,H8,H9,Ia,Ib,Ic,Ie,Ig,Ih,Ii,Ij,Ik,Il,Im,Io,Ip,Iq,Ir,Is,It,Iu,Iv,Iw,Ix,Iy,Iz,IA,IB,IC,ID,IE,IF,IG,II,IJ,IK,IL,IM,IN,IP,rfl⟩:=Uz (l:=l) fg;have X4:C2= .pointer (some ⟨w.heap.size,0,none⟩):=jl;subst X4
  gi_wp2
  refine ⟨trivial,rfl,callsIn_wide.2 ((Tryz.Builder_String_any _ _ _ _ E1 E2.size).mono ?_)⟩;rintro e w2 ⟨rfl,LB⟩;simp only
  gi_wp2
  exact hQ _ _ (VE.IZ (E2.trans LB)) rfl rfl rfl
 cases neg with
 | false=>
  cases hp
  gi_wp2
  refine abz (pre:=[]) hc (by simp) hl hn dE (fun a w' hI=>?_) _ _ ⟨ts.length,yq _,rfl,rfl,rfl,rfl,?_,?_,?_⟩
  ·simp only [Exit.inBlock,Exit.then];exact fin a w' _ hI (by assumption)
  ·rfl
  ·rw [ta];exact Lib.fresh_isBuilder _ _ w
  ·exact (Below.refl _ w).alloc (yq _) _
 | true=>
  cases hp
  gi_wp2
  refine ⟨trivial,rfl,callsIn_wide.2 ((Tryz.Builder_WriteString _ _ [] _ _ (Lib.fresh_isBuilder _ _ w) (by decide) (by simp)).mono ?_)⟩;rintro e w' ⟨rfl,cA,LB⟩;simp only
  gi_wp2
  refine abz (pre:=[45]) hc (by simp) hl hn dE (fun a w' hI=>?_) _ _ ⟨ts.length,yq _,rfl,rfl,rfl,rfl,?_,?_,?_⟩
  ·simp only [Exit.inBlock,Exit.then];exact fin a w' _ hI (by assumption)
  ·rfl
  ·rw [ta];exact .inr cA
  ·exact ((Below.refl _ w).alloc (yq _) _).trans LB
def aqB:VE.TQ Tryz.prog CA:=fun _ a w neg ts b o c h1 h2 h3 h4 h5 h6 h7 h8=>aqA a w neg ts b o c h1 h2 h3 h4 h5 h6 h7 h8
end Go.Proofs
