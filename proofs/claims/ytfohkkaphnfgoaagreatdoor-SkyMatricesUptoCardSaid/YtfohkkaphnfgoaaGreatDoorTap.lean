import Derived.TacticsIn
import Derived.LoopNIn
import Derived.OwnWalk
import Derived.WalkKit
import Derived.Test.YtfohkkaphnfgoaaGreatDoorTaf
import Derived.Test.YtfohkkaphnfgoaaGreatDoorTao
import Derived.Test.YtfohkkaphnfgoaaGreatDoorTae
set_option linter.all false
set_option maxRecDepth 100000
open Go renaming Code→wQ,Deferred→uV,World→yj
open List renaming drop_eq_getElem_cons→yN,drop_length→yam,length_append→yW,sum_cons→yaP
open Nat renaming le_refl→yr
open Option renaming getD_some→wU
namespace Go.Proofs
open Go.Shelf
open Go.RowKit
def bU {α:Type} {l:List α} {n:Nat} (h:l.length=n+1):∃x r,l=x::r/\r.length=n:=by
 cases l with
 | nil=>simp at h
 | cons x r=>exact ⟨x,r,rfl,by simpa using h⟩
def TD {α:Type} {l:List α} (h0:l.length=69):∃x0 x1 x2 x3 x4 x5 x6 x7 x8 x9 dN dO He Hf Hg Hh Hi Hj Hk Hl Hm Hn Ho Hr Hs Ht Hu Hv Hw Hx Hy Hz HA HB HC HE HF HG HH HI HJ HK HL HM HN HO HP HQ HR HS HT HU HV HW HX HY HZ H0 H4 H5 H6 H7 H8 H9 Ia Ib Ic Ie Ig,l=[x0,x1,x2,x3,x4,x5,x6,x7,x8,x9,dN,dO,He,Hf,Hg,Hh,Hi,Hj,Hk,Hl,Hm,Hn,Ho,Hr,Hs,Ht,Hu,Hv,Hw,Hx,Hy,Hz,HA,HB,HC,HE,HF,HG,HH,HI,HJ,HK,HL,HM,HN,HO,HP,HQ,HR,HS,HT,HU,HV,HW,HX,HY,HZ,H0,H4,H5,H6,H7,H8,H9,Ia,Ib,Ic,Ie,Ig]:=by
 obtain ⟨x0,l0,rfl,h1⟩:=bU h0;obtain ⟨x1,l1,rfl,h2⟩:=bU h1;obtain ⟨x2,l2,rfl,h3⟩:=bU h2;obtain ⟨x3,l3,rfl,h4⟩:=bU h3;obtain ⟨x4,l4,rfl,h5⟩:=bU h4;obtain ⟨x5,l5,rfl,h6⟩:=bU h5;obtain ⟨x6,l6,rfl,h7⟩:=bU h6;obtain ⟨x7,l7,rfl,h8⟩:=bU h7;obtain ⟨x8,l8,rfl,h9⟩:=bU h8;obtain ⟨x9,l9,rfl,iY⟩:=bU h9;obtain ⟨dN,l10,rfl,rK⟩:=bU iY;obtain ⟨dO,l11,rfl,h12⟩:=bU rK;obtain ⟨He,l12,rfl,Ev⟩:=bU h12;obtain ⟨Hf,l13,rfl,h14⟩:=bU Ev;obtain ⟨Hg,l14,rfl,h15⟩:=bU h14;obtain ⟨Hh,l15,rfl,h16⟩:=bU h15;obtain ⟨Hi,l16,rfl,h17⟩:=bU h16;obtain ⟨Hj,l17,rfl,h18⟩:=bU h17;obtain ⟨Hk,l18,rfl,h19⟩:=bU h18;obtain ⟨Hl,l19,rfl,mY⟩:=bU h19;obtain ⟨Hm,l20,rfl,h21⟩:=bU mY;obtain ⟨Hn,l21,rfl,h22⟩:=bU h21;obtain ⟨Ho,l22,rfl,h23⟩:=bU h22;obtain ⟨Hr,l23,rfl,h24⟩:=bU h23
 obtain ⟨Hs,l24,rfl,h25⟩:=bU h24;obtain ⟨Ht,l25,rfl,Ih⟩:=bU h25;obtain ⟨Hu,l26,rfl,h27⟩:=bU Ih;obtain ⟨Hv,l27,rfl,LZ⟩:=bU h27;obtain ⟨Hw,l28,rfl,L2⟩:=bU LZ;obtain ⟨Hx,l29,rfl,mX⟩:=bU L2;obtain ⟨Hy,l30,rfl,jV⟩:=bU mX;obtain ⟨Hz,l31,rfl,W3⟩:=bU jV;obtain ⟨HA,l32,rfl,oL⟩:=bU W3;obtain ⟨HB,l33,rfl,L3⟩:=bU oL;obtain ⟨HC,l34,rfl,h35⟩:=bU L3;obtain ⟨HE,l35,rfl,h36⟩:=bU h35;obtain ⟨HF,l36,rfl,Ii⟩:=bU h36;obtain ⟨HG,l37,rfl,h38⟩:=bU Ii;obtain ⟨HH,l38,rfl,h39⟩:=bU h38;obtain ⟨HI,l39,rfl,h40⟩:=bU h39;obtain ⟨HJ,l40,rfl,h41⟩:=bU h40;obtain ⟨HK,l41,rfl,Cf⟩:=bU h41;obtain ⟨HL,l42,rfl,h43⟩:=bU Cf;obtain ⟨HM,l43,rfl,h44⟩:=bU h43;obtain ⟨HN,l44,rfl,h45⟩:=bU h44;obtain ⟨HO,l45,rfl,Xr⟩:=bU h45;obtain ⟨HP,l46,rfl,h47⟩:=bU Xr
 obtain ⟨HQ,l47,rfl,jD⟩:=bU h47;obtain ⟨HR,l48,rfl,oQ⟩:=bU jD;obtain ⟨HS,l49,rfl,Xo⟩:=bU oQ;obtain ⟨HT,l50,rfl,Xu⟩:=bU Xo;obtain ⟨HU,l51,rfl,h52⟩:=bU Xu;obtain ⟨HV,l52,rfl,Xv⟩:=bU h52;obtain ⟨HW,l53,rfl,Xw⟩:=bU Xv;obtain ⟨HX,l54,rfl,L4⟩:=bU Xw;obtain ⟨HY,l55,rfl,h56⟩:=bU L4;obtain ⟨HZ,l56,rfl,h57⟩:=bU h56;obtain ⟨H0,l57,rfl,h58⟩:=bU h57;obtain ⟨H4,l58,rfl,h59⟩:=bU h58;obtain ⟨H5,l59,rfl,Xx⟩:=bU h59;obtain ⟨H6,l60,rfl,Xy⟩:=bU Xx;obtain ⟨H7,l61,rfl,QM⟩:=bU Xy;obtain ⟨H8,l62,rfl,PV⟩:=bU QM;obtain ⟨H9,l63,rfl,QP⟩:=bU PV;obtain ⟨Ia,l64,rfl,h65⟩:=bU QP;obtain ⟨Ib,l65,rfl,h66⟩:=bU h65;obtain ⟨Ic,l66,rfl,h67⟩:=bU h66;obtain ⟨Ie,l67,rfl,Xz⟩:=bU h67;obtain ⟨Ig,l68,rfl,Xn⟩:=bU Xz;cases List.eq_nil_of_length_eq_zero Xn
 exact ⟨x0,x1,x2,x3,x4,x5,x6,x7,x8,x9,dN,dO,He,Hf,Hg,Hh,Hi,Hj,Hk,Hl,Hm,Hn,Ho,Hr,Hs,Ht,Hu,Hv,Hw,Hx,Hy,Hz,HA,HB,HC,HE,HF,HG,HH,HI,HJ,HK,HL,HM,HN,HO,HP,HQ,HR,HS,HT,HU,HV,HW,HX,HY,HZ,H0,H4,H5,H6,H7,H8,H9,Ia,Ib,Ic,Ie,Ig,rfl⟩
noncomputable def BT:wQ:=Tryz.f142.body.getD .skip
open VE (oB)
def alv (a:List ByteArray) (t:ByteArray):oB (a++[t])=oB a++t.data.toList:=by simp [oB]
def anA (a:List ByteArray):(oB a).length=(a.map (·.size)).sum:=by
 induction a with
 | nil=>rfl
 | cons t r ih=>
  show (t.data.toList++oB r).length=t.size+(r.map (·.size)).sum
  rw [yW,ih];rfl
def aaO (l:List Nat) (k:Nat):(l.drop k).sum<=l.sum:=by
 induction l generalizing k with
 | nil=>simp
 | cons x l ih=>
  cases k with
  | zero=>simp
  | succ k=>have:=ih k;simp only [List.drop_succ_cons,yaP];omega
def PD:wQ->wQ
 | .seq a _=>a
 | .block _ a=>a
 | .loop a=>a
 | c=>c
def BU:wQ->wQ
 | .seq _ b=>b
 | c=>c
noncomputable def af7:wQ:=PD (PD (BU (PD (BU (BU (VE.zX 5 BT))))))
def PE (w0:yj) (ts:List ByteArray) (b o c:Nat) (ds:List uV) (pre:List UInt8) (k:Nat) (a:Act) (w:yj):Prop:=
 k<=ts.length/\a.tmps.size=69/\a.defers=ds/\a.tmps.getD 6 undef= .slice (some ⟨b,o,none⟩) ts.length c/\a.tmps.getD 10 undef= .pointer (some ⟨w0.heap.size,0,none⟩)/\a.tmps.getD 11 undef= .int .i64 ((k:Int)-1)/\
  Lib.IsBuilder 245 5 w0.heap.size w0.heap.size (Lib.byteCells (pre++oB (ts.drop k).reverse)) w/\Below w0.heap.size w0 w
def Vw (a:Act):Nat:=match a.tmps.getD 11 undef with
 | .int _ z=>(z+1).toNat
 | _=>0
set_option maxHeartbeats 4000000 in
def aaP {Q:Exit->Act->yj->Prop} {w0:yj} {ts:List ByteArray} {b o c:Nat} {ds:List uV} {pre:List UInt8} (hc:∀i (h:i<ts.length),w0.cell? ⟨b,o+i,none⟩=some (.string ts[i])) (fc:pre.length<=1)
  (hl:(ts.map (·.size)).sum+1<=140737488355328) (hn:ts.length<=c) (ew:ts.length<9223372036854775808) (hQ:∀a w,PE w0 ts b o c ds pre 0 a w->Q (.exit 2) a w):∀a w,(∃k,PE w0 ts b o c ds pre k a w)->(Code.loop af7).wpIn Fence.wide 0 Tryz.prog Q a w:=by
 intro a w h0;refine wpIn_loop (fun a w=>∃k,PE w0 ts b o c ds pre k a w) (fun a _=>Vw a) h0 ?_;rintro a w ⟨k,hk,eV,rfl,h6,iY,rK,Ew,Ey⟩;have hm:Vw a=k:=by
  unfold Vw;rw [rK];simp
 simp only [hm];simp only [af7,BT,Tryz.f142,wU,VE.zX,PD,BU];obtain ⟨⟨l⟩,ds⟩:=a;obtain ⟨x0,x1,x2,x3,x4,x5,x6,x7,x8,x9,dN,dO,He,Hf,Hg,Hh,Hi,Hj,Hk,Hl,Hm,Hn,Ho,Hr,Hs,Ht,Hu,Hv,Hw,Hx,Hy,Hz,HA,HB,HC,HE,HF,HG,HH,HI,HJ,HK,HL,HM,HN,HO,HP,HQ,HR,HS,HT,HU,HV,HW,HX,HY,HZ,H0,H4,H5,H6,H7,H8,H9,Ia,Ib,Ic,Ie,Ig,rfl⟩:=TD (l:=l) eV;have e6:x6= .slice (some ⟨b,o,none⟩) ts.length c:=h6;have AR:dN= .pointer (some ⟨w0.heap.size,0,none⟩):=iY;have e11:dO= .int .i64 ((k:Int)-1):=rK;clear h6 iY rK hm eV;subst e6;subst AR;subst e11
 cases k with
 | zero=>
  gi_wp2
  exact ⟨Nat.zero_le _,rfl,rfl,rfl,rfl,rfl,Ew,Ey⟩
 | succ k=>
  have hi:k<ts.length:=hk;have su:=hc k hi;have aA8:w.cell? ⟨b,o+k,none⟩=some (.string ts[k]):=(Ey.cell (World.block_lt_of_cell? _ _ su)).trans su;have e1:((k+1:Nat):Int)-1=(k:Int):=by omega
  rw [e1]
  gi_wp2
  refine ⟨trivial,rfl,callsIn_wide.2 ((Tryz.Builder_WriteString _ _ _ ts[k] w Ew ?_ Ey.size).mono ?_)⟩
  ·have h1:=anA (ts.drop (k+1)).reverse;have h2:=aaO (ts.map (·.size)) (k+1);have h3:(ts.map (·.size)).drop k=ts[k].size::(ts.map (·.size)).drop (k+1):=by
    rw [yN (by simpa using hi)];simp
   have h4:=aaO (ts.map (·.size)) k;rw [h3,yaP] at h4;rw [Lib.byteCells_length,yW,h1,List.map_reverse,List.sum_reverse,List.map_drop];omega
  ·rintro e w' ⟨rfl,cR,KL⟩;have hd:pre++oB (ts.drop k).reverse=pre++oB (ts.drop (k+1)).reverse++ts[k].data.toList:=by
    rw [yN hi,List.reverse_cons,alv,List.append_assoc]
   rw [Lib.strCells_eq,<-Lib.byteCells_append,<-hd] at cR;have hw:wrap64 ((k:Int)-1)=(k:Int)-1:=by unfold wrap64;omega
   simp only
   gi_wp2
   refine ⟨⟨k,by omega,rfl,rfl,rfl,rfl,rfl,.inr cR,Ey.trans KL⟩,?_⟩;show ((k:Int)-1+1).toNat<k+1
   omega
set_option maxHeartbeats 4000000 in
def anB {Q:Exit->Act->yj->Prop} (a:Act) (w:yj) (neg:Bool) (ts:List ByteArray) (b o c:Nat) (eV:a.tmps.size=69) (h3:a.tmps.getD 3 undef= .bool neg) (h6:a.tmps.getD 6 undef= .slice (some ⟨b,o,none⟩) ts.length c)
  (hc:∀i (h:i<ts.length),w.cell? ⟨b,o+i,none⟩=some (.string ts[i])) (hl:(ts.map (·.size)).sum+1<=140737488355328) (hn:ts.length<=c) (ew:ts.length<9223372036854775808)
  (hQ:∀a' w',VE.Calm w w'->a'.tmps.size=69->a'.defers=a.defers->a'.tmps.getD 2 undef= .string ⟨((if neg then [45] else [])++oB ts.reverse).toArray⟩->Q .ret a' w'):
  (VE.zX 5 BT).wpIn Fence.wide 0 Tryz.prog Q a w:=by
 simp only [BT,Tryz.f142,wU,VE.zX];obtain ⟨⟨l⟩,ds⟩:=a;obtain ⟨x0,x1,x2,x3,x4,x5,x6,x7,x8,x9,dN,dO,He,Hf,Hg,Hh,Hi,Hj,Hk,Hl,Hm,Hn,Ho,Hr,Hs,Ht,Hu,Hv,Hw,Hx,Hy,Hz,HA,HB,HC,HE,HF,HG,HH,HI,HJ,HK,HL,HM,HN,HO,HP,HQ,HR,HS,HT,HU,HV,HW,HX,HY,HZ,H0,H4,H5,H6,H7,H8,H9,Ia,Ib,Ic,Ie,Ig,rfl⟩:=TD (l:=l) eV;have e3:x3= .bool neg:=h3;have e6:x6= .slice (some ⟨b,o,none⟩) ts.length c:=h6;clear h3 h6 eV;subst e3;subst e6;have hw:wrap64 ((ts.length:Int)-1)=(ts.length:Int)-1:=by unfold wrap64;omega
 obtain ⟨pre,hp⟩:∃pre:List UInt8,(if neg then [45] else [])=pre:=⟨_,rfl⟩;rw [hp] at hQ;have fin:∀(a:Act) (w':yj) (K:Act->yj->Prop),PE w ts b o c ds pre 0 a w'->
   (∀(a:Act) (w:yj),Code.wpIn Fence.wide 0 Tryz.prog (BU (BU (BU (VE.zX 5 BT)))) Q a w->K a w)->K a w':=by
  rintro a w' K ⟨_,eV,rfl,h6,iY,rK,Ew,Ey⟩ hK;clear hp;refine hK _ _ ?_;simp only [BT,Tryz.f142,wU,VE.zX,BU];obtain ⟨⟨l⟩,ds⟩:=a;obtain ⟨x0,x1,x2,x3,x4,x5,x6,x7,x8,x9,dN,dO,He,Hf,Hg,Hh,Hi,Hj,Hk,Hl,Hm,Hn,Ho,Hr,Hs,Ht,Hu,Hv,Hw,Hx,Hy,Hz,HA,HB,HC,HE,HF,HG,HH,HI,HJ,HK,HL,HM,HN,HO,HP,HQ,HR,HS,HT,HU,HV,HW,HX,HY,HZ,H0,H4,H5,H6,H7,H8,H9,Ia,Ib,Ic,Ie,Ig,rfl⟩:=TD (l:=l) eV;have AR:dN= .pointer (some ⟨w.heap.size,0,none⟩):=iY;subst AR
  gi_wp2
  refine ⟨trivial,rfl,callsIn_wide.2 ((Tryz.Builder_String_any _ _ _ _ Ew Ey.size).mono ?_)⟩;rintro e w2 ⟨rfl,KL⟩;simp only
  gi_wp2
  exact hQ _ _ (VE.Iw (Ey.trans KL)) rfl rfl rfl
 cases neg with
 | false=>
  cases hp
  gi_wp2
  refine aaP (pre:=[]) hc (by simp) hl hn ew (fun a w' hI=>?_) _ _ ⟨ts.length,yr _,rfl,rfl,rfl,rfl,?_,?_,?_⟩
  ·simp only [Exit.inBlock,Exit.then];exact fin a w' _ hI (by assumption)
  ·rfl
  ·rw [yam];exact Lib.fresh_isBuilder _ _ w
  ·exact (Below.refl _ w).alloc (yr _) _
 | true=>
  cases hp
  gi_wp2
  refine ⟨trivial,rfl,callsIn_wide.2 ((Tryz.Builder_WriteString _ _ [] _ _ (Lib.fresh_isBuilder _ _ w) (by decide) (by simp)).mono ?_)⟩;rintro e w' ⟨rfl,cR,KL⟩;simp only
  gi_wp2
  refine aaP (pre:=[45]) hc (by simp) hl hn ew (fun a w' hI=>?_) _ _ ⟨ts.length,yr _,rfl,rfl,rfl,rfl,?_,?_,?_⟩
  ·simp only [Exit.inBlock,Exit.then];exact fin a w' _ hI (by assumption)
  ·rfl
  ·rw [yam];exact .inr cR
  ·exact ((Below.refl _ w).alloc (yr _) _).trans KL
def anC:VE.SX Tryz.prog BT:=fun _ a w neg ts b o c h1 h2 h3 h4 h5 h6 h7 h8=>anB a w neg ts b o c h1 h2 h3 h4 h5 h6 h7 h8
end Go.Proofs
