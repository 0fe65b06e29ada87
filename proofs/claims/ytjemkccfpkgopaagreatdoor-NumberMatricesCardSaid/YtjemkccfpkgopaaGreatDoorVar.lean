import Derived.TacticsIn
import Derived.LoopNIn
import Derived.OwnWalk
import Derived.WalkKit
import Derived.Test.YtjemkccfpkgopaaGreatDoorVae
import Derived.Test.YtjemkccfpkgopaaGreatDoorVaq
import Derived.Test.YtjemkccfpkgopaaGreatDoorVad
set_option linter.all false
set_option maxRecDepth 100000
open Go renaming Code→wU,Deferred→tu,World→yi
open List renaming drop_eq_getElem_cons→yS,drop_length→uO,length_append→yN,sum_cons→ybe
open Nat renaming le_refl→yv
open Option renaming getD_some→ux
namespace Go.Proofs
open Go.Shelf
open Go.RowKit
def bY {α:Type} {l:List α} {n:Nat} (h:l.length=n+1):∃x r,l=x::r/\r.length=n:=by
 cases l with
 | nil=>simp at h
 | cons x r=>exact ⟨x,r,rfl,by simpa using h⟩
def TA {α:Type} {l:List α} (h0:l.length=69):∃x0 x1 x2 x3 x4 x5 x6 x7 x8 x9 Cq Ei G4 G5 G6 G7 G8 G9 Ha Hb Hc Hd He Hf Hg Hh Hi Hj Hk Hl Hm Hn Ho Hr Hs Ht Hu Hv Hw Hx Hy Hz HA HB HC HE HF HG HH HI HJ HK HL HM HN HO HP HQ HR HS HT HU HV HW HX HY HZ H0 H4,l=[x0,x1,x2,x3,x4,x5,x6,x7,x8,x9,Cq,Ei,G4,G5,G6,G7,G8,G9,Ha,Hb,Hc,Hd,He,Hf,Hg,Hh,Hi,Hj,Hk,Hl,Hm,Hn,Ho,Hr,Hs,Ht,Hu,Hv,Hw,Hx,Hy,Hz,HA,HB,HC,HE,HF,HG,HH,HI,HJ,HK,HL,HM,HN,HO,HP,HQ,HR,HS,HT,HU,HV,HW,HX,HY,HZ,H0,H4]:=by
 obtain ⟨x0,l0,rfl,h1⟩:=bY h0;obtain ⟨x1,l1,rfl,h2⟩:=bY h1;obtain ⟨x2,l2,rfl,h3⟩:=bY h2;obtain ⟨x3,l3,rfl,h4⟩:=bY h3;obtain ⟨x4,l4,rfl,h5⟩:=bY h4;obtain ⟨x5,l5,rfl,h6⟩:=bY h5;obtain ⟨x6,l6,rfl,h7⟩:=bY h6;obtain ⟨x7,l7,rfl,h8⟩:=bY h7;obtain ⟨x8,l8,rfl,h9⟩:=bY h8;obtain ⟨x9,l9,rfl,iQ⟩:=bY h9;obtain ⟨Cq,l10,rfl,H5⟩:=bY iQ;obtain ⟨Ei,l11,rfl,h12⟩:=bY H5;obtain ⟨G4,l12,rfl,h13⟩:=bY h12;obtain ⟨G5,l13,rfl,h14⟩:=bY h13;obtain ⟨G6,l14,rfl,h15⟩:=bY h14;obtain ⟨G7,l15,rfl,h16⟩:=bY h15;obtain ⟨G8,l16,rfl,h17⟩:=bY h16;obtain ⟨G9,l17,rfl,h18⟩:=bY h17;obtain ⟨Ha,l18,rfl,h19⟩:=bY h18;obtain ⟨Hb,l19,rfl,nB⟩:=bY h19;obtain ⟨Hc,l20,rfl,h21⟩:=bY nB;obtain ⟨Hd,l21,rfl,h22⟩:=bY h21;obtain ⟨He,l22,rfl,h23⟩:=bY h22;obtain ⟨Hf,l23,rfl,h24⟩:=bY h23
 obtain ⟨Hg,l24,rfl,h25⟩:=bY h24;obtain ⟨Hh,l25,rfl,h26⟩:=bY h25;obtain ⟨Hi,l26,rfl,h27⟩:=bY h26;obtain ⟨Hj,l27,rfl,Cr⟩:=bY h27;obtain ⟨Hk,l28,rfl,Cs⟩:=bY Cr;obtain ⟨Hl,l29,rfl,h30⟩:=bY Cs;obtain ⟨Hm,l30,rfl,h31⟩:=bY h30;obtain ⟨Hn,l31,rfl,h32⟩:=bY h31;obtain ⟨Ho,l32,rfl,h33⟩:=bY h32;obtain ⟨Hr,l33,rfl,h34⟩:=bY h33;obtain ⟨Hs,l34,rfl,h35⟩:=bY h34;obtain ⟨Ht,l35,rfl,h36⟩:=bY h35;obtain ⟨Hu,l36,rfl,h37⟩:=bY h36;obtain ⟨Hv,l37,rfl,h38⟩:=bY h37;obtain ⟨Hw,l38,rfl,h39⟩:=bY h38;obtain ⟨Hx,l39,rfl,h40⟩:=bY h39;obtain ⟨Hy,l40,rfl,h41⟩:=bY h40;obtain ⟨Hz,l41,rfl,h42⟩:=bY h41;obtain ⟨HA,l42,rfl,h43⟩:=bY h42;obtain ⟨HB,l43,rfl,h44⟩:=bY h43;obtain ⟨HC,l44,rfl,h45⟩:=bY h44;obtain ⟨HE,l45,rfl,h46⟩:=bY h45;obtain ⟨HF,l46,rfl,h47⟩:=bY h46
 obtain ⟨HG,l47,rfl,jF⟩:=bY h47;obtain ⟨HH,l48,rfl,oM⟩:=bY jF;obtain ⟨HI,l49,rfl,h50⟩:=bY oM;obtain ⟨HJ,l50,rfl,h51⟩:=bY h50;obtain ⟨HK,l51,rfl,h52⟩:=bY h51;obtain ⟨HL,l52,rfl,h53⟩:=bY h52;obtain ⟨HM,l53,rfl,h54⟩:=bY h53;obtain ⟨HN,l54,rfl,h55⟩:=bY h54;obtain ⟨HO,l55,rfl,h56⟩:=bY h55;obtain ⟨HP,l56,rfl,h57⟩:=bY h56;obtain ⟨HQ,l57,rfl,h58⟩:=bY h57;obtain ⟨HR,l58,rfl,h59⟩:=bY h58;obtain ⟨HS,l59,rfl,h60⟩:=bY h59;obtain ⟨HT,l60,rfl,h61⟩:=bY h60;obtain ⟨HU,l61,rfl,QN⟩:=bY h61;obtain ⟨HV,l62,rfl,h63⟩:=bY QN;obtain ⟨HW,l63,rfl,Ej⟩:=bY h63;obtain ⟨HX,l64,rfl,h65⟩:=bY Ej;obtain ⟨HY,l65,rfl,h66⟩:=bY h65;obtain ⟨HZ,l66,rfl,h67⟩:=bY h66;obtain ⟨H0,l67,rfl,h68⟩:=bY h67;obtain ⟨H4,l68,rfl,h69⟩:=bY h68;cases List.eq_nil_of_length_eq_zero h69
 exact ⟨x0,x1,x2,x3,x4,x5,x6,x7,x8,x9,Cq,Ei,G4,G5,G6,G7,G8,G9,Ha,Hb,Hc,Hd,He,Hf,Hg,Hh,Hi,Hj,Hk,Hl,Hm,Hn,Ho,Hr,Hs,Ht,Hu,Hv,Hw,Hx,Hy,Hz,HA,HB,HC,HE,HF,HG,HH,HI,HJ,HK,HL,HM,HN,HO,HP,HQ,HR,HS,HT,HU,HV,HW,HX,HY,HZ,H0,H4,rfl⟩
noncomputable def BV:wU:=Tryz.f172.body.getD .skip
open VE (og)
def aq6 (a:List ByteArray) (t:ByteArray):og (a++[t])=og a++t.data.toList:=by simp [og]
def atb (a:List ByteArray):(og a).length=(a.map (·.size)).sum:=by
 induction a with
 | nil=>rfl
 | cons t r ih=>
  show (t.data.toList++og r).length=t.size+(r.map (·.size)).sum
  rw [yN,ih];rfl
def aef (l:List Nat) (k:Nat):(l.drop k).sum<=l.sum:=by
 induction l generalizing k with
 | nil=>simp
 | cons x l ih=>
  cases k with
  | zero=>simp
  | succ k=>have:=ih k;simp only [List.drop_succ_cons,ybe];omega
def PO:wU->wU
 | .seq a _=>a
 | .block _ a=>a
 | .loop a=>a
 | c=>c
def BW:wU->wU
 | .seq _ b=>b
 | c=>c
noncomputable def aly:wU:=PO (PO (BW (PO (BW (BW (VE.zW 5 BV))))))
def PP (w0:yi) (ts:List ByteArray) (b o c:Nat) (ds:List tu) (pre:List UInt8) (k:Nat) (a:Act) (w:yi):Prop:=
 k<=ts.length/\a.tmps.size=69/\a.defers=ds/\a.tmps.getD 6 undef= .slice (some ⟨b,o,none⟩) ts.length c/\a.tmps.getD 10 undef= .pointer (some ⟨w0.heap.size,0,none⟩)/\a.tmps.getD 11 undef= .int .i64 ((k:Int)-1)/\
  Lib.IsBuilder 226 5 w0.heap.size w0.heap.size (Lib.byteCells (pre++og (ts.drop k).reverse)) w/\Below w0.heap.size w0 w
def Zh (a:Act):Nat:=match a.tmps.getD 11 undef with
 | .int _ z=>(z+1).toNat
 | _=>0
set_option maxHeartbeats 4000000 in
def aeg {Q:Exit->Act->yi->Prop} {w0:yi} {ts:List ByteArray} {b o c:Nat} {ds:List tu} {pre:List UInt8} (hc:∀i (h:i<ts.length),w0.cell? ⟨b,o+i,none⟩=some (.string ts[i])) (fj:pre.length<=1)
  (hl:(ts.map (·.size)).sum+1<=140737488355328) (hn:ts.length<=c) (eB:ts.length<9223372036854775808) (hQ:∀a w,PP w0 ts b o c ds pre 0 a w->Q (.exit 2) a w):∀a w,(∃k,PP w0 ts b o c ds pre k a w)->(Code.loop aly).wpIn Fence.wide 0 Tryz.prog Q a w:=by
 intro a w h0;refine wpIn_loop (fun a w=>∃k,PP w0 ts b o c ds pre k a w) (fun a _=>Zh a) h0 ?_;rintro a w ⟨k,hk,eV,rfl,h6,iQ,H5,Ek,El⟩;have hm:Zh a=k:=by
  unfold Zh;rw [H5];simp
 simp only [hm];simp only [aly,BV,Tryz.f172,ux,VE.zW,PO,BW];obtain ⟨⟨l⟩,ds⟩:=a;obtain ⟨x0,x1,x2,x3,x4,x5,x6,x7,x8,x9,Cq,Ei,G4,G5,G6,G7,G8,G9,Ha,Hb,Hc,Hd,He,Hf,Hg,Hh,Hi,Hj,Hk,Hl,Hm,Hn,Ho,Hr,Hs,Ht,Hu,Hv,Hw,Hx,Hy,Hz,HA,HB,HC,HE,HF,HG,HH,HI,HJ,HK,HL,HM,HN,HO,HP,HQ,HR,HS,HT,HU,HV,HW,HX,HY,HZ,H0,H4,rfl⟩:=TA (l:=l) eV;have e6:x6= .slice (some ⟨b,o,none⟩) ts.length c:=h6;have e10:Cq= .pointer (some ⟨w0.heap.size,0,none⟩):=iQ;have e11:Ei= .int .i64 ((k:Int)-1):=H5;clear h6 iQ H5 hm eV;subst e6;subst e10;subst e11
 cases k with
 | zero=>
  gi_wp2
  exact ⟨Nat.zero_le _,rfl,rfl,rfl,rfl,rfl,Ek,El⟩
 | succ k=>
  have hi:k<ts.length:=hk;have zR:=hc k hi;have aII:w.cell? ⟨b,o+k,none⟩=some (.string ts[k]):=(El.cell (World.block_lt_of_cell? _ _ zR)).trans zR;have e1:((k+1:Nat):Int)-1=(k:Int):=by omega
  rw [e1]
  gi_wp2
  refine ⟨trivial,rfl,callsIn_wide.2 ((Tryz.Builder_WriteString _ _ _ ts[k] w Ek ?_ El.size).mono ?_)⟩
  ·have h1:=atb (ts.drop (k+1)).reverse;have h2:=aef (ts.map (·.size)) (k+1);have h3:(ts.map (·.size)).drop k=ts[k].size::(ts.map (·.size)).drop (k+1):=by
    rw [yS (by simpa using hi)];simp
   have h4:=aef (ts.map (·.size)) k;rw [h3,ybe] at h4;rw [Lib.byteCells_length,yN,h1,List.map_reverse,List.sum_reverse,List.map_drop];omega
  ·rintro e w' ⟨rfl,cK,KT⟩;have hd:pre++og (ts.drop k).reverse=pre++og (ts.drop (k+1)).reverse++ts[k].data.toList:=by
    rw [yS hi,List.reverse_cons,aq6,List.append_assoc]
   rw [Lib.strCells_eq,<-Lib.byteCells_append,<-hd] at cK;have hw:wrap64 ((k:Int)-1)=(k:Int)-1:=by unfold wrap64;omega
   simp only
   gi_wp2
   refine ⟨⟨k,by omega,rfl,rfl,rfl,rfl,rfl,.inr cK,El.trans KT⟩,?_⟩;show ((k:Int)-1+1).toNat<k+1
   omega
set_option maxHeartbeats 4000000 in
def atc {Q:Exit->Act->yi->Prop} (a:Act) (w:yi) (neg:Bool) (ts:List ByteArray) (b o c:Nat) (eV:a.tmps.size=69) (h3:a.tmps.getD 3 undef= .bool neg) (h6:a.tmps.getD 6 undef= .slice (some ⟨b,o,none⟩) ts.length c)
  (hc:∀i (h:i<ts.length),w.cell? ⟨b,o+i,none⟩=some (.string ts[i])) (hl:(ts.map (·.size)).sum+1<=140737488355328) (hn:ts.length<=c) (eB:ts.length<9223372036854775808)
  (hQ:∀a' w',VE.Calm w w'->a'.tmps.size=69->a'.defers=a.defers->a'.tmps.getD 2 undef= .string ⟨((if neg then [45] else [])++og ts.reverse).toArray⟩->Q .ret a' w'):
  (VE.zW 5 BV).wpIn Fence.wide 0 Tryz.prog Q a w:=by
 simp only [BV,Tryz.f172,ux,VE.zW];obtain ⟨⟨l⟩,ds⟩:=a;obtain ⟨x0,x1,x2,x3,x4,x5,x6,x7,x8,x9,Cq,Ei,G4,G5,G6,G7,G8,G9,Ha,Hb,Hc,Hd,He,Hf,Hg,Hh,Hi,Hj,Hk,Hl,Hm,Hn,Ho,Hr,Hs,Ht,Hu,Hv,Hw,Hx,Hy,Hz,HA,HB,HC,HE,HF,HG,HH,HI,HJ,HK,HL,HM,HN,HO,HP,HQ,HR,HS,HT,HU,HV,HW,HX,HY,HZ,H0,H4,rfl⟩:=TA (l:=l) eV;have e3:x3= .bool neg:=h3;have e6:x6= .slice (some ⟨b,o,none⟩) ts.length c:=h6;clear h3 h6 eV;subst e3;subst e6;have hw:wrap64 ((ts.length:Int)-1)=(ts.length:Int)-1:=by unfold wrap64;omega
 obtain ⟨pre,hp⟩:∃pre:List UInt8,(if neg then [45] else [])=pre:=⟨_,rfl⟩;rw [hp] at hQ;have fin:∀(a:Act) (w':yi) (K:Act->yi->Prop),PP w ts b o c ds pre 0 a w'->
   (∀(a:Act) (w:yi),Code.wpIn Fence.wide 0 Tryz.prog (BW (BW (BW (VE.zW 5 BV)))) Q a w->K a w)->K a w':=by
  rintro a w' K ⟨_,eV,rfl,h6,iQ,H5,Ek,El⟩ hK;clear hp;refine hK _ _ ?_;simp only [BV,Tryz.f172,ux,VE.zW,BW];obtain ⟨⟨l⟩,ds⟩:=a;obtain ⟨x0,x1,x2,x3,x4,x5,x6,x7,x8,x9,Cq,Ei,G4,G5,G6,G7,G8,G9,Ha,Hb,Hc,Hd,He,Hf,Hg,Hh,Hi,Hj,Hk,Hl,Hm,Hn,Ho,Hr,Hs,Ht,Hu,Hv,Hw,Hx,Hy,Hz,HA,HB,HC,HE,HF,HG,HH,HI,HJ,HK,HL,HM,HN,HO,HP,HQ,HR,HS,HT,HU,HV,HW,HX,HY,HZ,H0,H4,rfl⟩:=TA (l:=l) eV;have e10:Cq= .pointer (some ⟨w.heap.size,0,none⟩):=iQ;subst e10
  gi_wp2
  refine ⟨trivial,rfl,callsIn_wide.2 ((Tryz.Builder_String_any _ _ _ _ Ek El.size).mono ?_)⟩;rintro e w2 ⟨rfl,KT⟩;simp only
  gi_wp2
  exact hQ _ _ (VE.Ik (El.trans KT)) rfl rfl rfl
 cases neg with
 | false=>
  cases hp
  gi_wp2
  refine aeg (pre:=[]) hc (by simp) hl hn eB (fun a w' hI=>?_) _ _ ⟨ts.length,yv _,rfl,rfl,rfl,rfl,?_,?_,?_⟩
  ·simp only [Exit.inBlock,Exit.then];exact fin a w' _ hI (by assumption)
  ·rfl
  ·rw [uO];exact Lib.fresh_isBuilder _ _ w
  ·exact (Below.refl _ w).alloc (yv _) _
 | true=>
  cases hp
  gi_wp2
  refine ⟨trivial,rfl,callsIn_wide.2 ((Tryz.Builder_WriteString _ _ [] _ _ (Lib.fresh_isBuilder _ _ w) (by decide) (by simp)).mono ?_)⟩;rintro e w' ⟨rfl,cK,KT⟩;simp only
  gi_wp2
  refine aeg (pre:=[45]) hc (by simp) hl hn eB (fun a w' hI=>?_) _ _ ⟨ts.length,yv _,rfl,rfl,rfl,rfl,?_,?_,?_⟩
  ·simp only [Exit.inBlock,Exit.then];exact fin a w' _ hI (by assumption)
  ·rfl
  ·rw [uO];exact .inr cK
  ·exact ((Below.refl _ w).alloc (yv _) _).trans KT
def atd:VE.SW Tryz.prog BV:=fun _ a w neg ts b o c h1 h2 h3 h4 h5 h6 h7 h8=>atc a w neg ts b o c h1 h2 h3 h4 h5 h6 h7 h8
end Go.Proofs
