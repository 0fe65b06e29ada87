import Derived.TacticsIn
import Derived.LoopNIn
import Derived.OwnWalk
import Derived.WalkKit
import Derived.Test.YtjemkccfpkgopaaGreatDoorWae
import Derived.Test.YtjemkccfpkgopaaGreatDoorWaq
import Derived.Test.YtjemkccfpkgopaaGreatDoorWad
set_option linter.all false
set_option maxRecDepth 100000
open Go renaming Code→wY,Deferred→tx,World→yi
open List renaming drop_eq_getElem_cons→yP,drop_length→uQ,length_append→yG,sum_cons→ybk
open Nat renaming le_refl→yu
open Option renaming getD_some→ue
namespace Go.Proofs
open Go.Shelf
open Go.RowKit
def bW {α:Type} {l:List α} {n:Nat} (h:l.length=n+1):∃x r,l=x::r/\r.length=n:=by
 cases l with
 | nil=>simp at h
 | cons x r=>exact ⟨x,r,rfl,by simpa using h⟩
def Td {α:Type} {l:List α} (h0:l.length=69):∃x0 x1 x2 x3 x4 x5 x6 x7 x8 x9 Cd D6 GM GN GO GP GQ GR GS GU GV GW GX GY GZ G0 G1 G2 G3 G4 G5 G6 G7 G8 G9 Ha Hb Hc Hd He Hf Hg Hh Hi Hj Hk Hl Hm Hn Ho Hr Hs Ht Hu Hv Hw Hx Hy Hz HA HB HC HE HF HG HH HI HJ HK,l=[x0,x1,x2,x3,x4,x5,x6,x7,x8,x9,Cd,D6,GM,GN,GO,GP,GQ,GR,GS,GU,GV,GW,GX,GY,GZ,G0,G1,G2,G3,G4,G5,G6,G7,G8,G9,Ha,Hb,Hc,Hd,He,Hf,Hg,Hh,Hi,Hj,Hk,Hl,Hm,Hn,Ho,Hr,Hs,Ht,Hu,Hv,Hw,Hx,Hy,Hz,HA,HB,HC,HE,HF,HG,HH,HI,HJ,HK]:=by
 obtain ⟨x0,l0,rfl,h1⟩:=bW h0;obtain ⟨x1,l1,rfl,h2⟩:=bW h1;obtain ⟨x2,l2,rfl,h3⟩:=bW h2;obtain ⟨x3,l3,rfl,h4⟩:=bW h3;obtain ⟨x4,l4,rfl,h5⟩:=bW h4;obtain ⟨x5,l5,rfl,h6⟩:=bW h5;obtain ⟨x6,l6,rfl,h7⟩:=bW h6;obtain ⟨x7,l7,rfl,h8⟩:=bW h7;obtain ⟨x8,l8,rfl,h9⟩:=bW h8;obtain ⟨x9,l9,rfl,iO⟩:=bW h9;obtain ⟨Cd,l10,rfl,HL⟩:=bW iO;obtain ⟨D6,l11,rfl,h12⟩:=bW HL;obtain ⟨GM,l12,rfl,h13⟩:=bW h12;obtain ⟨GN,l13,rfl,h14⟩:=bW h13;obtain ⟨GO,l14,rfl,h15⟩:=bW h14;obtain ⟨GP,l15,rfl,h16⟩:=bW h15;obtain ⟨GQ,l16,rfl,h17⟩:=bW h16;obtain ⟨GR,l17,rfl,h18⟩:=bW h17;obtain ⟨GS,l18,rfl,h19⟩:=bW h18;obtain ⟨GU,l19,rfl,nE⟩:=bW h19;obtain ⟨GV,l20,rfl,h21⟩:=bW nE;obtain ⟨GW,l21,rfl,h22⟩:=bW h21;obtain ⟨GX,l22,rfl,h23⟩:=bW h22;obtain ⟨GY,l23,rfl,h24⟩:=bW h23
 obtain ⟨GZ,l24,rfl,h25⟩:=bW h24;obtain ⟨G0,l25,rfl,h26⟩:=bW h25;obtain ⟨G1,l26,rfl,h27⟩:=bW h26;obtain ⟨G2,l27,rfl,h28⟩:=bW h27;obtain ⟨G3,l28,rfl,Lo⟩:=bW h28;obtain ⟨G4,l29,rfl,h30⟩:=bW Lo;obtain ⟨G5,l30,rfl,h31⟩:=bW h30;obtain ⟨G6,l31,rfl,h32⟩:=bW h31;obtain ⟨G7,l32,rfl,h33⟩:=bW h32;obtain ⟨G8,l33,rfl,h34⟩:=bW h33;obtain ⟨G9,l34,rfl,h35⟩:=bW h34;obtain ⟨Ha,l35,rfl,h36⟩:=bW h35;obtain ⟨Hb,l36,rfl,h37⟩:=bW h36;obtain ⟨Hc,l37,rfl,h38⟩:=bW h37;obtain ⟨Hd,l38,rfl,h39⟩:=bW h38;obtain ⟨He,l39,rfl,h40⟩:=bW h39;obtain ⟨Hf,l40,rfl,h41⟩:=bW h40;obtain ⟨Hg,l41,rfl,h42⟩:=bW h41;obtain ⟨Hh,l42,rfl,h43⟩:=bW h42;obtain ⟨Hi,l43,rfl,h44⟩:=bW h43;obtain ⟨Hj,l44,rfl,h45⟩:=bW h44;obtain ⟨Hk,l45,rfl,h46⟩:=bW h45;obtain ⟨Hl,l46,rfl,h47⟩:=bW h46
 obtain ⟨Hm,l47,rfl,jE⟩:=bW h47;obtain ⟨Hn,l48,rfl,oO⟩:=bW jE;obtain ⟨Ho,l49,rfl,h50⟩:=bW oO;obtain ⟨Hr,l50,rfl,h51⟩:=bW h50;obtain ⟨Hs,l51,rfl,h52⟩:=bW h51;obtain ⟨Ht,l52,rfl,h53⟩:=bW h52;obtain ⟨Hu,l53,rfl,h54⟩:=bW h53;obtain ⟨Hv,l54,rfl,h55⟩:=bW h54;obtain ⟨Hw,l55,rfl,h56⟩:=bW h55;obtain ⟨Hx,l56,rfl,h57⟩:=bW h56;obtain ⟨Hy,l57,rfl,h58⟩:=bW h57;obtain ⟨Hz,l58,rfl,h59⟩:=bW h58;obtain ⟨HA,l59,rfl,h60⟩:=bW h59;obtain ⟨HB,l60,rfl,h61⟩:=bW h60;obtain ⟨HC,l61,rfl,Qo⟩:=bW h61;obtain ⟨HE,l62,rfl,h63⟩:=bW Qo;obtain ⟨HF,l63,rfl,D7⟩:=bW h63;obtain ⟨HG,l64,rfl,h65⟩:=bW D7;obtain ⟨HH,l65,rfl,h66⟩:=bW h65;obtain ⟨HI,l66,rfl,h67⟩:=bW h66;obtain ⟨HJ,l67,rfl,h68⟩:=bW h67;obtain ⟨HK,l68,rfl,h69⟩:=bW h68;cases List.eq_nil_of_length_eq_zero h69
 exact ⟨x0,x1,x2,x3,x4,x5,x6,x7,x8,x9,Cd,D6,GM,GN,GO,GP,GQ,GR,GS,GU,GV,GW,GX,GY,GZ,G0,G1,G2,G3,G4,G5,G6,G7,G8,G9,Ha,Hb,Hc,Hd,He,Hf,Hg,Hh,Hi,Hj,Hk,Hl,Hm,Hn,Ho,Hr,Hs,Ht,Hu,Hv,Hw,Hx,Hy,Hz,HA,HB,HC,HE,HF,HG,HH,HI,HJ,HK,rfl⟩
noncomputable def BH:wY:=Tryz.f172.body.getD .skip
open VE (ow)
def aqY (a:List ByteArray) (t:ByteArray):ow (a++[t])=ow a++t.data.toList:=by simp [ow]
def as6 (a:List ByteArray):(ow a).length=(a.map (·.size)).sum:=by
 induction a with
 | nil=>rfl
 | cons t r ih=>
  show (t.data.toList++ow r).length=t.size+(r.map (·.size)).sum
  rw [yG,ih];rfl
def ad2 (l:List Nat) (k:Nat):(l.drop k).sum<=l.sum:=by
 induction l generalizing k with
 | nil=>simp
 | cons x l ih=>
  cases k with
  | zero=>simp
  | succ k=>have:=ih k;simp only [List.drop_succ_cons,ybk];omega
def Pw:wY->wY
 | .seq a _=>a
 | .block _ a=>a
 | .loop a=>a
 | c=>c
def BI:wY->wY
 | .seq _ b=>b
 | c=>c
noncomputable def als:wY:=Pw (Pw (BI (Pw (BI (BI (VE.zN 5 BH))))))
def Px (w0:yi) (ts:List ByteArray) (b o c:Nat) (ds:List tx) (pre:List UInt8) (k:Nat) (a:Act) (w:yi):Prop:=
 k<=ts.length/\a.tmps.size=69/\a.defers=ds/\a.tmps.getD 6 undef= .slice (some ⟨b,o,none⟩) ts.length c/\a.tmps.getD 10 undef= .pointer (some ⟨w0.heap.size,0,none⟩)/\a.tmps.getD 11 undef= .int .i64 ((k:Int)-1)/\
  Lib.IsBuilder 226 5 w0.heap.size w0.heap.size (Lib.byteCells (pre++ow (ts.drop k).reverse)) w/\Below w0.heap.size w0 w
def Y1 (a:Act):Nat:=match a.tmps.getD 11 undef with
 | .int _ z=>(z+1).toNat
 | _=>0
set_option maxHeartbeats 4000000 in
def ad3 {Q:Exit->Act->yi->Prop} {w0:yi} {ts:List ByteArray} {b o c:Nat} {ds:List tx} {pre:List UInt8} (hc:∀i (h:i<ts.length),w0.cell? ⟨b,o+i,none⟩=some (.string ts[i])) (fe:pre.length<=1)
  (hl:(ts.map (·.size)).sum+1<=140737488355328) (hn:ts.length<=c) (dQ:ts.length<9223372036854775808) (hQ:∀a w,Px w0 ts b o c ds pre 0 a w->Q (.exit 2) a w):∀a w,(∃k,Px w0 ts b o c ds pre k a w)->(Code.loop als).wpIn Fence.wide 0 Tryz.prog Q a w:=by
 intro a w h0;refine wpIn_loop (fun a w=>∃k,Px w0 ts b o c ds pre k a w) (fun a _=>Y1 a) h0 ?_;rintro a w ⟨k,hk,eT,rfl,h6,iO,HL,D8,D9⟩;have hm:Y1 a=k:=by
  unfold Y1;rw [HL];simp
 simp only [hm];simp only [als,BH,Tryz.f172,ue,VE.zN,Pw,BI];obtain ⟨⟨l⟩,ds⟩:=a;obtain ⟨x0,x1,x2,x3,x4,x5,x6,x7,x8,x9,Cd,D6,GM,GN,GO,GP,GQ,GR,GS,GU,GV,GW,GX,GY,GZ,G0,G1,G2,G3,G4,G5,G6,G7,G8,G9,Ha,Hb,Hc,Hd,He,Hf,Hg,Hh,Hi,Hj,Hk,Hl,Hm,Hn,Ho,Hr,Hs,Ht,Hu,Hv,Hw,Hx,Hy,Hz,HA,HB,HC,HE,HF,HG,HH,HI,HJ,HK,rfl⟩:=Td (l:=l) eT;have e6:x6= .slice (some ⟨b,o,none⟩) ts.length c:=h6;have e10:Cd= .pointer (some ⟨w0.heap.size,0,none⟩):=iO;have e11:D6= .int .i64 ((k:Int)-1):=HL;clear h6 iO HL hm eT;subst e6;subst e10;subst e11
 cases k with
 | zero=>
  gi_wp2
  exact ⟨Nat.zero_le _,rfl,rfl,rfl,rfl,rfl,D8,D9⟩
 | succ k=>
  have hi:k<ts.length:=hk;have zH:=hc k hi;have aIM:w.cell? ⟨b,o+k,none⟩=some (.string ts[k]):=(D9.cell (World.block_lt_of_cell? _ _ zH)).trans zH;have e1:((k+1:Nat):Int)-1=(k:Int):=by omega
  rw [e1]
  gi_wp2
  refine ⟨trivial,rfl,callsIn_wide.2 ((Tryz.Builder_WriteString _ _ _ ts[k] w D8 ?_ D9.size).mono ?_)⟩
  ·have h1:=as6 (ts.drop (k+1)).reverse;have h2:=ad2 (ts.map (·.size)) (k+1);have h3:(ts.map (·.size)).drop k=ts[k].size::(ts.map (·.size)).drop (k+1):=by
    rw [yP (by simpa using hi)];simp
   have h4:=ad2 (ts.map (·.size)) k;rw [h3,ybk] at h4;rw [Lib.byteCells_length,yG,h1,List.map_reverse,List.sum_reverse,List.map_drop];omega
  ·rintro e w' ⟨rfl,cw,Km⟩;have hd:pre++ow (ts.drop k).reverse=pre++ow (ts.drop (k+1)).reverse++ts[k].data.toList:=by
    rw [yP hi,List.reverse_cons,aqY,List.append_assoc]
   rw [Lib.strCells_eq,<-Lib.byteCells_append,<-hd] at cw;have hw:wrap64 ((k:Int)-1)=(k:Int)-1:=by unfold wrap64;omega
   simp only
   gi_wp2
   refine ⟨⟨k,by omega,rfl,rfl,rfl,rfl,rfl,.inr cw,D9.trans Km⟩,?_⟩;show ((k:Int)-1+1).toNat<k+1
   omega
set_option maxHeartbeats 4000000 in
def as7 {Q:Exit->Act->yi->Prop} (a:Act) (w:yi) (neg:Bool) (ts:List ByteArray) (b o c:Nat) (eT:a.tmps.size=69) (h3:a.tmps.getD 3 undef= .bool neg) (h6:a.tmps.getD 6 undef= .slice (some ⟨b,o,none⟩) ts.length c)
  (hc:∀i (h:i<ts.length),w.cell? ⟨b,o+i,none⟩=some (.string ts[i])) (hl:(ts.map (·.size)).sum+1<=140737488355328) (hn:ts.length<=c) (dQ:ts.length<9223372036854775808)
  (hQ:∀a' w',VE.Calm w w'->a'.tmps.size=69->a'.defers=a.defers->a'.tmps.getD 2 undef= .string ⟨((if neg then [45] else [])++ow ts.reverse).toArray⟩->Q .ret a' w'):
  (VE.zN 5 BH).wpIn Fence.wide 0 Tryz.prog Q a w:=by
 simp only [BH,Tryz.f172,ue,VE.zN];obtain ⟨⟨l⟩,ds⟩:=a;obtain ⟨x0,x1,x2,x3,x4,x5,x6,x7,x8,x9,Cd,D6,GM,GN,GO,GP,GQ,GR,GS,GU,GV,GW,GX,GY,GZ,G0,G1,G2,G3,G4,G5,G6,G7,G8,G9,Ha,Hb,Hc,Hd,He,Hf,Hg,Hh,Hi,Hj,Hk,Hl,Hm,Hn,Ho,Hr,Hs,Ht,Hu,Hv,Hw,Hx,Hy,Hz,HA,HB,HC,HE,HF,HG,HH,HI,HJ,HK,rfl⟩:=Td (l:=l) eT;have e3:x3= .bool neg:=h3;have e6:x6= .slice (some ⟨b,o,none⟩) ts.length c:=h6;clear h3 h6 eT;subst e3;subst e6;have hw:wrap64 ((ts.length:Int)-1)=(ts.length:Int)-1:=by unfold wrap64;omega
 obtain ⟨pre,hp⟩:∃pre:List UInt8,(if neg then [45] else [])=pre:=⟨_,rfl⟩;rw [hp] at hQ;have fin:∀(a:Act) (w':yi) (K:Act->yi->Prop),Px w ts b o c ds pre 0 a w'->
   (∀(a:Act) (w:yi),Code.wpIn Fence.wide 0 Tryz.prog (BI (BI (BI (VE.zN 5 BH)))) Q a w->K a w)->K a w':=by
  rintro a w' K ⟨_,eT,rfl,h6,iO,HL,D8,D9⟩ hK;clear hp;refine hK _ _ ?_;simp only [BH,Tryz.f172,ue,VE.zN,BI];obtain ⟨⟨l⟩,ds⟩:=a;obtain ⟨x0,x1,x2,x3,x4,x5,x6,x7,x8,x9,Cd,D6,GM,GN,GO,GP,GQ,GR,GS,GU,GV,GW,GX,GY,GZ,G0,G1,G2,G3,G4,G5,G6,G7,G8,G9,Ha,Hb,Hc,Hd,He,Hf,Hg,Hh,Hi,Hj,Hk,Hl,Hm,Hn,Ho,Hr,Hs,Ht,Hu,Hv,Hw,Hx,Hy,Hz,HA,HB,HC,HE,HF,HG,HH,HI,HJ,HK,rfl⟩:=Td (l:=l) eT;have e10:Cd= .pointer (some ⟨w.heap.size,0,none⟩):=iO;subst e10
  gi_wp2
  refine ⟨trivial,rfl,callsIn_wide.2 ((Tryz.Builder_String_any _ _ _ _ D8 D9.size).mono ?_)⟩;rintro e w2 ⟨rfl,Km⟩;simp only
  gi_wp2
  exact hQ _ _ (VE.HS (D9.trans Km)) rfl rfl rfl
 cases neg with
 | false=>
  cases hp
  gi_wp2
  refine ad3 (pre:=[]) hc (by simp) hl hn dQ (fun a w' hI=>?_) _ _ ⟨ts.length,yu _,rfl,rfl,rfl,rfl,?_,?_,?_⟩
  ·simp only [Exit.inBlock,Exit.then];exact fin a w' _ hI (by assumption)
  ·rfl
  ·rw [uQ];exact Lib.fresh_isBuilder _ _ w
  ·exact (Below.refl _ w).alloc (yu _) _
 | true=>
  cases hp
  gi_wp2
  refine ⟨trivial,rfl,callsIn_wide.2 ((Tryz.Builder_WriteString _ _ [] _ _ (Lib.fresh_isBuilder _ _ w) (by decide) (by simp)).mono ?_)⟩;rintro e w' ⟨rfl,cw,Km⟩;simp only
  gi_wp2
  refine ad3 (pre:=[45]) hc (by simp) hl hn dQ (fun a w' hI=>?_) _ _ ⟨ts.length,yu _,rfl,rfl,rfl,rfl,?_,?_,?_⟩
  ·simp only [Exit.inBlock,Exit.then];exact fin a w' _ hI (by assumption)
  ·rfl
  ·rw [uQ];exact .inr cw
  ·exact ((Below.refl _ w).alloc (yu _) _).trans Km
def as8:VE.Sz Tryz.prog BH:=fun _ a w neg ts b o c h1 h2 h3 h4 h5 h6 h7 h8=>as7 a w neg ts b o c h1 h2 h3 h4 h5 h6 h7 h8
end Go.Proofs
