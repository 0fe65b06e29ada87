import Derived.TacticsIn
import Derived.LoopNIn
import Derived.OwnWalk
import Derived.WalkKit
import Derived.Test.YtdibafmjplecaaaGreatDoorUac
import Derived.Test.YtdibafmjplecaaaGreatDoorUan
import Derived.Test.YtdibafmjplecaaaGreatDoorUab
set_option linter.all false
set_option maxRecDepth 100000
open Go renaming Code→wK,Deferred→tT,World→yi
open List renaming drop_eq_getElem_cons→y8,drop_length→yba,length_append→yY,sum_cons→ybB
open Nat renaming le_refl→yA
open Option renaming getD_some→uN
namespace Go.Proofs
open Go.Shelf
open Go.RowKit
def bP {α:Type} {l:List α} {n:Nat} (h:l.length=n+1):∃x r,l=x::r/\r.length=n:=by
 cases l with
 | nil=>simp at h
 | cons x r=>exact ⟨x,r,rfl,by simpa using h⟩
def P3 {α:Type} {l:List α} (h0:l.length=69):∃x0 x1 x2 x3 x4 x5 x6 x7 x8 x9 AL Cv Eu Ev Ew Ey Ez EA EB EC ED EE EF EG EH EI EJ EK EL EM EN EO EP EQ ER ES ET EU EV EW EX EY EZ E0 E1 E2 E3 E4 E5 E6 E7 E8 E9 Fa Fb Fc Fe Ff Fg Fh Fi Fj Fk Fm Fo Fp Fq Fs Ft,l=[x0,x1,x2,x3,x4,x5,x6,x7,x8,x9,AL,Cv,Eu,Ev,Ew,Ey,Ez,EA,EB,EC,ED,EE,EF,EG,EH,EI,EJ,EK,EL,EM,EN,EO,EP,EQ,ER,ES,ET,EU,EV,EW,EX,EY,EZ,E0,E1,E2,E3,E4,E5,E6,E7,E8,E9,Fa,Fb,Fc,Fe,Ff,Fg,Fh,Fi,Fj,Fk,Fm,Fo,Fp,Fq,Fs,Ft]:=by
 obtain ⟨x0,l0,rfl,h1⟩:=bP h0;obtain ⟨x1,l1,rfl,h2⟩:=bP h1;obtain ⟨x2,l2,rfl,h3⟩:=bP h2;obtain ⟨x3,l3,rfl,h4⟩:=bP h3;obtain ⟨x4,l4,rfl,h5⟩:=bP h4;obtain ⟨x5,l5,rfl,h6⟩:=bP h5;obtain ⟨x6,l6,rfl,h7⟩:=bP h6;obtain ⟨x7,l7,rfl,h8⟩:=bP h7;obtain ⟨x8,l8,rfl,h9⟩:=bP h8;obtain ⟨x9,l9,rfl,gY⟩:=bP h9;obtain ⟨AL,l10,rfl,Fu⟩:=bP gY;obtain ⟨Cv,l11,rfl,h12⟩:=bP Fu;obtain ⟨Eu,l12,rfl,h13⟩:=bP h12;obtain ⟨Ev,l13,rfl,h14⟩:=bP h13;obtain ⟨Ew,l14,rfl,h15⟩:=bP h14;obtain ⟨Ey,l15,rfl,h16⟩:=bP h15;obtain ⟨Ez,l16,rfl,h17⟩:=bP h16;obtain ⟨EA,l17,rfl,h18⟩:=bP h17;obtain ⟨EB,l18,rfl,h19⟩:=bP h18;obtain ⟨EC,l19,rfl,mq⟩:=bP h19;obtain ⟨ED,l20,rfl,h21⟩:=bP mq;obtain ⟨EE,l21,rfl,h22⟩:=bP h21;obtain ⟨EF,l22,rfl,h23⟩:=bP h22;obtain ⟨EG,l23,rfl,h24⟩:=bP h23
 obtain ⟨EH,l24,rfl,h25⟩:=bP h24;obtain ⟨EI,l25,rfl,h26⟩:=bP h25;obtain ⟨EJ,l26,rfl,h27⟩:=bP h26;obtain ⟨EK,l27,rfl,h28⟩:=bP h27;obtain ⟨EL,l28,rfl,h29⟩:=bP h28;obtain ⟨EM,l29,rfl,h30⟩:=bP h29;obtain ⟨EN,l30,rfl,h31⟩:=bP h30;obtain ⟨EO,l31,rfl,h32⟩:=bP h31;obtain ⟨EP,l32,rfl,h33⟩:=bP h32;obtain ⟨EQ,l33,rfl,h34⟩:=bP h33;obtain ⟨ER,l34,rfl,h35⟩:=bP h34;obtain ⟨ES,l35,rfl,h36⟩:=bP h35;obtain ⟨ET,l36,rfl,h37⟩:=bP h36;obtain ⟨EU,l37,rfl,h38⟩:=bP h37;obtain ⟨EV,l38,rfl,h39⟩:=bP h38;obtain ⟨EW,l39,rfl,h40⟩:=bP h39;obtain ⟨EX,l40,rfl,h41⟩:=bP h40;obtain ⟨EY,l41,rfl,h42⟩:=bP h41;obtain ⟨EZ,l42,rfl,h43⟩:=bP h42;obtain ⟨E0,l43,rfl,h44⟩:=bP h43;obtain ⟨E1,l44,rfl,h45⟩:=bP h44;obtain ⟨E2,l45,rfl,XT⟩:=bP h45;obtain ⟨E3,l46,rfl,h47⟩:=bP XT
 obtain ⟨E4,l47,rfl,iT⟩:=bP h47;obtain ⟨E5,l48,rfl,nB⟩:=bP iT;obtain ⟨E6,l49,rfl,XQ⟩:=bP nB;obtain ⟨E7,l50,rfl,h51⟩:=bP XQ;obtain ⟨E8,l51,rfl,h52⟩:=bP h51;obtain ⟨E9,l52,rfl,h53⟩:=bP h52;obtain ⟨Fa,l53,rfl,h54⟩:=bP h53;obtain ⟨Fb,l54,rfl,h55⟩:=bP h54;obtain ⟨Fc,l55,rfl,h56⟩:=bP h55;obtain ⟨Fe,l56,rfl,h57⟩:=bP h56;obtain ⟨Ff,l57,rfl,h58⟩:=bP h57;obtain ⟨Fg,l58,rfl,h59⟩:=bP h58;obtain ⟨Fh,l59,rfl,h60⟩:=bP h59;obtain ⟨Fi,l60,rfl,h61⟩:=bP h60;obtain ⟨Fj,l61,rfl,NY⟩:=bP h61;obtain ⟨Fk,l62,rfl,h63⟩:=bP NY;obtain ⟨Fm,l63,rfl,h64⟩:=bP h63;obtain ⟨Fo,l64,rfl,h65⟩:=bP h64;obtain ⟨Fp,l65,rfl,h66⟩:=bP h65;obtain ⟨Fq,l66,rfl,h67⟩:=bP h66;obtain ⟨Fs,l67,rfl,h68⟩:=bP h67;obtain ⟨Ft,l68,rfl,XP⟩:=bP h68;cases List.eq_nil_of_length_eq_zero XP
 exact ⟨x0,x1,x2,x3,x4,x5,x6,x7,x8,x9,AL,Cv,Eu,Ev,Ew,Ey,Ez,EA,EB,EC,ED,EE,EF,EG,EH,EI,EJ,EK,EL,EM,EN,EO,EP,EQ,ER,ES,ET,EU,EV,EW,EX,EY,EZ,E0,E1,E2,E3,E4,E5,E6,E7,E8,E9,Fa,Fb,Fc,Fe,Ff,Fg,Fh,Fi,Fj,Fk,Fm,Fo,Fp,Fq,Fs,Ft,rfl⟩
noncomputable def Ai:wK:=Tryz.f117.body.getD .skip
open VE (mX)
def aoe (a:List ByteArray) (t:ByteArray):mX (a++[t])=mX a++t.data.toList:=by simp [mX]
def aqg (a:List ByteArray):(mX a).length=(a.map (·.size)).sum:=by
 induction a with
 | nil=>rfl
 | cons t r ih=>
  show (t.data.toList++mX r).length=t.size+(r.map (·.size)).sum
  rw [yY,ih];rfl
def aaW (l:List Nat) (k:Nat):(l.drop k).sum<=l.sum:=by
 induction l generalizing k with
 | nil=>simp
 | cons x l ih=>
  cases k with
  | zero=>simp
  | succ k=>have:=ih k;simp only [List.drop_succ_cons,ybB];omega
def MX:wK->wK
 | .seq a _=>a
 | .block _ a=>a
 | .loop a=>a
 | c=>c
def Aj:wK->wK
 | .seq _ b=>b
 | c=>c
noncomputable def aiT:wK:=MX (MX (Aj (MX (Aj (Aj (VE.rW 5 Ai))))))
def MY (w0:yi) (ts:List ByteArray) (b o c:Nat) (ds:List tT) (pre:List UInt8) (k:Nat) (a:Act) (w:yi):Prop:=
 k<=ts.length/\a.tmps.size=69/\a.defers=ds/\a.tmps.getD 6 undef= .slice (some ⟨b,o,none⟩) ts.length c/\a.tmps.getD 10 undef= .pointer (some ⟨w0.heap.size,0,none⟩)/\a.tmps.getD 11 undef= .int .i64 ((k:Int)-1)/\
  Lib.IsBuilder 199 5 w0.heap.size w0.heap.size (Lib.byteCells (pre++mX (ts.drop k).reverse)) w/\Below w0.heap.size w0 w
def Wl (a:Act):Nat:=match a.tmps.getD 11 undef with
 | .int _ z=>(z+1).toNat
 | _=>0
set_option maxHeartbeats 4000000 in
def aaX {Q:Exit->Act->yi->Prop} {w0:yi} {ts:List ByteArray} {b o c:Nat} {ds:List tT} {pre:List UInt8} (hc:∀i (h:i<ts.length),w0.cell? ⟨b,o+i,none⟩=some (.string ts[i])) (eL:pre.length<=1)
  (hl:(ts.map (·.size)).sum+1<=140737488355328) (hn:ts.length<=c) (cX:ts.length<9223372036854775808) (hQ:∀a w,MY w0 ts b o c ds pre 0 a w->Q (.exit 2) a w):∀a w,(∃k,MY w0 ts b o c ds pre k a w)->(Code.loop aiT).wpIn Fence.wide 0 Tryz.prog Q a w:=by
 intro a w h0;refine wpIn_loop (fun a w=>∃k,MY w0 ts b o c ds pre k a w) (fun a _=>Wl a) h0 ?_;rintro a w ⟨k,hk,ez,rfl,h6,gY,Fu,Cw,Cx⟩;have hm:Wl a=k:=by
  unfold Wl;rw [Fu];simp
 simp only [hm];simp only [aiT,Ai,Tryz.f117,uN,VE.rW,MX,Aj];obtain ⟨⟨l⟩,ds⟩:=a;obtain ⟨x0,x1,x2,x3,x4,x5,x6,x7,x8,x9,AL,Cv,Eu,Ev,Ew,Ey,Ez,EA,EB,EC,ED,EE,EF,EG,EH,EI,EJ,EK,EL,EM,EN,EO,EP,EQ,ER,ES,ET,EU,EV,EW,EX,EY,EZ,E0,E1,E2,E3,E4,E5,E6,E7,E8,E9,Fa,Fb,Fc,Fe,Ff,Fg,Fh,Fi,Fj,Fk,Fm,Fo,Fp,Fq,Fs,Ft,rfl⟩:=P3 (l:=l) ez;have e6:x6= .slice (some ⟨b,o,none⟩) ts.length c:=h6;have AM:AL= .pointer (some ⟨w0.heap.size,0,none⟩):=gY;have e11:Cv= .int .i64 ((k:Int)-1):=Fu;clear h6 gY Fu hm ez;subst e6;subst AM;subst e11
 cases k with
 | zero=>
  gi_wp2
  exact ⟨Nat.zero_le _,rfl,rfl,rfl,rfl,rfl,Cw,Cx⟩
 | succ k=>
  have hi:k<ts.length:=hk;have BB:=hc k hi;have aFT:w.cell? ⟨b,o+k,none⟩=some (.string ts[k]):=(Cx.cell (World.block_lt_of_cell? _ _ BB)).trans BB;have e1:((k+1:Nat):Int)-1=(k:Int):=by omega
  rw [e1]
  gi_wp2
  refine ⟨trivial,rfl,callsIn_wide.2 ((Tryz.Builder_WriteString _ _ _ ts[k] w Cw ?_ Cx.size).mono ?_)⟩
  ·have h1:=aqg (ts.drop (k+1)).reverse;have h2:=aaW (ts.map (·.size)) (k+1);have h3:(ts.map (·.size)).drop k=ts[k].size::(ts.map (·.size)).drop (k+1):=by
    rw [y8 (by simpa using hi)];simp
   have h4:=aaW (ts.map (·.size)) k;rw [h3,ybB] at h4;rw [Lib.byteCells_length,yY,h1,List.map_reverse,List.sum_reverse,List.map_drop];omega
  ·rintro e w' ⟨rfl,bJ,H7⟩;have hd:pre++mX (ts.drop k).reverse=pre++mX (ts.drop (k+1)).reverse++ts[k].data.toList:=by
    rw [y8 hi,List.reverse_cons,aoe,List.append_assoc]
   rw [Lib.strCells_eq,<-Lib.byteCells_append,<-hd] at bJ;have hw:wrap64 ((k:Int)-1)=(k:Int)-1:=by unfold wrap64;omega
   simp only
   gi_wp2
   refine ⟨⟨k,by omega,rfl,rfl,rfl,rfl,rfl,.inr bJ,Cx.trans H7⟩,?_⟩;show ((k:Int)-1+1).toNat<k+1
   omega
set_option maxHeartbeats 4000000 in
def aqh {Q:Exit->Act->yi->Prop} (a:Act) (w:yi) (neg:Bool) (ts:List ByteArray) (b o c:Nat) (ez:a.tmps.size=69) (h3:a.tmps.getD 3 undef= .bool neg) (h6:a.tmps.getD 6 undef= .slice (some ⟨b,o,none⟩) ts.length c)
  (hc:∀i (h:i<ts.length),w.cell? ⟨b,o+i,none⟩=some (.string ts[i])) (hl:(ts.map (·.size)).sum+1<=140737488355328) (hn:ts.length<=c) (cX:ts.length<9223372036854775808)
  (hQ:∀a' w',VE.Calm w w'->a'.tmps.size=69->a'.defers=a.defers->a'.tmps.getD 2 undef= .string ⟨((if neg then [45] else [])++mX ts.reverse).toArray⟩->Q .ret a' w'):
  (VE.rW 5 Ai).wpIn Fence.wide 0 Tryz.prog Q a w:=by
 simp only [Ai,Tryz.f117,uN,VE.rW];obtain ⟨⟨l⟩,ds⟩:=a;obtain ⟨x0,x1,x2,x3,x4,x5,x6,x7,x8,x9,AL,Cv,Eu,Ev,Ew,Ey,Ez,EA,EB,EC,ED,EE,EF,EG,EH,EI,EJ,EK,EL,EM,EN,EO,EP,EQ,ER,ES,ET,EU,EV,EW,EX,EY,EZ,E0,E1,E2,E3,E4,E5,E6,E7,E8,E9,Fa,Fb,Fc,Fe,Ff,Fg,Fh,Fi,Fj,Fk,Fm,Fo,Fp,Fq,Fs,Ft,rfl⟩:=P3 (l:=l) ez;have e3:x3= .bool neg:=h3;have e6:x6= .slice (some ⟨b,o,none⟩) ts.length c:=h6;clear h3 h6 ez;subst e3;subst e6;have hw:wrap64 ((ts.length:Int)-1)=(ts.length:Int)-1:=by unfold wrap64;omega
 obtain ⟨pre,hp⟩:∃pre:List UInt8,(if neg then [45] else [])=pre:=⟨_,rfl⟩;rw [hp] at hQ;have fin:∀(a:Act) (w':yi) (K:Act->yi->Prop),MY w ts b o c ds pre 0 a w'->
   (∀(a:Act) (w:yi),Code.wpIn Fence.wide 0 Tryz.prog (Aj (Aj (Aj (VE.rW 5 Ai)))) Q a w->K a w)->K a w':=by
  rintro a w' K ⟨_,ez,rfl,h6,gY,Fu,Cw,Cx⟩ hK;clear hp;refine hK _ _ ?_;simp only [Ai,Tryz.f117,uN,VE.rW,Aj];obtain ⟨⟨l⟩,ds⟩:=a;obtain ⟨x0,x1,x2,x3,x4,x5,x6,x7,x8,x9,AL,Cv,Eu,Ev,Ew,Ey,Ez,EA,EB,EC,ED,EE,EF,EG,EH,EI,EJ,EK,EL,EM,EN,EO,EP,EQ,ER,ES,ET,EU,EV,EW,EX,EY,EZ,E0,E1,E2,E3,E4,E5,E6,E7,E8,E9,Fa,Fb,Fc,Fe,Ff,Fg,Fh,Fi,Fj,Fk,Fm,Fo,Fp,Fq,Fs,Ft,rfl⟩:=P3 (l:=l) ez;have AM:AL= .pointer (some ⟨w.heap.size,0,none⟩):=gY;subst AM
  gi_wp2
  refine ⟨trivial,rfl,callsIn_wide.2 ((Tryz.Builder_String_any _ _ _ _ Cw Cx.size).mono ?_)⟩;rintro e w2 ⟨rfl,H7⟩;simp only
  gi_wp2
  exact hQ _ _ (VE.FE (Cx.trans H7)) rfl rfl rfl
 cases neg with
 | false=>
  cases hp
  gi_wp2
  refine aaX (pre:=[]) hc (by simp) hl hn cX (fun a w' hI=>?_) _ _ ⟨ts.length,yA _,rfl,rfl,rfl,rfl,?_,?_,?_⟩
  ·simp only [Exit.inBlock,Exit.then];exact fin a w' _ hI (by assumption)
  ·rfl
  ·rw [yba];exact Lib.fresh_isBuilder _ _ w
  ·exact (Below.refl _ w).alloc (yA _) _
 | true=>
  cases hp
  gi_wp2
  refine ⟨trivial,rfl,callsIn_wide.2 ((Tryz.Builder_WriteString _ _ [] _ _ (Lib.fresh_isBuilder _ _ w) (by decide) (by simp)).mono ?_)⟩;rintro e w' ⟨rfl,bJ,H7⟩;simp only
  gi_wp2
  refine aaX (pre:=[45]) hc (by simp) hl hn cX (fun a w' hI=>?_) _ _ ⟨ts.length,yA _,rfl,rfl,rfl,rfl,?_,?_,?_⟩
  ·simp only [Exit.inBlock,Exit.then];exact fin a w' _ hI (by assumption)
  ·rfl
  ·rw [yba];exact .inr bJ
  ·exact ((Below.refl _ w).alloc (yA _) _).trans H7
def aqi:VE.PB Tryz.prog Ai:=fun _ a w neg ts b o c h1 h2 h3 h4 h5 h6 h7 h8=>aqh a w neg ts b o c h1 h2 h3 h4 h5 h6 h7 h8
end Go.Proofs
