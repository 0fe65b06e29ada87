import Derived.TacticsIn
import Derived.LoopNIn
import Derived.OwnWalk
import Derived.WalkKit
import Derived.Test.YtdibafmjplecaaaGreatDoorTac
import Derived.Test.YtdibafmjplecaaaGreatDoorTan
import Derived.Test.YtdibafmjplecaaaGreatDoorTab
set_option linter.all false
set_option maxRecDepth 100000
open Go renaming Code→wF,Deferred→tM,World→yi
open List renaming drop_eq_getElem_cons→yX,drop_length→yaW,length_append→y5,sum_cons→ybz
open Nat renaming le_refl→yB
open Option renaming getD_some→uG
namespace Go.Proofs
open Go.Shelf
open Go.RowKit
def bN {α:Type} {l:List α} {n:Nat} (h:l.length=n+1):∃x r,l=x::r/\r.length=n:=by
 cases l with
 | nil=>simp at h
 | cons x r=>exact ⟨x,r,rfl,by simpa using h⟩
def Qn {α:Type} {l:List α} (h0:l.length=69):∃x0 x1 x2 x3 x4 x5 x6 x7 x8 x9 AL Cx EG EH EI EJ EK EL EM EN EO EP EQ ER ES ET EU EV EW EX EY EZ E0 E1 E2 E3 E4 E5 E6 E7 E8 E9 Fa Fb Fc Fe Ff Fg Fh Fi Fj Fk Fm Fo Fp Fq Fs Ft Fu Fv Fw FA FB FC FD FE FF FG FH,l=[x0,x1,x2,x3,x4,x5,x6,x7,x8,x9,AL,Cx,EG,EH,EI,EJ,EK,EL,EM,EN,EO,EP,EQ,ER,ES,ET,EU,EV,EW,EX,EY,EZ,E0,E1,E2,E3,E4,E5,E6,E7,E8,E9,Fa,Fb,Fc,Fe,Ff,Fg,Fh,Fi,Fj,Fk,Fm,Fo,Fp,Fq,Fs,Ft,Fu,Fv,Fw,FA,FB,FC,FD,FE,FF,FG,FH]:=by
 obtain ⟨x0,l0,rfl,h1⟩:=bN h0;obtain ⟨x1,l1,rfl,h2⟩:=bN h1;obtain ⟨x2,l2,rfl,h3⟩:=bN h2;obtain ⟨x3,l3,rfl,h4⟩:=bN h3;obtain ⟨x4,l4,rfl,h5⟩:=bN h4;obtain ⟨x5,l5,rfl,h6⟩:=bN h5;obtain ⟨x6,l6,rfl,h7⟩:=bN h6;obtain ⟨x7,l7,rfl,h8⟩:=bN h7;obtain ⟨x8,l8,rfl,h9⟩:=bN h8;obtain ⟨x9,l9,rfl,gT⟩:=bN h9;obtain ⟨AL,l10,rfl,FI⟩:=bN gT;obtain ⟨Cx,l11,rfl,h12⟩:=bN FI;obtain ⟨EG,l12,rfl,h13⟩:=bN h12;obtain ⟨EH,l13,rfl,h14⟩:=bN h13;obtain ⟨EI,l14,rfl,h15⟩:=bN h14;obtain ⟨EJ,l15,rfl,h16⟩:=bN h15;obtain ⟨EK,l16,rfl,h17⟩:=bN h16;obtain ⟨EL,l17,rfl,h18⟩:=bN h17;obtain ⟨EM,l18,rfl,h19⟩:=bN h18;obtain ⟨EN,l19,rfl,mg⟩:=bN h19;obtain ⟨EO,l20,rfl,h21⟩:=bN mg;obtain ⟨EP,l21,rfl,h22⟩:=bN h21;obtain ⟨EQ,l22,rfl,h23⟩:=bN h22;obtain ⟨ER,l23,rfl,h24⟩:=bN h23
 obtain ⟨ES,l24,rfl,h25⟩:=bN h24;obtain ⟨ET,l25,rfl,h26⟩:=bN h25;obtain ⟨EU,l26,rfl,h27⟩:=bN h26;obtain ⟨EV,l27,rfl,h28⟩:=bN h27;obtain ⟨EW,l28,rfl,h29⟩:=bN h28;obtain ⟨EX,l29,rfl,h30⟩:=bN h29;obtain ⟨EY,l30,rfl,h31⟩:=bN h30;obtain ⟨EZ,l31,rfl,h32⟩:=bN h31;obtain ⟨E0,l32,rfl,h33⟩:=bN h32;obtain ⟨E1,l33,rfl,h34⟩:=bN h33;obtain ⟨E2,l34,rfl,h35⟩:=bN h34;obtain ⟨E3,l35,rfl,h36⟩:=bN h35;obtain ⟨E4,l36,rfl,h37⟩:=bN h36;obtain ⟨E5,l37,rfl,h38⟩:=bN h37;obtain ⟨E6,l38,rfl,h39⟩:=bN h38;obtain ⟨E7,l39,rfl,h40⟩:=bN h39;obtain ⟨E8,l40,rfl,h41⟩:=bN h40;obtain ⟨E9,l41,rfl,h42⟩:=bN h41;obtain ⟨Fa,l42,rfl,h43⟩:=bN h42;obtain ⟨Fb,l43,rfl,h44⟩:=bN h43;obtain ⟨Fc,l44,rfl,h45⟩:=bN h44;obtain ⟨Fe,l45,rfl,Yb⟩:=bN h45;obtain ⟨Ff,l46,rfl,h47⟩:=bN Yb
 obtain ⟨Fg,l47,rfl,iQ⟩:=bN h47;obtain ⟨Fh,l48,rfl,nt⟩:=bN iQ;obtain ⟨Fi,l49,rfl,X8⟩:=bN nt;obtain ⟨Fj,l50,rfl,h51⟩:=bN X8;obtain ⟨Fk,l51,rfl,h52⟩:=bN h51;obtain ⟨Fm,l52,rfl,h53⟩:=bN h52;obtain ⟨Fo,l53,rfl,h54⟩:=bN h53;obtain ⟨Fp,l54,rfl,h55⟩:=bN h54;obtain ⟨Fq,l55,rfl,h56⟩:=bN h55;obtain ⟨Fs,l56,rfl,h57⟩:=bN h56;obtain ⟨Ft,l57,rfl,h58⟩:=bN h57;obtain ⟨Fu,l58,rfl,h59⟩:=bN h58;obtain ⟨Fv,l59,rfl,h60⟩:=bN h59;obtain ⟨Fw,l60,rfl,h61⟩:=bN h60;obtain ⟨FA,l61,rfl,Og⟩:=bN h61;obtain ⟨FB,l62,rfl,h63⟩:=bN Og;obtain ⟨FC,l63,rfl,h64⟩:=bN h63;obtain ⟨FD,l64,rfl,h65⟩:=bN h64;obtain ⟨FE,l65,rfl,h66⟩:=bN h65;obtain ⟨FF,l66,rfl,h67⟩:=bN h66;obtain ⟨FG,l67,rfl,h68⟩:=bN h67;obtain ⟨FH,l68,rfl,X7⟩:=bN h68;cases List.eq_nil_of_length_eq_zero X7
 exact ⟨x0,x1,x2,x3,x4,x5,x6,x7,x8,x9,AL,Cx,EG,EH,EI,EJ,EK,EL,EM,EN,EO,EP,EQ,ER,ES,ET,EU,EV,EW,EX,EY,EZ,E0,E1,E2,E3,E4,E5,E6,E7,E8,E9,Fa,Fb,Fc,Fe,Ff,Fg,Fh,Fi,Fj,Fk,Fm,Fo,Fp,Fq,Fs,Ft,Fu,Fv,Fw,FA,FB,FC,FD,FE,FF,FG,FH,rfl⟩
noncomputable def Ai:wF:=Tryz.f117.body.getD .skip
open VE (mS)
def aoq (a:List ByteArray) (t:ByteArray):mS (a++[t])=mS a++t.data.toList:=by simp [mS]
def aqu (a:List ByteArray):(mS a).length=(a.map (·.size)).sum:=by
 induction a with
 | nil=>rfl
 | cons t r ih=>
  show (t.data.toList++mS r).length=t.size+(r.map (·.size)).sum
  rw [y5,ih];rfl
def abe (l:List Nat) (k:Nat):(l.drop k).sum<=l.sum:=by
 induction l generalizing k with
 | nil=>simp
 | cons x l ih=>
  cases k with
  | zero=>simp
  | succ k=>have:=ih k;simp only [List.drop_succ_cons,ybz];omega
def Na:wF->wF
 | .seq a _=>a
 | .block _ a=>a
 | .loop a=>a
 | c=>c
def Aj:wF->wF
 | .seq _ b=>b
 | c=>c
noncomputable def ai9:wF:=Na (Na (Aj (Na (Aj (Aj (VE.rY 5 Ai))))))
def Nb (w0:yi) (ts:List ByteArray) (b o c:Nat) (ds:List tM) (pre:List UInt8) (k:Nat) (a:Act) (w:yi):Prop:=
 k<=ts.length/\a.tmps.size=69/\a.defers=ds/\a.tmps.getD 6 undef= .slice (some ⟨b,o,none⟩) ts.length c/\a.tmps.getD 10 undef= .pointer (some ⟨w0.heap.size,0,none⟩)/\a.tmps.getD 11 undef= .int .i64 ((k:Int)-1)/\
  Lib.IsBuilder 199 5 w0.heap.size w0.heap.size (Lib.byteCells (pre++mS (ts.drop k).reverse)) w/\Below w0.heap.size w0 w
def WG (a:Act):Nat:=match a.tmps.getD 11 undef with
 | .int _ z=>(z+1).toNat
 | _=>0
set_option maxHeartbeats 4000000 in
def abf {Q:Exit->Act->yi->Prop} {w0:yi} {ts:List ByteArray} {b o c:Nat} {ds:List tM} {pre:List UInt8} (hc:∀i (h:i<ts.length),w0.cell? ⟨b,o+i,none⟩=some (.string ts[i])) (eF:pre.length<=1)
  (hl:(ts.map (·.size)).sum+1<=140737488355328) (hn:ts.length<=c) (cU:ts.length<9223372036854775808) (hQ:∀a w,Nb w0 ts b o c ds pre 0 a w->Q (.exit 2) a w):∀a w,(∃k,Nb w0 ts b o c ds pre k a w)->(Code.loop ai9).wpIn Fence.wide 0 Tryz.prog Q a w:=by
 intro a w h0;refine wpIn_loop (fun a w=>∃k,Nb w0 ts b o c ds pre k a w) (fun a _=>WG a) h0 ?_;rintro a w ⟨k,hk,ej,rfl,h6,gT,FI,Cy,Cz⟩;have hm:WG a=k:=by
  unfold WG;rw [FI];simp
 simp only [hm];simp only [ai9,Ai,Tryz.f117,uG,VE.rY,Na,Aj];obtain ⟨⟨l⟩,ds⟩:=a;obtain ⟨x0,x1,x2,x3,x4,x5,x6,x7,x8,x9,AL,Cx,EG,EH,EI,EJ,EK,EL,EM,EN,EO,EP,EQ,ER,ES,ET,EU,EV,EW,EX,EY,EZ,E0,E1,E2,E3,E4,E5,E6,E7,E8,E9,Fa,Fb,Fc,Fe,Ff,Fg,Fh,Fi,Fj,Fk,Fm,Fo,Fp,Fq,Fs,Ft,Fu,Fv,Fw,FA,FB,FC,FD,FE,FF,FG,FH,rfl⟩:=Qn (l:=l) ej;have e6:x6= .slice (some ⟨b,o,none⟩) ts.length c:=h6;have Yd:AL= .pointer (some ⟨w0.heap.size,0,none⟩):=gT;have e11:Cx= .int .i64 ((k:Int)-1):=FI;clear h6 gT FI hm ej;subst e6;subst Yd;subst e11
 cases k with
 | zero=>
  gi_wp2
  exact ⟨Nat.zero_le _,rfl,rfl,rfl,rfl,rfl,Cy,Cz⟩
 | succ k=>
  have hi:k<ts.length:=hk;have BB:=hc k hi;have aGj:w.cell? ⟨b,o+k,none⟩=some (.string ts[k]):=(Cz.cell (World.block_lt_of_cell? _ _ BB)).trans BB;have e1:((k+1:Nat):Int)-1=(k:Int):=by omega
  rw [e1]
  gi_wp2
  refine ⟨trivial,rfl,callsIn_wide.2 ((Tryz.Builder_WriteString _ _ _ ts[k] w Cy ?_ Cz.size).mono ?_)⟩
  ·have h1:=aqu (ts.drop (k+1)).reverse;have h2:=abe (ts.map (·.size)) (k+1);have h3:(ts.map (·.size)).drop k=ts[k].size::(ts.map (·.size)).drop (k+1):=by
    rw [yX (by simpa using hi)];simp
   have h4:=abe (ts.map (·.size)) k;rw [h3,ybz] at h4;rw [Lib.byteCells_length,y5,h1,List.map_reverse,List.sum_reverse,List.map_drop];omega
  ·rintro e w' ⟨rfl,bC,Io⟩;have hd:pre++mS (ts.drop k).reverse=pre++mS (ts.drop (k+1)).reverse++ts[k].data.toList:=by
    rw [yX hi,List.reverse_cons,aoq,List.append_assoc]
   rw [Lib.strCells_eq,<-Lib.byteCells_append,<-hd] at bC;have hw:wrap64 ((k:Int)-1)=(k:Int)-1:=by unfold wrap64;omega
   simp only
   gi_wp2
   refine ⟨⟨k,by omega,rfl,rfl,rfl,rfl,rfl,.inr bC,Cz.trans Io⟩,?_⟩;show ((k:Int)-1+1).toNat<k+1
   omega
set_option maxHeartbeats 4000000 in
def aqv {Q:Exit->Act->yi->Prop} (a:Act) (w:yi) (neg:Bool) (ts:List ByteArray) (b o c:Nat) (ej:a.tmps.size=69) (h3:a.tmps.getD 3 undef= .bool neg) (h6:a.tmps.getD 6 undef= .slice (some ⟨b,o,none⟩) ts.length c)
  (hc:∀i (h:i<ts.length),w.cell? ⟨b,o+i,none⟩=some (.string ts[i])) (hl:(ts.map (·.size)).sum+1<=140737488355328) (hn:ts.length<=c) (cU:ts.length<9223372036854775808)
  (hQ:∀a' w',VE.Calm w w'->a'.tmps.size=69->a'.defers=a.defers->a'.tmps.getD 2 undef= .string ⟨((if neg then [45] else [])++mS ts.reverse).toArray⟩->Q .ret a' w'):
  (VE.rY 5 Ai).wpIn Fence.wide 0 Tryz.prog Q a w:=by
 simp only [Ai,Tryz.f117,uG,VE.rY];obtain ⟨⟨l⟩,ds⟩:=a;obtain ⟨x0,x1,x2,x3,x4,x5,x6,x7,x8,x9,AL,Cx,EG,EH,EI,EJ,EK,EL,EM,EN,EO,EP,EQ,ER,ES,ET,EU,EV,EW,EX,EY,EZ,E0,E1,E2,E3,E4,E5,E6,E7,E8,E9,Fa,Fb,Fc,Fe,Ff,Fg,Fh,Fi,Fj,Fk,Fm,Fo,Fp,Fq,Fs,Ft,Fu,Fv,Fw,FA,FB,FC,FD,FE,FF,FG,FH,rfl⟩:=Qn (l:=l) ej;have e3:x3= .bool neg:=h3;have e6:x6= .slice (some ⟨b,o,none⟩) ts.length c:=h6;clear h3 h6 ej;subst e3;subst e6;have hw:wrap64 ((ts.length:Int)-1)=(ts.length:Int)-1:=by unfold wrap64;omega
 obtain ⟨pre,hp⟩:∃pre:List UInt8,(if neg then [45] else [])=pre:=⟨_,rfl⟩;rw [hp] at hQ;have fin:∀(a:Act) (w':yi) (K:Act->yi->Prop),Nb w ts b o c ds pre 0 a w'->
   (∀(a:Act) (w:yi),Code.wpIn Fence.wide 0 Tryz.prog (Aj (Aj (Aj (VE.rY 5 Ai)))) Q a w->K a w)->K a w':=by
  rintro a w' K ⟨_,ej,rfl,h6,gT,FI,Cy,Cz⟩ hK;clear hp;refine hK _ _ ?_;simp only [Ai,Tryz.f117,uG,VE.rY,Aj];obtain ⟨⟨l⟩,ds⟩:=a;obtain ⟨x0,x1,x2,x3,x4,x5,x6,x7,x8,x9,AL,Cx,EG,EH,EI,EJ,EK,EL,EM,EN,EO,EP,EQ,ER,ES,ET,EU,EV,EW,EX,EY,EZ,E0,E1,E2,E3,E4,E5,E6,E7,E8,E9,Fa,Fb,Fc,Fe,Ff,Fg,Fh,Fi,Fj,Fk,Fm,Fo,Fp,Fq,Fs,Ft,Fu,Fv,Fw,FA,FB,FC,FD,FE,FF,FG,FH,rfl⟩:=Qn (l:=l) ej;have Yd:AL= .pointer (some ⟨w.heap.size,0,none⟩):=gT;subst Yd
  gi_wp2
  refine ⟨trivial,rfl,callsIn_wide.2 ((Tryz.Builder_String_any _ _ _ _ Cy Cz.size).mono ?_)⟩;rintro e w2 ⟨rfl,Io⟩;simp only
  gi_wp2
  exact hQ _ _ (VE.FP (Cz.trans Io)) rfl rfl rfl
 cases neg with
 | false=>
  cases hp
  gi_wp2
  refine abf (pre:=[]) hc (by simp) hl hn cU (fun a w' hI=>?_) _ _ ⟨ts.length,yB _,rfl,rfl,rfl,rfl,?_,?_,?_⟩
  ·simp only [Exit.inBlock,Exit.then];exact fin a w' _ hI (by assumption)
  ·rfl
  ·rw [yaW];exact Lib.fresh_isBuilder _ _ w
  ·exact (Below.refl _ w).alloc (yB _) _
 | true=>
  cases hp
  gi_wp2
  refine ⟨trivial,rfl,callsIn_wide.2 ((Tryz.Builder_WriteString _ _ [] _ _ (Lib.fresh_isBuilder _ _ w) (by decide) (by simp)).mono ?_)⟩;rintro e w' ⟨rfl,bC,Io⟩;simp only
  gi_wp2
  refine abf (pre:=[45]) hc (by simp) hl hn cU (fun a w' hI=>?_) _ _ ⟨ts.length,yB _,rfl,rfl,rfl,rfl,?_,?_,?_⟩
  ·simp only [Exit.inBlock,Exit.then];exact fin a w' _ hI (by assumption)
  ·rfl
  ·rw [yaW];exact .inr bC
  ·exact ((Below.refl _ w).alloc (yB _) _).trans Io
def aqw:VE.PT Tryz.prog Ai:=fun _ a w neg ts b o c h1 h2 h3 h4 h5 h6 h7 h8=>aqv a w neg ts b o c h1 h2 h3 h4 h5 h6 h7 h8
end Go.Proofs
