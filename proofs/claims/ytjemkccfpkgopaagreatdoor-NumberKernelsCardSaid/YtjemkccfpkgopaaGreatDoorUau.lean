import Derived.TacticsIn
import Derived.LoopNIn
import Derived.OwnWalk
import Derived.WalkKit
import Derived.Test.YtjemkccfpkgopaaGreatDoorUaf
import Derived.Test.YtjemkccfpkgopaaGreatDoorUat
import Derived.Test.YtjemkccfpkgopaaGreatDoorUae
set_option linter.all false
set_option maxRecDepth 100000
open Go renaming Code→wL,Deferred→yby,World→yh
open List renaming drop_eq_getElem_cons→yX,drop_length→yaw,length_append→yL,sum_cons→yba
open Nat renaming le_refl→yo
open Option renaming getD_some→vR
namespace Go.Proofs
open Go.Shelf
open Go.RowKit
def bS {α:Type} {l:List α} {n:Nat} (h:l.length=n+1):∃x r,l=x::r/\r.length=n:=by
 cases l with
 | nil=>simp at h
 | cons x r=>exact ⟨x,r,rfl,by simpa using h⟩
def RG {α:Type} {l:List α} (h0:l.length=69):∃x0 x1 x2 x3 x4 x5 x6 x7 x8 x9 Bj C4 FI FJ FK FL FM FN FO FP FQ FR FT FU FV FW FX FY FZ F0 F1 F2 F3 F5 F6 F7 F8 F9 Ga Gb Gc Gd Ge Gf Gg Gh Gi Gj Gk Gl Gm Gn Gp Gq Gr Gs Gt Gu Gv Gw Gx Gy Gz GA GB GC GD GF GG,l=[x0,x1,x2,x3,x4,x5,x6,x7,x8,x9,Bj,C4,FI,FJ,FK,FL,FM,FN,FO,FP,FQ,FR,FT,FU,FV,FW,FX,FY,FZ,F0,F1,F2,F3,F5,F6,F7,F8,F9,Ga,Gb,Gc,Gd,Ge,Gf,Gg,Gh,Gi,Gj,Gk,Gl,Gm,Gn,Gp,Gq,Gr,Gs,Gt,Gu,Gv,Gw,Gx,Gy,Gz,GA,GB,GC,GD,GF,GG]:=by
 obtain ⟨x0,l0,rfl,h1⟩:=bS h0;obtain ⟨x1,l1,rfl,h2⟩:=bS h1;obtain ⟨x2,l2,rfl,h3⟩:=bS h2;obtain ⟨x3,l3,rfl,h4⟩:=bS h3;obtain ⟨x4,l4,rfl,h5⟩:=bS h4;obtain ⟨x5,l5,rfl,h6⟩:=bS h5;obtain ⟨x6,l6,rfl,h7⟩:=bS h6;obtain ⟨x7,l7,rfl,h8⟩:=bS h7;obtain ⟨x8,l8,rfl,h9⟩:=bS h8;obtain ⟨x9,l9,rfl,ig⟩:=bS h9;obtain ⟨Bj,l10,rfl,GH⟩:=bS ig;obtain ⟨C4,l11,rfl,h12⟩:=bS GH;obtain ⟨FI,l12,rfl,h13⟩:=bS h12;obtain ⟨FJ,l13,rfl,h14⟩:=bS h13;obtain ⟨FK,l14,rfl,h15⟩:=bS h14;obtain ⟨FL,l15,rfl,h16⟩:=bS h15;obtain ⟨FM,l16,rfl,h17⟩:=bS h16;obtain ⟨FN,l17,rfl,h18⟩:=bS h17;obtain ⟨FO,l18,rfl,h19⟩:=bS h18;obtain ⟨FP,l19,rfl,mR⟩:=bS h19;obtain ⟨FQ,l20,rfl,h21⟩:=bS mR;obtain ⟨FR,l21,rfl,h22⟩:=bS h21;obtain ⟨FT,l22,rfl,h23⟩:=bS h22;obtain ⟨FU,l23,rfl,h24⟩:=bS h23
 obtain ⟨FV,l24,rfl,h25⟩:=bS h24;obtain ⟨FW,l25,rfl,h26⟩:=bS h25;obtain ⟨FX,l26,rfl,h27⟩:=bS h26;obtain ⟨FY,l27,rfl,h28⟩:=bS h27;obtain ⟨FZ,l28,rfl,h29⟩:=bS h28;obtain ⟨F0,l29,rfl,h30⟩:=bS h29;obtain ⟨F1,l30,rfl,h31⟩:=bS h30;obtain ⟨F2,l31,rfl,h32⟩:=bS h31;obtain ⟨F3,l32,rfl,h33⟩:=bS h32;obtain ⟨F5,l33,rfl,h34⟩:=bS h33;obtain ⟨F6,l34,rfl,h35⟩:=bS h34;obtain ⟨F7,l35,rfl,h36⟩:=bS h35;obtain ⟨F8,l36,rfl,h37⟩:=bS h36;obtain ⟨F9,l37,rfl,h38⟩:=bS h37;obtain ⟨Ga,l38,rfl,h39⟩:=bS h38;obtain ⟨Gb,l39,rfl,h40⟩:=bS h39;obtain ⟨Gc,l40,rfl,h41⟩:=bS h40;obtain ⟨Gd,l41,rfl,h42⟩:=bS h41;obtain ⟨Ge,l42,rfl,h43⟩:=bS h42;obtain ⟨Gf,l43,rfl,h44⟩:=bS h43;obtain ⟨Gg,l44,rfl,h45⟩:=bS h44;obtain ⟨Gh,l45,rfl,Za⟩:=bS h45;obtain ⟨Gi,l46,rfl,h47⟩:=bS Za
 obtain ⟨Gj,l47,rfl,jb⟩:=bS h47;obtain ⟨Gk,l48,rfl,nQ⟩:=bS jb;obtain ⟨Gl,l49,rfl,h50⟩:=bS nQ;obtain ⟨Gm,l50,rfl,h51⟩:=bS h50;obtain ⟨Gn,l51,rfl,h52⟩:=bS h51;obtain ⟨Gp,l52,rfl,h53⟩:=bS h52;obtain ⟨Gq,l53,rfl,h54⟩:=bS h53;obtain ⟨Gr,l54,rfl,h55⟩:=bS h54;obtain ⟨Gs,l55,rfl,h56⟩:=bS h55;obtain ⟨Gt,l56,rfl,h57⟩:=bS h56;obtain ⟨Gu,l57,rfl,h58⟩:=bS h57;obtain ⟨Gv,l58,rfl,h59⟩:=bS h58;obtain ⟨Gw,l59,rfl,h60⟩:=bS h59;obtain ⟨Gx,l60,rfl,h61⟩:=bS h60;obtain ⟨Gy,l61,rfl,O8⟩:=bS h61;obtain ⟨Gz,l62,rfl,h63⟩:=bS O8;obtain ⟨GA,l63,rfl,C5⟩:=bS h63;obtain ⟨GB,l64,rfl,h65⟩:=bS C5;obtain ⟨GC,l65,rfl,h66⟩:=bS h65;obtain ⟨GD,l66,rfl,h67⟩:=bS h66;obtain ⟨GF,l67,rfl,h68⟩:=bS h67;obtain ⟨GG,l68,rfl,Y6⟩:=bS h68;cases List.eq_nil_of_length_eq_zero Y6
 exact ⟨x0,x1,x2,x3,x4,x5,x6,x7,x8,x9,Bj,C4,FI,FJ,FK,FL,FM,FN,FO,FP,FQ,FR,FT,FU,FV,FW,FX,FY,FZ,F0,F1,F2,F3,F5,F6,F7,F8,F9,Ga,Gb,Gc,Gd,Ge,Gf,Gg,Gh,Gi,Gj,Gk,Gl,Gm,Gn,Gp,Gq,Gr,Gs,Gt,Gu,Gv,Gw,Gx,Gy,Gz,GA,GB,GC,GD,GF,GG,rfl⟩
noncomputable def AM:wL:=Tryz.f172.body.getD .skip
open VE (nC)
def ao7 (a:List ByteArray) (t:ByteArray):nC (a++[t])=nC a++t.data.toList:=by simp [nC]
def arc (a:List ByteArray):(nC a).length=(a.map (·.size)).sum:=by
 induction a with
 | nil=>rfl
 | cons t r ih=>
  show (t.data.toList++nC r).length=t.size+(r.map (·.size)).sum
  rw [yL,ih];rfl
def acu (l:List Nat) (k:Nat):(l.drop k).sum<=l.sum:=by
 induction l generalizing k with
 | nil=>simp
 | cons x l ih=>
  cases k with
  | zero=>simp
  | succ k=>have:=ih k;simp only [List.drop_succ_cons,yba];omega
def Oe:wL->wL
 | .seq a _=>a
 | .block _ a=>a
 | .loop a=>a
 | c=>c
def AN:wL->wL
 | .seq _ b=>b
 | c=>c
noncomputable def ajH:wL:=Oe (Oe (AN (Oe (AN (AN (VE.sL 5 AM))))))
def Of (w0:yh) (ts:List ByteArray) (b o c:Nat) (ds:List yby) (pre:List UInt8) (k:Nat) (a:Act) (w:yh):Prop:=
 k<=ts.length/\a.tmps.size=69/\a.defers=ds/\a.tmps.getD 6 undef= .slice (some ⟨b,o,none⟩) ts.length c/\a.tmps.getD 10 undef= .pointer (some ⟨w0.heap.size,0,none⟩)/\a.tmps.getD 11 undef= .int .i64 ((k:Int)-1)/\
  Lib.IsBuilder 226 5 w0.heap.size w0.heap.size (Lib.byteCells (pre++nC (ts.drop k).reverse)) w/\Below w0.heap.size w0 w
def XA (a:Act):Nat:=match a.tmps.getD 11 undef with
 | .int _ z=>(z+1).toNat
 | _=>0
set_option maxHeartbeats 4000000 in
def acv {Q:Exit->Act->yh->Prop} {w0:yh} {ts:List ByteArray} {b o c:Nat} {ds:List yby} {pre:List UInt8} (hc:∀i (h:i<ts.length),w0.cell? ⟨b,o+i,none⟩=some (.string ts[i])) (eP:pre.length<=1)
  (hl:(ts.map (·.size)).sum+1<=140737488355328) (hn:ts.length<=c) (dV:ts.length<9223372036854775808) (hQ:∀a w,Of w0 ts b o c ds pre 0 a w->Q (.exit 2) a w):∀a w,(∃k,Of w0 ts b o c ds pre k a w)->(Code.loop ajH).wpIn Fence.wide 0 Tryz.prog Q a w:=by
 intro a w h0;refine wpIn_loop (fun a w=>∃k,Of w0 ts b o c ds pre k a w) (fun a _=>XA a) h0 ?_;rintro a w ⟨k,hk,eh,rfl,h6,ig,GH,C6,C7⟩;have hm:XA a=k:=by
  unfold XA;rw [GH];simp
 simp only [hm];simp only [ajH,AM,Tryz.f172,vR,VE.sL,Oe,AN];obtain ⟨⟨l⟩,ds⟩:=a;obtain ⟨x0,x1,x2,x3,x4,x5,x6,x7,x8,x9,Bj,C4,FI,FJ,FK,FL,FM,FN,FO,FP,FQ,FR,FT,FU,FV,FW,FX,FY,FZ,F0,F1,F2,F3,F5,F6,F7,F8,F9,Ga,Gb,Gc,Gd,Ge,Gf,Gg,Gh,Gi,Gj,Gk,Gl,Gm,Gn,Gp,Gq,Gr,Gs,Gt,Gu,Gv,Gw,Gx,Gy,Gz,GA,GB,GC,GD,GF,GG,rfl⟩:=RG (l:=l) eh;have e6:x6= .slice (some ⟨b,o,none⟩) ts.length c:=h6;have Zd:Bj= .pointer (some ⟨w0.heap.size,0,none⟩):=ig;have e11:C4= .int .i64 ((k:Int)-1):=GH;clear h6 ig GH hm eh;subst e6;subst Zd;subst e11
 cases k with
 | zero=>
  gi_wp2
  exact ⟨Nat.zero_le _,rfl,rfl,rfl,rfl,rfl,C6,C7⟩
 | succ k=>
  have hi:k<ts.length:=hk;have sG:=hc k hi;have aGZ:w.cell? ⟨b,o+k,none⟩=some (.string ts[k]):=(C7.cell (World.block_lt_of_cell? _ _ sG)).trans sG;have e1:((k+1:Nat):Int)-1=(k:Int):=by omega
  rw [e1]
  gi_wp2
  refine ⟨trivial,rfl,callsIn_wide.2 ((Tryz.Builder_WriteString _ _ _ ts[k] w C6 ?_ C7.size).mono ?_)⟩
  ·have h1:=arc (ts.drop (k+1)).reverse;have h2:=acu (ts.map (·.size)) (k+1);have h3:(ts.map (·.size)).drop k=ts[k].size::(ts.map (·.size)).drop (k+1):=by
    rw [yX (by simpa using hi)];simp
   have h4:=acu (ts.map (·.size)) k;rw [h3,yba] at h4;rw [Lib.byteCells_length,yL,h1,List.map_reverse,List.sum_reverse,List.map_drop];omega
  ·rintro e w' ⟨rfl,cC,Jt⟩;have hd:pre++nC (ts.drop k).reverse=pre++nC (ts.drop (k+1)).reverse++ts[k].data.toList:=by
    rw [yX hi,List.reverse_cons,ao7,List.append_assoc]
   rw [Lib.strCells_eq,<-Lib.byteCells_append,<-hd] at cC;have hw:wrap64 ((k:Int)-1)=(k:Int)-1:=by unfold wrap64;omega
   simp only
   gi_wp2
   refine ⟨⟨k,by omega,rfl,rfl,rfl,rfl,rfl,.inr cC,C7.trans Jt⟩,?_⟩;show ((k:Int)-1+1).toNat<k+1
   omega
set_option maxHeartbeats 4000000 in
def ard {Q:Exit->Act->yh->Prop} (a:Act) (w:yh) (neg:Bool) (ts:List ByteArray) (b o c:Nat) (eh:a.tmps.size=69) (h3:a.tmps.getD 3 undef= .bool neg) (h6:a.tmps.getD 6 undef= .slice (some ⟨b,o,none⟩) ts.length c)
  (hc:∀i (h:i<ts.length),w.cell? ⟨b,o+i,none⟩=some (.string ts[i])) (hl:(ts.map (·.size)).sum+1<=140737488355328) (hn:ts.length<=c) (dV:ts.length<9223372036854775808)
  (hQ:∀a' w',VE.Calm w w'->a'.tmps.size=69->a'.defers=a.defers->a'.tmps.getD 2 undef= .string ⟨((if neg then [45] else [])++nC ts.reverse).toArray⟩->Q .ret a' w'):
  (VE.sL 5 AM).wpIn Fence.wide 0 Tryz.prog Q a w:=by
 simp only [AM,Tryz.f172,vR,VE.sL];obtain ⟨⟨l⟩,ds⟩:=a;obtain ⟨x0,x1,x2,x3,x4,x5,x6,x7,x8,x9,Bj,C4,FI,FJ,FK,FL,FM,FN,FO,FP,FQ,FR,FT,FU,FV,FW,FX,FY,FZ,F0,F1,F2,F3,F5,F6,F7,F8,F9,Ga,Gb,Gc,Gd,Ge,Gf,Gg,Gh,Gi,Gj,Gk,Gl,Gm,Gn,Gp,Gq,Gr,Gs,Gt,Gu,Gv,Gw,Gx,Gy,Gz,GA,GB,GC,GD,GF,GG,rfl⟩:=RG (l:=l) eh;have e3:x3= .bool neg:=h3;have e6:x6= .slice (some ⟨b,o,none⟩) ts.length c:=h6;clear h3 h6 eh;subst e3;subst e6;have hw:wrap64 ((ts.length:Int)-1)=(ts.length:Int)-1:=by unfold wrap64;omega
 obtain ⟨pre,hp⟩:∃pre:List UInt8,(if neg then [45] else [])=pre:=⟨_,rfl⟩;rw [hp] at hQ;have fin:∀(a:Act) (w':yh) (K:Act->yh->Prop),Of w ts b o c ds pre 0 a w'->
   (∀(a:Act) (w:yh),Code.wpIn Fence.wide 0 Tryz.prog (AN (AN (AN (VE.sL 5 AM)))) Q a w->K a w)->K a w':=by
  rintro a w' K ⟨_,eh,rfl,h6,ig,GH,C6,C7⟩ hK;clear hp;refine hK _ _ ?_;simp only [AM,Tryz.f172,vR,VE.sL,AN];obtain ⟨⟨l⟩,ds⟩:=a;obtain ⟨x0,x1,x2,x3,x4,x5,x6,x7,x8,x9,Bj,C4,FI,FJ,FK,FL,FM,FN,FO,FP,FQ,FR,FT,FU,FV,FW,FX,FY,FZ,F0,F1,F2,F3,F5,F6,F7,F8,F9,Ga,Gb,Gc,Gd,Ge,Gf,Gg,Gh,Gi,Gj,Gk,Gl,Gm,Gn,Gp,Gq,Gr,Gs,Gt,Gu,Gv,Gw,Gx,Gy,Gz,GA,GB,GC,GD,GF,GG,rfl⟩:=RG (l:=l) eh;have Zd:Bj= .pointer (some ⟨w.heap.size,0,none⟩):=ig;subst Zd
  gi_wp2
  refine ⟨trivial,rfl,callsIn_wide.2 ((Tryz.Builder_String_any _ _ _ _ C6 C7.size).mono ?_)⟩;rintro e w2 ⟨rfl,Jt⟩;simp only
  gi_wp2
  exact hQ _ _ (VE.GW (C7.trans Jt)) rfl rfl rfl
 cases neg with
 | false=>
  cases hp
  gi_wp2
  refine acv (pre:=[]) hc (by simp) hl hn dV (fun a w' hI=>?_) _ _ ⟨ts.length,yo _,rfl,rfl,rfl,rfl,?_,?_,?_⟩
  ·simp only [Exit.inBlock,Exit.then];exact fin a w' _ hI (by assumption)
  ·rfl
  ·rw [yaw];exact Lib.fresh_isBuilder _ _ w
  ·exact (Below.refl _ w).alloc (yo _) _
 | true=>
  cases hp
  gi_wp2
  refine ⟨trivial,rfl,callsIn_wide.2 ((Tryz.Builder_WriteString _ _ [] _ _ (Lib.fresh_isBuilder _ _ w) (by decide) (by simp)).mono ?_)⟩;rintro e w' ⟨rfl,cC,Jt⟩;simp only
  gi_wp2
  refine acv (pre:=[45]) hc (by simp) hl hn dV (fun a w' hI=>?_) _ _ ⟨ts.length,yo _,rfl,rfl,rfl,rfl,?_,?_,?_⟩
  ·simp only [Exit.inBlock,Exit.then];exact fin a w' _ hI (by assumption)
  ·rfl
  ·rw [yaw];exact .inr cC
  ·exact ((Below.refl _ w).alloc (yo _) _).trans Jt
def are:VE.Q2 Tryz.prog AM:=fun _ a w neg ts b o c h1 h2 h3 h4 h5 h6 h7 h8=>ard a w neg ts b o c h1 h2 h3 h4 h5 h6 h7 h8
end Go.Proofs
