import Derived.TacticsIn
import Derived.LoopNIn
import Derived.OwnWalk
import Derived.WalkKit
import Derived.Test.YtjemkccfpkgopaaGreatDoorXae
import Derived.Test.YtjemkccfpkgopaaGreatDoorXaq
import Derived.Test.YtjemkccfpkgopaaGreatDoorXad
set_option linter.all false
set_option maxRecDepth 100000
open Go renaming Code→wX,Deferred→tr,World→yi
open List renaming drop_eq_getElem_cons→yU,drop_length→yaH,length_append→yL,sum_cons→ybb
open Nat renaming le_refl→yr
open Option renaming getD_some→ua
namespace Go.Proofs
open Go.Shelf
open Go.RowKit
def bV {α:Type} {l:List α} {n:Nat} (h:l.length=n+1):∃x r,l=x::r/\r.length=n:=by
 cases l with
 | nil=>simp at h
 | cons x r=>exact ⟨x,r,rfl,by simpa using h⟩
def Sz {α:Type} {l:List α} (h0:l.length=69):∃x0 x1 x2 x3 x4 x5 x6 x7 x8 x9 B3 DO Gq Gr Gs Gt Gu Gv Gw Gx Gy Gz GA GB GC GD GF GG GH GI GJ GK GL GM GN GO GP GQ GR GS GU GV GW GX GY GZ G0 G1 G2 G3 G4 G5 G6 G7 G8 G9 Ha Hb Hc Hd He Hf Hg Hh Hi Hj Hk Hl Hm,l=[x0,x1,x2,x3,x4,x5,x6,x7,x8,x9,B3,DO,Gq,Gr,Gs,Gt,Gu,Gv,Gw,Gx,Gy,Gz,GA,GB,GC,GD,GF,GG,GH,GI,GJ,GK,GL,GM,GN,GO,GP,GQ,GR,GS,GU,GV,GW,GX,GY,GZ,G0,G1,G2,G3,G4,G5,G6,G7,G8,G9,Ha,Hb,Hc,Hd,He,Hf,Hg,Hh,Hi,Hj,Hk,Hl,Hm]:=by
 obtain ⟨x0,l0,rfl,h1⟩:=bV h0;obtain ⟨x1,l1,rfl,h2⟩:=bV h1;obtain ⟨x2,l2,rfl,h3⟩:=bV h2;obtain ⟨x3,l3,rfl,h4⟩:=bV h3;obtain ⟨x4,l4,rfl,h5⟩:=bV h4;obtain ⟨x5,l5,rfl,h6⟩:=bV h5;obtain ⟨x6,l6,rfl,h7⟩:=bV h6;obtain ⟨x7,l7,rfl,h8⟩:=bV h7;obtain ⟨x8,l8,rfl,h9⟩:=bV h8;obtain ⟨x9,l9,rfl,iE⟩:=bV h9;obtain ⟨B3,l10,rfl,Hn⟩:=bV iE;obtain ⟨DO,l11,rfl,h12⟩:=bV Hn;obtain ⟨Gq,l12,rfl,h13⟩:=bV h12;obtain ⟨Gr,l13,rfl,h14⟩:=bV h13;obtain ⟨Gs,l14,rfl,h15⟩:=bV h14;obtain ⟨Gt,l15,rfl,h16⟩:=bV h15;obtain ⟨Gu,l16,rfl,h17⟩:=bV h16;obtain ⟨Gv,l17,rfl,h18⟩:=bV h17;obtain ⟨Gw,l18,rfl,h19⟩:=bV h18;obtain ⟨Gx,l19,rfl,nC⟩:=bV h19;obtain ⟨Gy,l20,rfl,h21⟩:=bV nC;obtain ⟨Gz,l21,rfl,h22⟩:=bV h21;obtain ⟨GA,l22,rfl,h23⟩:=bV h22;obtain ⟨GB,l23,rfl,h24⟩:=bV h23
 obtain ⟨GC,l24,rfl,h25⟩:=bV h24;obtain ⟨GD,l25,rfl,h26⟩:=bV h25;obtain ⟨GF,l26,rfl,h27⟩:=bV h26;obtain ⟨GG,l27,rfl,K8⟩:=bV h27;obtain ⟨GH,l28,rfl,Ho⟩:=bV K8;obtain ⟨GI,l29,rfl,h30⟩:=bV Ho;obtain ⟨GJ,l30,rfl,h31⟩:=bV h30;obtain ⟨GK,l31,rfl,h32⟩:=bV h31;obtain ⟨GL,l32,rfl,h33⟩:=bV h32;obtain ⟨GM,l33,rfl,h34⟩:=bV h33;obtain ⟨GN,l34,rfl,h35⟩:=bV h34;obtain ⟨GO,l35,rfl,h36⟩:=bV h35;obtain ⟨GP,l36,rfl,h37⟩:=bV h36;obtain ⟨GQ,l37,rfl,h38⟩:=bV h37;obtain ⟨GR,l38,rfl,h39⟩:=bV h38;obtain ⟨GS,l39,rfl,h40⟩:=bV h39;obtain ⟨GU,l40,rfl,h41⟩:=bV h40;obtain ⟨GV,l41,rfl,h42⟩:=bV h41;obtain ⟨GW,l42,rfl,h43⟩:=bV h42;obtain ⟨GX,l43,rfl,h44⟩:=bV h43;obtain ⟨GY,l44,rfl,h45⟩:=bV h44;obtain ⟨GZ,l45,rfl,ZN⟩:=bV h45;obtain ⟨G0,l46,rfl,h47⟩:=bV ZN
 obtain ⟨G1,l47,rfl,jC⟩:=bV h47;obtain ⟨G2,l48,rfl,oE⟩:=bV jC;obtain ⟨G3,l49,rfl,h50⟩:=bV oE;obtain ⟨G4,l50,rfl,h51⟩:=bV h50;obtain ⟨G5,l51,rfl,h52⟩:=bV h51;obtain ⟨G6,l52,rfl,h53⟩:=bV h52;obtain ⟨G7,l53,rfl,h54⟩:=bV h53;obtain ⟨G8,l54,rfl,h55⟩:=bV h54;obtain ⟨G9,l55,rfl,h56⟩:=bV h55;obtain ⟨Ha,l56,rfl,h57⟩:=bV h56;obtain ⟨Hb,l57,rfl,h58⟩:=bV h57;obtain ⟨Hc,l58,rfl,h59⟩:=bV h58;obtain ⟨Hd,l59,rfl,h60⟩:=bV h59;obtain ⟨He,l60,rfl,h61⟩:=bV h60;obtain ⟨Hf,l61,rfl,PY⟩:=bV h61;obtain ⟨Hg,l62,rfl,h63⟩:=bV PY;obtain ⟨Hh,l63,rfl,DP⟩:=bV h63;obtain ⟨Hi,l64,rfl,h65⟩:=bV DP;obtain ⟨Hj,l65,rfl,h66⟩:=bV h65;obtain ⟨Hk,l66,rfl,h67⟩:=bV h66;obtain ⟨Hl,l67,rfl,h68⟩:=bV h67;obtain ⟨Hm,l68,rfl,ZJ⟩:=bV h68;cases List.eq_nil_of_length_eq_zero ZJ
 exact ⟨x0,x1,x2,x3,x4,x5,x6,x7,x8,x9,B3,DO,Gq,Gr,Gs,Gt,Gu,Gv,Gw,Gx,Gy,Gz,GA,GB,GC,GD,GF,GG,GH,GI,GJ,GK,GL,GM,GN,GO,GP,GQ,GR,GS,GU,GV,GW,GX,GY,GZ,G0,G1,G2,G3,G4,G5,G6,G7,G8,G9,Ha,Hb,Hc,Hd,He,Hf,Hg,Hh,Hi,Hj,Hk,Hl,Hm,rfl⟩
noncomputable def Bw:wX:=Tryz.f172.body.getD .skip
open VE (n9)
def aqr (a:List ByteArray) (t:ByteArray):n9 (a++[t])=n9 a++t.data.toList:=by simp [n9]
def asv (a:List ByteArray):(n9 a).length=(a.map (·.size)).sum:=by
 induction a with
 | nil=>rfl
 | cons t r ih=>
  show (t.data.toList++n9 r).length=t.size+(r.map (·.size)).sum
  rw [yL,ih];rfl
def adi (l:List Nat) (k:Nat):(l.drop k).sum<=l.sum:=by
 induction l generalizing k with
 | nil=>simp
 | cons x l ih=>
  cases k with
  | zero=>simp
  | succ k=>have:=ih k;simp only [List.drop_succ_cons,ybb];omega
def O4:wX->wX
 | .seq a _=>a
 | .block _ a=>a
 | .loop a=>a
 | c=>c
def Bx:wX->wX
 | .seq _ b=>b
 | c=>c
noncomputable def akW:wX:=O4 (O4 (Bx (O4 (Bx (Bx (VE.zB 5 Bw))))))
def O5 (w0:yi) (ts:List ByteArray) (b o c:Nat) (ds:List tr) (pre:List UInt8) (k:Nat) (a:Act) (w:yi):Prop:=
 k<=ts.length/\a.tmps.size=69/\a.defers=ds/\a.tmps.getD 6 undef= .slice (some ⟨b,o,none⟩) ts.length c/\a.tmps.getD 10 undef= .pointer (some ⟨w0.heap.size,0,none⟩)/\a.tmps.getD 11 undef= .int .i64 ((k:Int)-1)/\
  Lib.IsBuilder 226 5 w0.heap.size w0.heap.size (Lib.byteCells (pre++n9 (ts.drop k).reverse)) w/\Below w0.heap.size w0 w
def Ym (a:Act):Nat:=match a.tmps.getD 11 undef with
 | .int _ z=>(z+1).toNat
 | _=>0
set_option maxHeartbeats 4000000 in
def adj {Q:Exit->Act->yi->Prop} {w0:yi} {ts:List ByteArray} {b o c:Nat} {ds:List tr} {pre:List UInt8} (hc:∀i (h:i<ts.length),w0.cell? ⟨b,o+i,none⟩=some (.string ts[i])) (eR:pre.length<=1)
  (hl:(ts.map (·.size)).sum+1<=140737488355328) (hn:ts.length<=c) (dK:ts.length<9223372036854775808) (hQ:∀a w,O5 w0 ts b o c ds pre 0 a w->Q (.exit 2) a w):∀a w,(∃k,O5 w0 ts b o c ds pre k a w)->(Code.loop akW).wpIn Fence.wide 0 Tryz.prog Q a w:=by
 intro a w h0;refine wpIn_loop (fun a w=>∃k,O5 w0 ts b o c ds pre k a w) (fun a _=>Ym a) h0 ?_;rintro a w ⟨k,hk,eG,rfl,h6,iE,Hn,DQ,DR⟩;have hm:Ym a=k:=by
  unfold Ym;rw [Hn];simp
 simp only [hm];simp only [akW,Bw,Tryz.f172,ua,VE.zB,O4,Bx];obtain ⟨⟨l⟩,ds⟩:=a;obtain ⟨x0,x1,x2,x3,x4,x5,x6,x7,x8,x9,B3,DO,Gq,Gr,Gs,Gt,Gu,Gv,Gw,Gx,Gy,Gz,GA,GB,GC,GD,GF,GG,GH,GI,GJ,GK,GL,GM,GN,GO,GP,GQ,GR,GS,GU,GV,GW,GX,GY,GZ,G0,G1,G2,G3,G4,G5,G6,G7,G8,G9,Ha,Hb,Hc,Hd,He,Hf,Hg,Hh,Hi,Hj,Hk,Hl,Hm,rfl⟩:=Sz (l:=l) eG;have e6:x6= .slice (some ⟨b,o,none⟩) ts.length c:=h6;have ZQ:B3= .pointer (some ⟨w0.heap.size,0,none⟩):=iE;have e11:DO= .int .i64 ((k:Int)-1):=Hn;clear h6 iE Hn hm eG;subst e6;subst ZQ;subst e11
 cases k with
 | zero=>
  gi_wp2
  exact ⟨Nat.zero_le _,rfl,rfl,rfl,rfl,rfl,DQ,DR⟩
 | succ k=>
  have hi:k<ts.length:=hk;have zt:=hc k hi;have aHE:w.cell? ⟨b,o+k,none⟩=some (.string ts[k]):=(DR.cell (World.block_lt_of_cell? _ _ zt)).trans zt;have e1:((k+1:Nat):Int)-1=(k:Int):=by omega
  rw [e1]
  gi_wp2
  refine ⟨trivial,rfl,callsIn_wide.2 ((Tryz.Builder_WriteString _ _ _ ts[k] w DQ ?_ DR.size).mono ?_)⟩
  ·have h1:=asv (ts.drop (k+1)).reverse;have h2:=adi (ts.map (·.size)) (k+1);have h3:(ts.map (·.size)).drop k=ts[k].size::(ts.map (·.size)).drop (k+1):=by
    rw [yU (by simpa using hi)];simp
   have h4:=adi (ts.map (·.size)) k;rw [h3,ybb] at h4;rw [Lib.byteCells_length,yL,h1,List.map_reverse,List.sum_reverse,List.map_drop];omega
  ·rintro e w' ⟨rfl,cw,J9⟩;have hd:pre++n9 (ts.drop k).reverse=pre++n9 (ts.drop (k+1)).reverse++ts[k].data.toList:=by
    rw [yU hi,List.reverse_cons,aqr,List.append_assoc]
   rw [Lib.strCells_eq,<-Lib.byteCells_append,<-hd] at cw;have hw:wrap64 ((k:Int)-1)=(k:Int)-1:=by unfold wrap64;omega
   simp only
   gi_wp2
   refine ⟨⟨k,by omega,rfl,rfl,rfl,rfl,rfl,.inr cw,DR.trans J9⟩,?_⟩;show ((k:Int)-1+1).toNat<k+1
   omega
set_option maxHeartbeats 4000000 in
def asw {Q:Exit->Act->yi->Prop} (a:Act) (w:yi) (neg:Bool) (ts:List ByteArray) (b o c:Nat) (eG:a.tmps.size=69) (h3:a.tmps.getD 3 undef= .bool neg) (h6:a.tmps.getD 6 undef= .slice (some ⟨b,o,none⟩) ts.length c)
  (hc:∀i (h:i<ts.length),w.cell? ⟨b,o+i,none⟩=some (.string ts[i])) (hl:(ts.map (·.size)).sum+1<=140737488355328) (hn:ts.length<=c) (dK:ts.length<9223372036854775808)
  (hQ:∀a' w',VE.Calm w w'->a'.tmps.size=69->a'.defers=a.defers->a'.tmps.getD 2 undef= .string ⟨((if neg then [45] else [])++n9 ts.reverse).toArray⟩->Q .ret a' w'):
  (VE.zB 5 Bw).wpIn Fence.wide 0 Tryz.prog Q a w:=by
 simp only [Bw,Tryz.f172,ua,VE.zB];obtain ⟨⟨l⟩,ds⟩:=a;obtain ⟨x0,x1,x2,x3,x4,x5,x6,x7,x8,x9,B3,DO,Gq,Gr,Gs,Gt,Gu,Gv,Gw,Gx,Gy,Gz,GA,GB,GC,GD,GF,GG,GH,GI,GJ,GK,GL,GM,GN,GO,GP,GQ,GR,GS,GU,GV,GW,GX,GY,GZ,G0,G1,G2,G3,G4,G5,G6,G7,G8,G9,Ha,Hb,Hc,Hd,He,Hf,Hg,Hh,Hi,Hj,Hk,Hl,Hm,rfl⟩:=Sz (l:=l) eG;have e3:x3= .bool neg:=h3;have e6:x6= .slice (some ⟨b,o,none⟩) ts.length c:=h6;clear h3 h6 eG;subst e3;subst e6;have hw:wrap64 ((ts.length:Int)-1)=(ts.length:Int)-1:=by unfold wrap64;omega
 obtain ⟨pre,hp⟩:∃pre:List UInt8,(if neg then [45] else [])=pre:=⟨_,rfl⟩;rw [hp] at hQ;have fin:∀(a:Act) (w':yi) (K:Act->yi->Prop),O5 w ts b o c ds pre 0 a w'->
   (∀(a:Act) (w:yi),Code.wpIn Fence.wide 0 Tryz.prog (Bx (Bx (Bx (VE.zB 5 Bw)))) Q a w->K a w)->K a w':=by
  rintro a w' K ⟨_,eG,rfl,h6,iE,Hn,DQ,DR⟩ hK;clear hp;refine hK _ _ ?_;simp only [Bw,Tryz.f172,ua,VE.zB,Bx];obtain ⟨⟨l⟩,ds⟩:=a;obtain ⟨x0,x1,x2,x3,x4,x5,x6,x7,x8,x9,B3,DO,Gq,Gr,Gs,Gt,Gu,Gv,Gw,Gx,Gy,Gz,GA,GB,GC,GD,GF,GG,GH,GI,GJ,GK,GL,GM,GN,GO,GP,GQ,GR,GS,GU,GV,GW,GX,GY,GZ,G0,G1,G2,G3,G4,G5,G6,G7,G8,G9,Ha,Hb,Hc,Hd,He,Hf,Hg,Hh,Hi,Hj,Hk,Hl,Hm,rfl⟩:=Sz (l:=l) eG;have ZQ:B3= .pointer (some ⟨w.heap.size,0,none⟩):=iE;subst ZQ
  gi_wp2
  refine ⟨trivial,rfl,callsIn_wide.2 ((Tryz.Builder_String_any _ _ _ _ DQ DR.size).mono ?_)⟩;rintro e w2 ⟨rfl,J9⟩;simp only
  gi_wp2
  exact hQ _ _ (VE.HC (DR.trans J9)) rfl rfl rfl
 cases neg with
 | false=>
  cases hp
  gi_wp2
  refine adj (pre:=[]) hc (by simp) hl hn dK (fun a w' hI=>?_) _ _ ⟨ts.length,yr _,rfl,rfl,rfl,rfl,?_,?_,?_⟩
  ·simp only [Exit.inBlock,Exit.then];exact fin a w' _ hI (by assumption)
  ·rfl
  ·rw [yaH];exact Lib.fresh_isBuilder _ _ w
  ·exact (Below.refl _ w).alloc (yr _) _
 | true=>
  cases hp
  gi_wp2
  refine ⟨trivial,rfl,callsIn_wide.2 ((Tryz.Builder_WriteString _ _ [] _ _ (Lib.fresh_isBuilder _ _ w) (by decide) (by simp)).mono ?_)⟩;rintro e w' ⟨rfl,cw,J9⟩;simp only
  gi_wp2
  refine adj (pre:=[45]) hc (by simp) hl hn dK (fun a w' hI=>?_) _ _ ⟨ts.length,yr _,rfl,rfl,rfl,rfl,?_,?_,?_⟩
  ·simp only [Exit.inBlock,Exit.then];exact fin a w' _ hI (by assumption)
  ·rfl
  ·rw [yaH];exact .inr cw
  ·exact ((Below.refl _ w).alloc (yr _) _).trans J9
def asx:VE.R2 Tryz.prog Bw:=fun _ a w neg ts b o c h1 h2 h3 h4 h5 h6 h7 h8=>asw a w neg ts b o c h1 h2 h3 h4 h5 h6 h7 h8
end Go.Proofs
