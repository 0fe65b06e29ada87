import Derived.TacticsIn
import Derived.LoopNIn
import Derived.OwnWalk
import Derived.WalkKit
import Derived.Test.YtmedhadbdofioaaGreatDoorTai
import Derived.Test.YtmedhadbdofioaaGreatDoorTav
import Derived.Test.YtmedhadbdofioaaGreatDoorTah
set_option linter.all false
set_option maxRecDepth 100000
open Go renaming Code→wI,Deferred→yaZ,World→yi
open List renaming drop_eq_getElem_cons→yL,drop_length→yad,length_append→yQ,sum_cons→yaz
open Nat renaming le_refl→yC
open Option renaming getD_some→wT
namespace Go.Proofs
open Go.Shelf
open Go.RowKit
def bY {α:Type} {l:List α} {n:Nat} (h:l.length=n+1):∃x r,l=x::r/\r.length=n:=by
 cases l with
 | nil=>simp at h
 | cons x r=>exact ⟨x,r,rfl,by simpa using h⟩
def SS {α:Type} {l:List α} (h0:l.length=69):∃x0 x1 x2 x3 x4 x5 x6 x7 x8 x9 B6 DN Gg Gh Gi Gj Gk Gl Gm Gn Gp Gq Gr Gs Gt Gu Gv Gw Gx Gy Gz GA GB GC GD GF GG GH GI GJ GK GL GM GN GO GP GQ GR GS GU GV GW GX GY GZ G0 G1 G2 G3 G4 G5 G6 G7 G8 G9 Ha Hb Hc Hd,l=[x0,x1,x2,x3,x4,x5,x6,x7,x8,x9,B6,DN,Gg,Gh,Gi,Gj,Gk,Gl,Gm,Gn,Gp,Gq,Gr,Gs,Gt,Gu,Gv,Gw,Gx,Gy,Gz,GA,GB,GC,GD,GF,GG,GH,GI,GJ,GK,GL,GM,GN,GO,GP,GQ,GR,GS,GU,GV,GW,GX,GY,GZ,G0,G1,G2,G3,G4,G5,G6,G7,G8,G9,Ha,Hb,Hc,Hd]:=by
 obtain ⟨x0,l0,rfl,h1⟩:=bY h0;obtain ⟨x1,l1,rfl,h2⟩:=bY h1;obtain ⟨x2,l2,rfl,h3⟩:=bY h2;obtain ⟨x3,l3,rfl,h4⟩:=bY h3;obtain ⟨x4,l4,rfl,h5⟩:=bY h4;obtain ⟨x5,l5,rfl,h6⟩:=bY h5;obtain ⟨x6,l6,rfl,h7⟩:=bY h6;obtain ⟨x7,l7,rfl,h8⟩:=bY h7;obtain ⟨x8,l8,rfl,h9⟩:=bY h8;obtain ⟨x9,l9,rfl,iT⟩:=bY h9;obtain ⟨B6,l10,rfl,qW⟩:=bY iT;obtain ⟨DN,l11,rfl,h12⟩:=bY qW;obtain ⟨Gg,l12,rfl,h13⟩:=bY h12;obtain ⟨Gh,l13,rfl,h14⟩:=bY h13;obtain ⟨Gi,l14,rfl,h15⟩:=bY h14;obtain ⟨Gj,l15,rfl,h16⟩:=bY h15;obtain ⟨Gk,l16,rfl,h17⟩:=bY h16;obtain ⟨Gl,l17,rfl,h18⟩:=bY h17;obtain ⟨Gm,l18,rfl,h19⟩:=bY h18;obtain ⟨Gn,l19,rfl,mP⟩:=bY h19;obtain ⟨Gp,l20,rfl,DO⟩:=bY mP;obtain ⟨Gq,l21,rfl,h22⟩:=bY DO;obtain ⟨Gr,l22,rfl,h23⟩:=bY h22;obtain ⟨Gs,l23,rfl,WY⟩:=bY h23
 obtain ⟨Gt,l24,rfl,h25⟩:=bY WY;obtain ⟨Gu,l25,rfl,h26⟩:=bY h25;obtain ⟨Gv,l26,rfl,h27⟩:=bY h26;obtain ⟨Gw,l27,rfl,h28⟩:=bY h27;obtain ⟨Gx,l28,rfl,h29⟩:=bY h28;obtain ⟨Gy,l29,rfl,pL⟩:=bY h29;obtain ⟨Gz,l30,rfl,fK⟩:=bY pL;obtain ⟨GA,l31,rfl,Wt⟩:=bY fK;obtain ⟨GB,l32,rfl,og⟩:=bY Wt;obtain ⟨GC,l33,rfl,nm⟩:=bY og;obtain ⟨GD,l34,rfl,WZ⟩:=bY nm;obtain ⟨GF,l35,rfl,W0⟩:=bY WZ;obtain ⟨GG,l36,rfl,W1⟩:=bY W0;obtain ⟨GH,l37,rfl,KW⟩:=bY W1;obtain ⟨GI,l38,rfl,W2⟩:=bY KW;obtain ⟨GJ,l39,rfl,Qj⟩:=bY W2;obtain ⟨GK,l40,rfl,W3⟩:=bY Qj;obtain ⟨GL,l41,rfl,sD⟩:=bY W3;obtain ⟨GM,l42,rfl,h43⟩:=bY sD;obtain ⟨GN,l43,rfl,h44⟩:=bY h43;obtain ⟨GO,l44,rfl,h45⟩:=bY h44;obtain ⟨GP,l45,rfl,WV⟩:=bY h45;obtain ⟨GQ,l46,rfl,h47⟩:=bY WV
 obtain ⟨GR,l47,rfl,jD⟩:=bY h47;obtain ⟨GS,l48,rfl,ot⟩:=bY jD;obtain ⟨GU,l49,rfl,WT⟩:=bY ot;obtain ⟨GV,l50,rfl,Qk⟩:=bY WT;obtain ⟨GW,l51,rfl,h52⟩:=bY Qk;obtain ⟨GX,l52,rfl,W4⟩:=bY h52;obtain ⟨GY,l53,rfl,W5⟩:=bY W4;obtain ⟨GZ,l54,rfl,He⟩:=bY W5;obtain ⟨G0,l55,rfl,W6⟩:=bY He;obtain ⟨G1,l56,rfl,W7⟩:=bY W6;obtain ⟨G2,l57,rfl,h58⟩:=bY W7;obtain ⟨G3,l58,rfl,Ap⟩:=bY h58;obtain ⟨G4,l59,rfl,W8⟩:=bY Ap;obtain ⟨G5,l60,rfl,W9⟩:=bY W8;obtain ⟨G6,l61,rfl,Qe⟩:=bY W9;obtain ⟨G7,l62,rfl,Pm⟩:=bY Qe;obtain ⟨G8,l63,rfl,Ql⟩:=bY Pm;obtain ⟨G9,l64,rfl,Xa⟩:=bY Ql;obtain ⟨Ha,l65,rfl,Xb⟩:=bY Xa;obtain ⟨Hb,l66,rfl,Xc⟩:=bY Xb;obtain ⟨Hc,l67,rfl,Xd⟩:=bY Xc;obtain ⟨Hd,l68,rfl,WS⟩:=bY Xd;cases List.eq_nil_of_length_eq_zero WS
 exact ⟨x0,x1,x2,x3,x4,x5,x6,x7,x8,x9,B6,DN,Gg,Gh,Gi,Gj,Gk,Gl,Gm,Gn,Gp,Gq,Gr,Gs,Gt,Gu,Gv,Gw,Gx,Gy,Gz,GA,GB,GC,GD,GF,GG,GH,GI,GJ,GK,GL,GM,GN,GO,GP,GQ,GR,GS,GU,GV,GW,GX,GY,GZ,G0,G1,G2,G3,G4,G5,G6,G7,G8,G9,Ha,Hb,Hc,Hd,rfl⟩
noncomputable def BE:wI:=Tryz.f158.body.getD .skip
open VE (nU)
def alG (a:List ByteArray) (t:ByteArray):nU (a++[t])=nU a++t.data.toList:=by simp [nU]
def anY (a:List ByteArray):(nU a).length=(a.map (·.size)).sum:=by
 induction a with
 | nil=>rfl
 | cons t r ih=>
  show (t.data.toList++nU r).length=t.size+(r.map (·.size)).sum
  rw [yQ,ih];rfl
def aaS (l:List Nat) (k:Nat):(l.drop k).sum<=l.sum:=by
 induction l generalizing k with
 | nil=>simp
 | cons x l ih=>
  cases k with
  | zero=>simp
  | succ k=>have:=ih k;simp only [List.drop_succ_cons,yaz];omega
def OU:wI->wI
 | .seq a _=>a
 | .block _ a=>a
 | .loop a=>a
 | c=>c
def BF:wI->wI
 | .seq _ b=>b
 | c=>c
noncomputable def age:wI:=OU (OU (BF (OU (BF (BF (VE.zC 5 BE))))))
def OV (w0:yi) (ts:List ByteArray) (b o c:Nat) (ds:List yaZ) (pre:List UInt8) (k:Nat) (a:Act) (w:yi):Prop:=
 k<=ts.length/\a.tmps.size=69/\a.defers=ds/\a.tmps.getD 6 undef= .slice (some ⟨b,o,none⟩) ts.length c/\a.tmps.getD 10 undef= .pointer (some ⟨w0.heap.size,0,none⟩)/\a.tmps.getD 11 undef= .int .i64 ((k:Int)-1)/\
  Lib.IsBuilder 250 5 w0.heap.size w0.heap.size (Lib.byteCells (pre++nU (ts.drop k).reverse)) w/\Below w0.heap.size w0 w
def UQ (a:Act):Nat:=match a.tmps.getD 11 undef with
 | .int _ z=>(z+1).toNat
 | _=>0
set_option maxHeartbeats 4000000 in
def aaT {Q:Exit->Act->yi->Prop} {w0:yi} {ts:List ByteArray} {b o c:Nat} {ds:List yaZ} {pre:List UInt8} (hc:∀i (h:i<ts.length),w0.cell? ⟨b,o+i,none⟩=some (.string ts[i])) (fp:pre.length<=1)
  (hl:(ts.map (·.size)).sum+1<=140737488355328) (hn:ts.length<=c) (eH:ts.length<9223372036854775808) (hQ:∀a w,OV w0 ts b o c ds pre 0 a w->Q (.exit 2) a w):∀a w,(∃k,OV w0 ts b o c ds pre k a w)->(Code.loop age).wpIn Fence.wide 0 Tryz.prog Q a w:=by
 intro a w h0;refine wpIn_loop (fun a w=>∃k,OV w0 ts b o c ds pre k a w) (fun a _=>UQ a) h0 ?_;rintro a w ⟨k,hk,fa,rfl,h6,iT,qW,pQ,DP⟩;have hm:UQ a=k:=by
  unfold UQ;rw [qW];simp
 simp only [hm];simp only [age,BE,Tryz.f158,wT,VE.zC,OU,BF];obtain ⟨⟨l⟩,ds⟩:=a;obtain ⟨x0,x1,x2,x3,x4,x5,x6,x7,x8,x9,B6,DN,Gg,Gh,Gi,Gj,Gk,Gl,Gm,Gn,Gp,Gq,Gr,Gs,Gt,Gu,Gv,Gw,Gx,Gy,Gz,GA,GB,GC,GD,GF,GG,GH,GI,GJ,GK,GL,GM,GN,GO,GP,GQ,GR,GS,GU,GV,GW,GX,GY,GZ,G0,G1,G2,G3,G4,G5,G6,G7,G8,G9,Ha,Hb,Hc,Hd,rfl⟩:=SS (l:=l) fa;have e6:x6= .slice (some ⟨b,o,none⟩) ts.length c:=h6;have AD:B6= .pointer (some ⟨w0.heap.size,0,none⟩):=iT;have e11:DN= .int .i64 ((k:Int)-1):=qW;clear h6 iT qW hm fa;subst e6;subst AD;subst e11
 cases k with
 | zero=>
  gi_wp2
  exact ⟨Nat.zero_le _,rfl,rfl,rfl,rfl,rfl,pQ,DP⟩
 | succ k=>
  have hi:k<ts.length:=hk;have rB:=hc k hi;have aAL:w.cell? ⟨b,o+k,none⟩=some (.string ts[k]):=(DP.cell (World.block_lt_of_cell? _ _ rB)).trans rB;have e1:((k+1:Nat):Int)-1=(k:Int):=by omega
  rw [e1]
  gi_wp2
  refine ⟨trivial,rfl,callsIn_wide.2 ((Tryz.Builder_WriteString _ _ _ ts[k] w pQ ?_ DP.size).mono ?_)⟩
  ·have h1:=anY (ts.drop (k+1)).reverse;have h2:=aaS (ts.map (·.size)) (k+1);have h3:(ts.map (·.size)).drop k=ts[k].size::(ts.map (·.size)).drop (k+1):=by
    rw [yL (by simpa using hi)];simp
   have h4:=aaS (ts.map (·.size)) k;rw [h3,yaz] at h4;rw [Lib.byteCells_length,yQ,h1,List.map_reverse,List.sum_reverse,List.map_drop];omega
  ·rintro e w' ⟨rfl,cY,J6⟩;have hd:pre++nU (ts.drop k).reverse=pre++nU (ts.drop (k+1)).reverse++ts[k].data.toList:=by
    rw [yL hi,List.reverse_cons,alG,List.append_assoc]
   rw [Lib.strCells_eq,<-Lib.byteCells_append,<-hd] at cY;have hw:wrap64 ((k:Int)-1)=(k:Int)-1:=by unfold wrap64;omega
   simp only
   gi_wp2
   refine ⟨⟨k,by omega,rfl,rfl,rfl,rfl,rfl,.inr cY,DP.trans J6⟩,?_⟩;show ((k:Int)-1+1).toNat<k+1
   omega
set_option maxHeartbeats 4000000 in
def anZ {Q:Exit->Act->yi->Prop} (a:Act) (w:yi) (neg:Bool) (ts:List ByteArray) (b o c:Nat) (fa:a.tmps.size=69) (h3:a.tmps.getD 3 undef= .bool neg) (h6:a.tmps.getD 6 undef= .slice (some ⟨b,o,none⟩) ts.length c)
  (hc:∀i (h:i<ts.length),w.cell? ⟨b,o+i,none⟩=some (.string ts[i])) (hl:(ts.map (·.size)).sum+1<=140737488355328) (hn:ts.length<=c) (eH:ts.length<9223372036854775808)
  (hQ:∀a' w',VE.Calm w w'->a'.tmps.size=69->a'.defers=a.defers->a'.tmps.getD 2 undef= .string ⟨((if neg then [45] else [])++nU ts.reverse).toArray⟩->Q .ret a' w'):
  (VE.zC 5 BE).wpIn Fence.wide 0 Tryz.prog Q a w:=by
 simp only [BE,Tryz.f158,wT,VE.zC];obtain ⟨⟨l⟩,ds⟩:=a;obtain ⟨x0,x1,x2,x3,x4,x5,x6,x7,x8,x9,B6,DN,Gg,Gh,Gi,Gj,Gk,Gl,Gm,Gn,Gp,Gq,Gr,Gs,Gt,Gu,Gv,Gw,Gx,Gy,Gz,GA,GB,GC,GD,GF,GG,GH,GI,GJ,GK,GL,GM,GN,GO,GP,GQ,GR,GS,GU,GV,GW,GX,GY,GZ,G0,G1,G2,G3,G4,G5,G6,G7,G8,G9,Ha,Hb,Hc,Hd,rfl⟩:=SS (l:=l) fa;have e3:x3= .bool neg:=h3;have e6:x6= .slice (some ⟨b,o,none⟩) ts.length c:=h6;clear h3 h6 fa;subst e3;subst e6;have hw:wrap64 ((ts.length:Int)-1)=(ts.length:Int)-1:=by unfold wrap64;omega
 obtain ⟨pre,hp⟩:∃pre:List UInt8,(if neg then [45] else [])=pre:=⟨_,rfl⟩;rw [hp] at hQ;have fin:∀(a:Act) (w':yi) (K:Act->yi->Prop),OV w ts b o c ds pre 0 a w'->
   (∀(a:Act) (w:yi),Code.wpIn Fence.wide 0 Tryz.prog (BF (BF (BF (VE.zC 5 BE)))) Q a w->K a w)->K a w':=by
  rintro a w' K ⟨_,fa,rfl,h6,iT,qW,pQ,DP⟩ hK;clear hp;refine hK _ _ ?_;simp only [BE,Tryz.f158,wT,VE.zC,BF];obtain ⟨⟨l⟩,ds⟩:=a;obtain ⟨x0,x1,x2,x3,x4,x5,x6,x7,x8,x9,B6,DN,Gg,Gh,Gi,Gj,Gk,Gl,Gm,Gn,Gp,Gq,Gr,Gs,Gt,Gu,Gv,Gw,Gx,Gy,Gz,GA,GB,GC,GD,GF,GG,GH,GI,GJ,GK,GL,GM,GN,GO,GP,GQ,GR,GS,GU,GV,GW,GX,GY,GZ,G0,G1,G2,G3,G4,G5,G6,G7,G8,G9,Ha,Hb,Hc,Hd,rfl⟩:=SS (l:=l) fa;have AD:B6= .pointer (some ⟨w.heap.size,0,none⟩):=iT;subst AD
  gi_wp2
  refine ⟨trivial,rfl,callsIn_wide.2 ((Tryz.Builder_String_any _ _ _ _ pQ DP.size).mono ?_)⟩;rintro e w2 ⟨rfl,J6⟩;simp only
  gi_wp2
  exact hQ _ _ (VE.Hz (DP.trans J6)) rfl rfl rfl
 cases neg with
 | false=>
  cases hp
  gi_wp2
  refine aaT (pre:=[]) hc (by simp) hl hn eH (fun a w' hI=>?_) _ _ ⟨ts.length,yC _,rfl,rfl,rfl,rfl,?_,?_,?_⟩
  ·simp only [Exit.inBlock,Exit.then];exact fin a w' _ hI (by assumption)
  ·rfl
  ·rw [yad];exact Lib.fresh_isBuilder _ _ w
  ·exact (Below.refl _ w).alloc (yC _) _
 | true=>
  cases hp
  gi_wp2
  refine ⟨trivial,rfl,callsIn_wide.2 ((Tryz.Builder_WriteString _ _ [] _ _ (Lib.fresh_isBuilder _ _ w) (by decide) (by simp)).mono ?_)⟩;rintro e w' ⟨rfl,cY,J6⟩;simp only
  gi_wp2
  refine aaT (pre:=[45]) hc (by simp) hl hn eH (fun a w' hI=>?_) _ _ ⟨ts.length,yC _,rfl,rfl,rfl,rfl,?_,?_,?_⟩
  ·simp only [Exit.inBlock,Exit.then];exact fin a w' _ hI (by assumption)
  ·rfl
  ·rw [yad];exact .inr cY
  ·exact ((Below.refl _ w).alloc (yC _) _).trans J6
def an0:VE.Sm Tryz.prog BE:=fun _ a w neg ts b o c h1 h2 h3 h4 h5 h6 h7 h8=>anZ a w neg ts b o c h1 h2 h3 h4 h5 h6 h7 h8
end Go.Proofs
