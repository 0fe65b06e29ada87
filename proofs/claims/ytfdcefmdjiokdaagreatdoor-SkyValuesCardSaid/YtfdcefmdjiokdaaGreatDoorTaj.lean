import Derived.TacticsIn
import Derived.LoopNIn
import Derived.OwnWalk
import Derived.WalkKit
import Derived.Test.YtfdcefmdjiokdaaGreatDoorTac
import Derived.Test.YtfdcefmdjiokdaaGreatDoorTai
import Derived.Test.YtfdcefmdjiokdaaGreatDoorTab
set_option linter.all false
set_option maxRecDepth 100000
open Go renaming Code→wS,Deferred→tT,World→yi
open List renaming drop_eq_getElem_cons→yO,drop_length→ybt,length_append→yR,sum_cons→ybV
open Nat renaming le_refl→yz
open Option renaming getD_some→ui
namespace Go.Proofs
open Go.Shelf
open Go.RowKit
def bO {α:Type} {l:List α} {n:Nat} (h:l.length=n+1):∃x r,l=x::r/\r.length=n:=by
 cases l with
 | nil=>simp at h
 | cons x r=>exact ⟨x,r,rfl,by simpa using h⟩
def RZ {α:Type} {l:List α} (h0:l.length=69):∃x0 x1 x2 x3 x4 x5 x6 x7 x8 x9 BL DC FZ F0 F1 F2 F3 F5 F6 F7 F9 Ga Gb Gc Gd Ge Gf Gg Gh Gi Gj Gk Gl Gm Gn Gp Gq Gr Gs Gt Gu Gv Gw Gx Gy Gz GA GB GC GD GF GG GH GI GJ GK GL GM GN GO GP GQ GR GS GU GV GW GX GY,l=[x0,x1,x2,x3,x4,x5,x6,x7,x8,x9,BL,DC,FZ,F0,F1,F2,F3,F5,F6,F7,F9,Ga,Gb,Gc,Gd,Ge,Gf,Gg,Gh,Gi,Gj,Gk,Gl,Gm,Gn,Gp,Gq,Gr,Gs,Gt,Gu,Gv,Gw,Gx,Gy,Gz,GA,GB,GC,GD,GF,GG,GH,GI,GJ,GK,GL,GM,GN,GO,GP,GQ,GR,GS,GU,GV,GW,GX,GY]:=by
 obtain ⟨x0,l0,rfl,h1⟩:=bO h0;obtain ⟨x1,l1,rfl,h2⟩:=bO h1;obtain ⟨x2,l2,rfl,h3⟩:=bO h2;obtain ⟨x3,l3,rfl,h4⟩:=bO h3;obtain ⟨x4,l4,rfl,h5⟩:=bO h4;obtain ⟨x5,l5,rfl,h6⟩:=bO h5;obtain ⟨x6,l6,rfl,h7⟩:=bO h6;obtain ⟨x7,l7,rfl,h8⟩:=bO h7;obtain ⟨x8,l8,rfl,h9⟩:=bO h8;obtain ⟨x9,l9,rfl,iQ⟩:=bO h9;obtain ⟨BL,l10,rfl,z6⟩:=bO iQ;obtain ⟨DC,l11,rfl,h12⟩:=bO z6;obtain ⟨FZ,l12,rfl,h13⟩:=bO h12;obtain ⟨F0,l13,rfl,h14⟩:=bO h13;obtain ⟨F1,l14,rfl,h15⟩:=bO h14;obtain ⟨F2,l15,rfl,h16⟩:=bO h15;obtain ⟨F3,l16,rfl,h17⟩:=bO h16;obtain ⟨F5,l17,rfl,h18⟩:=bO h17;obtain ⟨F6,l18,rfl,Po⟩:=bO h18;obtain ⟨F7,l19,rfl,mH⟩:=bO Po;obtain ⟨F9,l20,rfl,h21⟩:=bO mH;obtain ⟨Ga,l21,rfl,h22⟩:=bO h21;obtain ⟨Gb,l22,rfl,h23⟩:=bO h22;obtain ⟨Gc,l23,rfl,h24⟩:=bO h23
 obtain ⟨Gd,l24,rfl,h25⟩:=bO h24;obtain ⟨Ge,l25,rfl,h26⟩:=bO h25;obtain ⟨Gf,l26,rfl,h27⟩:=bO h26;obtain ⟨Gg,l27,rfl,h28⟩:=bO h27;obtain ⟨Gh,l28,rfl,h29⟩:=bO h28;obtain ⟨Gi,l29,rfl,FM⟩:=bO h29;obtain ⟨Gj,l30,rfl,Dv⟩:=bO FM;obtain ⟨Gk,l31,rfl,Vr⟩:=bO Dv;obtain ⟨Gl,l32,rfl,qB⟩:=bO Vr;obtain ⟨Gm,l33,rfl,h34⟩:=bO qB;obtain ⟨Gn,l34,rfl,h35⟩:=bO h34;obtain ⟨Gp,l35,rfl,h36⟩:=bO h35;obtain ⟨Gq,l36,rfl,h37⟩:=bO h36;obtain ⟨Gr,l37,rfl,h38⟩:=bO h37;obtain ⟨Gs,l38,rfl,h39⟩:=bO h38;obtain ⟨Gt,l39,rfl,z7⟩:=bO h39;obtain ⟨Gu,l40,rfl,h41⟩:=bO z7;obtain ⟨Gv,l41,rfl,FL⟩:=bO h41;obtain ⟨Gw,l42,rfl,h43⟩:=bO FL;obtain ⟨Gx,l43,rfl,h44⟩:=bO h43;obtain ⟨Gy,l44,rfl,h45⟩:=bO h44;obtain ⟨Gz,l45,rfl,VR⟩:=bO h45;obtain ⟨GA,l46,rfl,h47⟩:=bO VR
 obtain ⟨GB,l47,rfl,jF⟩:=bO h47;obtain ⟨GC,l48,rfl,oe⟩:=bO jF;obtain ⟨GD,l49,rfl,VO⟩:=bO oe;obtain ⟨GF,l50,rfl,h51⟩:=bO VO;obtain ⟨GG,l51,rfl,h52⟩:=bO h51;obtain ⟨GH,l52,rfl,VV⟩:=bO h52;obtain ⟨GI,l53,rfl,VW⟩:=bO VV;obtain ⟨GJ,l54,rfl,KH⟩:=bO VW;obtain ⟨GK,l55,rfl,VX⟩:=bO KH;obtain ⟨GL,l56,rfl,GZ⟩:=bO VX;obtain ⟨GM,l57,rfl,h58⟩:=bO GZ;obtain ⟨GN,l58,rfl,h59⟩:=bO h58;obtain ⟨GO,l59,rfl,h60⟩:=bO h59;obtain ⟨GP,l60,rfl,h61⟩:=bO h60;obtain ⟨GQ,l61,rfl,Pj⟩:=bO h61;obtain ⟨GR,l62,rfl,UF⟩:=bO Pj;obtain ⟨GS,l63,rfl,h64⟩:=bO UF;obtain ⟨GU,l64,rfl,h65⟩:=bO h64;obtain ⟨GV,l65,rfl,h66⟩:=bO h65;obtain ⟨GW,l66,rfl,h67⟩:=bO h66;obtain ⟨GX,l67,rfl,h68⟩:=bO h67;obtain ⟨GY,l68,rfl,VN⟩:=bO h68;cases List.eq_nil_of_length_eq_zero VN
 exact ⟨x0,x1,x2,x3,x4,x5,x6,x7,x8,x9,BL,DC,FZ,F0,F1,F2,F3,F5,F6,F7,F9,Ga,Gb,Gc,Gd,Ge,Gf,Gg,Gh,Gi,Gj,Gk,Gl,Gm,Gn,Gp,Gq,Gr,Gs,Gt,Gu,Gv,Gw,Gx,Gy,Gz,GA,GB,GC,GD,GF,GG,GH,GI,GJ,GK,GL,GM,GN,GO,GP,GQ,GR,GS,GU,GV,GW,GX,GY,rfl⟩
noncomputable def Ba:wS:=Tryz.f201.body.getD .skip
open VE (nP)
def aj4 (a:List ByteArray) (t:ByteArray):nP (a++[t])=nP a++t.data.toList:=by simp [nP]
def amo (a:List ByteArray):(nP a).length=(a.map (·.size)).sum:=by
 induction a with
 | nil=>rfl
 | cons t r ih=>
  show (t.data.toList++nP r).length=t.size+(r.map (·.size)).sum
  rw [yR,ih];rfl
def Zv (l:List Nat) (k:Nat):(l.drop k).sum<=l.sum:=by
 induction l generalizing k with
 | nil=>simp
 | cons x l ih=>
  cases k with
  | zero=>simp
  | succ k=>have:=ih k;simp only [List.drop_succ_cons,ybV];omega
def Oe:wS->wS
 | .seq a _=>a
 | .block _ a=>a
 | .loop a=>a
 | c=>c
def Bb:wS->wS
 | .seq _ b=>b
 | c=>c
noncomputable def adT:wS:=Oe (Oe (Bb (Oe (Bb (Bb (VE.zg 5 Ba))))))
def Of (w0:yi) (ts:List ByteArray) (b o c:Nat) (ds:List tT) (pre:List UInt8) (k:Nat) (a:Act) (w:yi):Prop:=
 k<=ts.length/\a.tmps.size=69/\a.defers=ds/\a.tmps.getD 6 undef= .slice (some ⟨b,o,none⟩) ts.length c/\a.tmps.getD 10 undef= .pointer (some ⟨w0.heap.size,0,none⟩)/\a.tmps.getD 11 undef= .int .i64 ((k:Int)-1)/\
  Lib.IsBuilder 285 5 w0.heap.size w0.heap.size (Lib.byteCells (pre++nP (ts.drop k).reverse)) w/\Below w0.heap.size w0 w
def TW (a:Act):Nat:=match a.tmps.getD 11 undef with
 | .int _ z=>(z+1).toNat
 | _=>0
set_option maxHeartbeats 4000000 in
def Zw {Q:Exit->Act->yi->Prop} {w0:yi} {ts:List ByteArray} {b o c:Nat} {ds:List tT} {pre:List UInt8} (hc:∀i (h:i<ts.length),w0.cell? ⟨b,o+i,none⟩=some (.string ts[i])) (eU:pre.length<=1)
  (hl:(ts.map (·.size)).sum+1<=140737488355328) (hn:ts.length<=c) (dn:ts.length<9223372036854775808) (hQ:∀a w,Of w0 ts b o c ds pre 0 a w->Q (.exit 2) a w):∀a w,(∃k,Of w0 ts b o c ds pre k a w)->(Code.loop adT).wpIn Fence.wide 0 Tryz.prog Q a w:=by
 intro a w h0;refine wpIn_loop (fun a w=>∃k,Of w0 ts b o c ds pre k a w) (fun a _=>TW a) h0 ?_;rintro a w ⟨k,hk,eH,rfl,h6,iQ,z6,DD,DE⟩;have hm:TW a=k:=by
  unfold TW;rw [z6];simp
 simp only [hm];simp only [adT,Ba,Tryz.f201,ui,VE.zg,Oe,Bb];obtain ⟨⟨l⟩,ds⟩:=a;obtain ⟨x0,x1,x2,x3,x4,x5,x6,x7,x8,x9,BL,DC,FZ,F0,F1,F2,F3,F5,F6,F7,F9,Ga,Gb,Gc,Gd,Ge,Gf,Gg,Gh,Gi,Gj,Gk,Gl,Gm,Gn,Gp,Gq,Gr,Gs,Gt,Gu,Gv,Gw,Gx,Gy,Gz,GA,GB,GC,GD,GF,GG,GH,GI,GJ,GK,GL,GM,GN,GO,GP,GQ,GR,GS,GU,GV,GW,GX,GY,rfl⟩:=RZ (l:=l) eH;have e6:x6= .slice (some ⟨b,o,none⟩) ts.length c:=h6;have G0:BL= .pointer (some ⟨w0.heap.size,0,none⟩):=iQ;have e11:DC= .int .i64 ((k:Int)-1):=z6;clear h6 iQ z6 hm eH;subst e6;subst G0;subst e11
 cases k with
 | zero=>
  gi_wp2
  exact ⟨Nat.zero_le _,rfl,rfl,rfl,rfl,rfl,DD,DE⟩
 | succ k=>
  have hi:k<ts.length:=hk;have CC:=hc k hi;have azE:w.cell? ⟨b,o+k,none⟩=some (.string ts[k]):=(DE.cell (World.block_lt_of_cell? _ _ CC)).trans CC;have e1:((k+1:Nat):Int)-1=(k:Int):=by omega
  rw [e1]
  gi_wp2
  refine ⟨trivial,rfl,callsIn_wide.2 ((Tryz.Builder_WriteString _ _ _ ts[k] w DD ?_ DE.size).mono ?_)⟩
  ·have h1:=amo (ts.drop (k+1)).reverse;have h2:=Zv (ts.map (·.size)) (k+1);have h3:(ts.map (·.size)).drop k=ts[k].size::(ts.map (·.size)).drop (k+1):=by
    rw [yO (by simpa using hi)];simp
   have h4:=Zv (ts.map (·.size)) k;rw [h3,ybV] at h4;rw [Lib.byteCells_length,yR,h1,List.map_reverse,List.sum_reverse,List.map_drop];omega
  ·rintro e w' ⟨rfl,bQ,JL⟩;have hd:pre++nP (ts.drop k).reverse=pre++nP (ts.drop (k+1)).reverse++ts[k].data.toList:=by
    rw [yO hi,List.reverse_cons,aj4,List.append_assoc]
   rw [Lib.strCells_eq,<-Lib.byteCells_append,<-hd] at bQ;have hw:wrap64 ((k:Int)-1)=(k:Int)-1:=by unfold wrap64;omega
   simp only
   gi_wp2
   refine ⟨⟨k,by omega,rfl,rfl,rfl,rfl,rfl,.inr bQ,DE.trans JL⟩,?_⟩;show ((k:Int)-1+1).toNat<k+1
   omega
set_option maxHeartbeats 4000000 in
def amp {Q:Exit->Act->yi->Prop} (a:Act) (w:yi) (neg:Bool) (ts:List ByteArray) (b o c:Nat) (eH:a.tmps.size=69) (h3:a.tmps.getD 3 undef= .bool neg) (h6:a.tmps.getD 6 undef= .slice (some ⟨b,o,none⟩) ts.length c)
  (hc:∀i (h:i<ts.length),w.cell? ⟨b,o+i,none⟩=some (.string ts[i])) (hl:(ts.map (·.size)).sum+1<=140737488355328) (hn:ts.length<=c) (dn:ts.length<9223372036854775808)
  (hQ:∀a' w',VE.Calm w w'->a'.tmps.size=69->a'.defers=a.defers->a'.tmps.getD 2 undef= .string ⟨((if neg then [45] else [])++nP ts.reverse).toArray⟩->Q .ret a' w'):
  (VE.zg 5 Ba).wpIn Fence.wide 0 Tryz.prog Q a w:=by
 simp only [Ba,Tryz.f201,ui,VE.zg];obtain ⟨⟨l⟩,ds⟩:=a;obtain ⟨x0,x1,x2,x3,x4,x5,x6,x7,x8,x9,BL,DC,FZ,F0,F1,F2,F3,F5,F6,F7,F9,Ga,Gb,Gc,Gd,Ge,Gf,Gg,Gh,Gi,Gj,Gk,Gl,Gm,Gn,Gp,Gq,Gr,Gs,Gt,Gu,Gv,Gw,Gx,Gy,Gz,GA,GB,GC,GD,GF,GG,GH,GI,GJ,GK,GL,GM,GN,GO,GP,GQ,GR,GS,GU,GV,GW,GX,GY,rfl⟩:=RZ (l:=l) eH;have e3:x3= .bool neg:=h3;have e6:x6= .slice (some ⟨b,o,none⟩) ts.length c:=h6;clear h3 h6 eH;subst e3;subst e6;have hw:wrap64 ((ts.length:Int)-1)=(ts.length:Int)-1:=by unfold wrap64;omega
 obtain ⟨pre,hp⟩:∃pre:List UInt8,(if neg then [45] else [])=pre:=⟨_,rfl⟩;rw [hp] at hQ;have fin:∀(a:Act) (w':yi) (K:Act->yi->Prop),Of w ts b o c ds pre 0 a w'->
   (∀(a:Act) (w:yi),Code.wpIn Fence.wide 0 Tryz.prog (Bb (Bb (Bb (VE.zg 5 Ba)))) Q a w->K a w)->K a w':=by
  rintro a w' K ⟨_,eH,rfl,h6,iQ,z6,DD,DE⟩ hK;clear hp;refine hK _ _ ?_;simp only [Ba,Tryz.f201,ui,VE.zg,Bb];obtain ⟨⟨l⟩,ds⟩:=a;obtain ⟨x0,x1,x2,x3,x4,x5,x6,x7,x8,x9,BL,DC,FZ,F0,F1,F2,F3,F5,F6,F7,F9,Ga,Gb,Gc,Gd,Ge,Gf,Gg,Gh,Gi,Gj,Gk,Gl,Gm,Gn,Gp,Gq,Gr,Gs,Gt,Gu,Gv,Gw,Gx,Gy,Gz,GA,GB,GC,GD,GF,GG,GH,GI,GJ,GK,GL,GM,GN,GO,GP,GQ,GR,GS,GU,GV,GW,GX,GY,rfl⟩:=RZ (l:=l) eH;have G0:BL= .pointer (some ⟨w.heap.size,0,none⟩):=iQ;subst G0
  gi_wp2
  refine ⟨trivial,rfl,callsIn_wide.2 ((Tryz.Builder_String_any _ _ _ _ DD DE.size).mono ?_)⟩;rintro e w2 ⟨rfl,JL⟩;simp only
  gi_wp2
  exact hQ _ _ (VE.Hc (DE.trans JL)) rfl rfl rfl
 cases neg with
 | false=>
  cases hp
  gi_wp2
  refine Zw (pre:=[]) hc (by simp) hl hn dn (fun a w' hI=>?_) _ _ ⟨ts.length,yz _,rfl,rfl,rfl,rfl,?_,?_,?_⟩
  ·simp only [Exit.inBlock,Exit.then];exact fin a w' _ hI (by assumption)
  ·rfl
  ·rw [ybt];exact Lib.fresh_isBuilder _ _ w
  ·exact (Below.refl _ w).alloc (yz _) _
 | true=>
  cases hp
  gi_wp2
  refine ⟨trivial,rfl,callsIn_wide.2 ((Tryz.Builder_WriteString _ _ [] _ _ (Lib.fresh_isBuilder _ _ w) (by decide) (by simp)).mono ?_)⟩;rintro e w' ⟨rfl,bQ,JL⟩;simp only
  gi_wp2
  refine Zw (pre:=[45]) hc (by simp) hl hn dn (fun a w' hI=>?_) _ _ ⟨ts.length,yz _,rfl,rfl,rfl,rfl,?_,?_,?_⟩
  ·simp only [Exit.inBlock,Exit.then];exact fin a w' _ hI (by assumption)
  ·rfl
  ·rw [ybt];exact .inr bQ
  ·exact ((Below.refl _ w).alloc (yz _) _).trans JL
def amq:VE.Ri Tryz.prog Ba:=fun _ a w neg ts b o c h1 h2 h3 h4 h5 h6 h7 h8=>amp a w neg ts b o c h1 h2 h3 h4 h5 h6 h7 h8
end Go.Proofs
