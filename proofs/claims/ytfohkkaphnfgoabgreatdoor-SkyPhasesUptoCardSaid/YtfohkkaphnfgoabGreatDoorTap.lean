import Derived.TacticsIn
import Derived.LoopNIn
import Derived.OwnWalk
import Derived.WalkKit
import Derived.Test.YtfohkkaphnfgoabGreatDoorTaf
import Derived.Test.YtfohkkaphnfgoabGreatDoorTao
import Derived.Test.YtfohkkaphnfgoabGreatDoorTae
set_option linter.all false
set_option maxRecDepth 100000
open Go renaming Code→wL,Deferred→uN,World→yg
open List renaming drop_eq_getElem_cons→yJ,drop_length→yad,length_append→yW,sum_cons→yaF
open Nat renaming le_refl→yv
open Option renaming getD_some→vU
namespace Go.Proofs
open Go.Shelf
open Go.RowKit
def bS {α:Type} {l:List α} {n:Nat} (h:l.length=n+1):∃x r,l=x::r/\r.length=n:=by
 cases l with
 | nil=>simp at h
 | cons x r=>exact ⟨x,r,rfl,by simpa using h⟩
def Q1 {α:Type} {l:List α} (h0:l.length=69):∃x0 x1 x2 x3 x4 x5 x6 x7 x8 x9 Be CZ Fu Fv Fw Fx Fy Fz FA FB FC FD FE FF FG FH FI FJ FK FL FM FN FO FP FQ FR FT FU FV FW FX FY FZ F0 F1 F2 F3 F5 F6 F7 F9 Ga Gb Gc Gd Ge Gf Gg Gh Gi Gj Gk Gl Gm Gn Gp Gq Gr Gs,l=[x0,x1,x2,x3,x4,x5,x6,x7,x8,x9,Be,CZ,Fu,Fv,Fw,Fx,Fy,Fz,FA,FB,FC,FD,FE,FF,FG,FH,FI,FJ,FK,FL,FM,FN,FO,FP,FQ,FR,FT,FU,FV,FW,FX,FY,FZ,F0,F1,F2,F3,F5,F6,F7,F9,Ga,Gb,Gc,Gd,Ge,Gf,Gg,Gh,Gi,Gj,Gk,Gl,Gm,Gn,Gp,Gq,Gr,Gs]:=by
 obtain ⟨x0,l0,rfl,h1⟩:=bS h0;obtain ⟨x1,l1,rfl,h2⟩:=bS h1;obtain ⟨x2,l2,rfl,h3⟩:=bS h2;obtain ⟨x3,l3,rfl,h4⟩:=bS h3;obtain ⟨x4,l4,rfl,h5⟩:=bS h4;obtain ⟨x5,l5,rfl,h6⟩:=bS h5;obtain ⟨x6,l6,rfl,h7⟩:=bS h6;obtain ⟨x7,l7,rfl,h8⟩:=bS h7;obtain ⟨x8,l8,rfl,h9⟩:=bS h8;obtain ⟨x9,l9,rfl,il⟩:=bS h9;obtain ⟨Be,l10,rfl,ru⟩:=bS il;obtain ⟨CZ,l11,rfl,h12⟩:=bS ru;obtain ⟨Fu,l12,rfl,h13⟩:=bS h12;obtain ⟨Fv,l13,rfl,h14⟩:=bS h13;obtain ⟨Fw,l14,rfl,h15⟩:=bS h14;obtain ⟨Fx,l15,rfl,h16⟩:=bS h15;obtain ⟨Fy,l16,rfl,h17⟩:=bS h16;obtain ⟨Fz,l17,rfl,h18⟩:=bS h17;obtain ⟨FA,l18,rfl,h19⟩:=bS h18;obtain ⟨FB,l19,rfl,lW⟩:=bS h19;obtain ⟨FC,l20,rfl,h21⟩:=bS lW;obtain ⟨FD,l21,rfl,h22⟩:=bS h21;obtain ⟨FE,l22,rfl,h23⟩:=bS h22;obtain ⟨FF,l23,rfl,h24⟩:=bS h23
 obtain ⟨FG,l24,rfl,h25⟩:=bS h24;obtain ⟨FH,l25,rfl,h26⟩:=bS h25;obtain ⟨FI,l26,rfl,h27⟩:=bS h26;obtain ⟨FJ,l27,rfl,h28⟩:=bS h27;obtain ⟨FK,l28,rfl,Kf⟩:=bS h28;obtain ⟨FL,l29,rfl,ni⟩:=bS Kf;obtain ⟨FM,l30,rfl,kT⟩:=bS ni;obtain ⟨FN,l31,rfl,UO⟩:=bS kT;obtain ⟨FO,l32,rfl,oC⟩:=bS UO;obtain ⟨FP,l33,rfl,Gt⟩:=bS oC;obtain ⟨FQ,l34,rfl,h35⟩:=bS Gt;obtain ⟨FR,l35,rfl,h36⟩:=bS h35;obtain ⟨FT,l36,rfl,h37⟩:=bS h36;obtain ⟨FU,l37,rfl,h38⟩:=bS h37;obtain ⟨FV,l38,rfl,h39⟩:=bS h38;obtain ⟨FW,l39,rfl,h40⟩:=bS h39;obtain ⟨FX,l40,rfl,h41⟩:=bS h40;obtain ⟨FY,l41,rfl,zg⟩:=bS h41;obtain ⟨FZ,l42,rfl,h43⟩:=bS zg;obtain ⟨F0,l43,rfl,h44⟩:=bS h43;obtain ⟨F1,l44,rfl,h45⟩:=bS h44;obtain ⟨F2,l45,rfl,Vd⟩:=bS h45;obtain ⟨F3,l46,rfl,h47⟩:=bS Vd
 obtain ⟨F5,l47,rfl,ja⟩:=bS h47;obtain ⟨F6,l48,rfl,nm⟩:=bS ja;obtain ⟨F7,l49,rfl,Va⟩:=bS nm;obtain ⟨F9,l50,rfl,OO⟩:=bS Va;obtain ⟨Ga,l51,rfl,h52⟩:=bS OO;obtain ⟨Gb,l52,rfl,Vg⟩:=bS h52;obtain ⟨Gc,l53,rfl,Vh⟩:=bS Vg;obtain ⟨Gd,l54,rfl,Kg⟩:=bS Vh;obtain ⟨Ge,l55,rfl,Vi⟩:=bS Kg;obtain ⟨Gf,l56,rfl,Vj⟩:=bS Vi;obtain ⟨Gg,l57,rfl,h58⟩:=bS Vj;obtain ⟨Gh,l58,rfl,h59⟩:=bS h58;obtain ⟨Gi,l59,rfl,Vk⟩:=bS h59;obtain ⟨Gj,l60,rfl,Vm⟩:=bS Vk;obtain ⟨Gk,l61,rfl,OK⟩:=bS Vm;obtain ⟨Gl,l62,rfl,NU⟩:=bS OK;obtain ⟨Gm,l63,rfl,OP⟩:=bS NU;obtain ⟨Gn,l64,rfl,h65⟩:=bS OP;obtain ⟨Gp,l65,rfl,h66⟩:=bS h65;obtain ⟨Gq,l66,rfl,Vn⟩:=bS h66;obtain ⟨Gr,l67,rfl,Vo⟩:=bS Vn;obtain ⟨Gs,l68,rfl,U9⟩:=bS Vo;cases List.eq_nil_of_length_eq_zero U9
 exact ⟨x0,x1,x2,x3,x4,x5,x6,x7,x8,x9,Be,CZ,Fu,Fv,Fw,Fx,Fy,Fz,FA,FB,FC,FD,FE,FF,FG,FH,FI,FJ,FK,FL,FM,FN,FO,FP,FQ,FR,FT,FU,FV,FW,FX,FY,FZ,F0,F1,F2,F3,F5,F6,F7,F9,Ga,Gb,Gc,Gd,Ge,Gf,Gg,Gh,Gi,Gj,Gk,Gl,Gm,Gn,Gp,Gq,Gr,Gs,rfl⟩
noncomputable def AE:wL:=Tryz.f143.body.getD .skip
open VE (mU)
def ajj (a:List ByteArray) (t:ByteArray):mU (a++[t])=mU a++t.data.toList:=by simp [mU]
def alq (a:List ByteArray):(mU a).length=(a.map (·.size)).sum:=by
 induction a with
 | nil=>rfl
 | cons t r ih=>
  show (t.data.toList++mU r).length=t.size+(r.map (·.size)).sum
  rw [yW,ih];rfl
def YN (l:List Nat) (k:Nat):(l.drop k).sum<=l.sum:=by
 induction l generalizing k with
 | nil=>simp
 | cons x l ih=>
  cases k with
  | zero=>simp
  | succ k=>have:=ih k;simp only [List.drop_succ_cons,yaF];omega
def Nt:wL->wL
 | .seq a _=>a
 | .block _ a=>a
 | .loop a=>a
 | c=>c
def AF:wL->wL
 | .seq _ b=>b
 | c=>c
noncomputable def ad1:wL:=Nt (Nt (AF (Nt (AF (AF (VE.sj 5 AE))))))
def Nv (w0:yg) (ts:List ByteArray) (b o c:Nat) (ds:List uN) (pre:List UInt8) (k:Nat) (a:Act) (w:yg):Prop:=
 k<=ts.length/\a.tmps.size=69/\a.defers=ds/\a.tmps.getD 6 undef= .slice (some ⟨b,o,none⟩) ts.length c/\a.tmps.getD 10 undef= .pointer (some ⟨w0.heap.size,0,none⟩)/\a.tmps.getD 11 undef= .int .i64 ((k:Int)-1)/\
  Lib.IsBuilder 246 5 w0.heap.size w0.heap.size (Lib.byteCells (pre++mU (ts.drop k).reverse)) w/\Below w0.heap.size w0 w
def S5 (a:Act):Nat:=match a.tmps.getD 11 undef with
 | .int _ z=>(z+1).toNat
 | _=>0
set_option maxHeartbeats 4000000 in
def YO {Q:Exit->Act->yg->Prop} {w0:yg} {ts:List ByteArray} {b o c:Nat} {ds:List uN} {pre:List UInt8} (hc:∀i (h:i<ts.length),w0.cell? ⟨b,o+i,none⟩=some (.string ts[i])) (eL:pre.length<=1)
  (hl:(ts.map (·.size)).sum+1<=140737488355328) (hn:ts.length<=c) (dT:ts.length<9223372036854775808) (hQ:∀a w,Nv w0 ts b o c ds pre 0 a w->Q (.exit 2) a w):∀a w,(∃k,Nv w0 ts b o c ds pre k a w)->(Code.loop ad1).wpIn Fence.wide 0 Tryz.prog Q a w:=by
 intro a w h0;refine wpIn_loop (fun a w=>∃k,Nv w0 ts b o c ds pre k a w) (fun a _=>S5 a) h0 ?_;rintro a w ⟨k,hk,eF,rfl,h6,il,ru,C0,C1⟩;have hm:S5 a=k:=by
  unfold S5;rw [ru];simp
 simp only [hm];simp only [ad1,AE,Tryz.f143,vU,VE.sj,Nt,AF];obtain ⟨⟨l⟩,ds⟩:=a;obtain ⟨x0,x1,x2,x3,x4,x5,x6,x7,x8,x9,Be,CZ,Fu,Fv,Fw,Fx,Fy,Fz,FA,FB,FC,FD,FE,FF,FG,FH,FI,FJ,FK,FL,FM,FN,FO,FP,FQ,FR,FT,FU,FV,FW,FX,FY,FZ,F0,F1,F2,F3,F5,F6,F7,F9,Ga,Gb,Gc,Gd,Ge,Gf,Gg,Gh,Gi,Gj,Gk,Gl,Gm,Gn,Gp,Gq,Gr,Gs,rfl⟩:=Q1 (l:=l) eF;have e6:x6= .slice (some ⟨b,o,none⟩) ts.length c:=h6;have zt:Be= .pointer (some ⟨w0.heap.size,0,none⟩):=il;have e11:CZ= .int .i64 ((k:Int)-1):=ru;clear h6 il ru hm eF;subst e6;subst zt;subst e11
 cases k with
 | zero=>
  gi_wp2
  exact ⟨Nat.zero_le _,rfl,rfl,rfl,rfl,rfl,C0,C1⟩
 | succ k=>
  have hi:k<ts.length:=hk;have B6:=hc k hi;have ayr:w.cell? ⟨b,o+k,none⟩=some (.string ts[k]):=(C1.cell (World.block_lt_of_cell? _ _ B6)).trans B6;have e1:((k+1:Nat):Int)-1=(k:Int):=by omega
  rw [e1]
  gi_wp2
  refine ⟨trivial,rfl,callsIn_wide.2 ((Tryz.Builder_WriteString _ _ _ ts[k] w C0 ?_ C1.size).mono ?_)⟩
  ·have h1:=alq (ts.drop (k+1)).reverse;have h2:=YN (ts.map (·.size)) (k+1);have h3:(ts.map (·.size)).drop k=ts[k].size::(ts.map (·.size)).drop (k+1):=by
    rw [yJ (by simpa using hi)];simp
   have h4:=YN (ts.map (·.size)) k;rw [h3,yaF] at h4;rw [Lib.byteCells_length,yW,h1,List.map_reverse,List.sum_reverse,List.map_drop];omega
  ·rintro e w' ⟨rfl,cO,I5⟩;have hd:pre++mU (ts.drop k).reverse=pre++mU (ts.drop (k+1)).reverse++ts[k].data.toList:=by
    rw [yJ hi,List.reverse_cons,ajj,List.append_assoc]
   rw [Lib.strCells_eq,<-Lib.byteCells_append,<-hd] at cO;have hw:wrap64 ((k:Int)-1)=(k:Int)-1:=by unfold wrap64;omega
   simp only
   gi_wp2
   refine ⟨⟨k,by omega,rfl,rfl,rfl,rfl,rfl,.inr cO,C1.trans I5⟩,?_⟩;show ((k:Int)-1+1).toNat<k+1
   omega
set_option maxHeartbeats 4000000 in
def alr {Q:Exit->Act->yg->Prop} (a:Act) (w:yg) (neg:Bool) (ts:List ByteArray) (b o c:Nat) (eF:a.tmps.size=69) (h3:a.tmps.getD 3 undef= .bool neg) (h6:a.tmps.getD 6 undef= .slice (some ⟨b,o,none⟩) ts.length c)
  (hc:∀i (h:i<ts.length),w.cell? ⟨b,o+i,none⟩=some (.string ts[i])) (hl:(ts.map (·.size)).sum+1<=140737488355328) (hn:ts.length<=c) (dT:ts.length<9223372036854775808)
  (hQ:∀a' w',VE.Calm w w'->a'.tmps.size=69->a'.defers=a.defers->a'.tmps.getD 2 undef= .string ⟨((if neg then [45] else [])++mU ts.reverse).toArray⟩->Q .ret a' w'):
  (VE.sj 5 AE).wpIn Fence.wide 0 Tryz.prog Q a w:=by
 simp only [AE,Tryz.f143,vU,VE.sj];obtain ⟨⟨l⟩,ds⟩:=a;obtain ⟨x0,x1,x2,x3,x4,x5,x6,x7,x8,x9,Be,CZ,Fu,Fv,Fw,Fx,Fy,Fz,FA,FB,FC,FD,FE,FF,FG,FH,FI,FJ,FK,FL,FM,FN,FO,FP,FQ,FR,FT,FU,FV,FW,FX,FY,FZ,F0,F1,F2,F3,F5,F6,F7,F9,Ga,Gb,Gc,Gd,Ge,Gf,Gg,Gh,Gi,Gj,Gk,Gl,Gm,Gn,Gp,Gq,Gr,Gs,rfl⟩:=Q1 (l:=l) eF;have e3:x3= .bool neg:=h3;have e6:x6= .slice (some ⟨b,o,none⟩) ts.length c:=h6;clear h3 h6 eF;subst e3;subst e6;have hw:wrap64 ((ts.length:Int)-1)=(ts.length:Int)-1:=by unfold wrap64;omega
 obtain ⟨pre,hp⟩:∃pre:List UInt8,(if neg then [45] else [])=pre:=⟨_,rfl⟩;rw [hp] at hQ;have fin:∀(a:Act) (w':yg) (K:Act->yg->Prop),Nv w ts b o c ds pre 0 a w'->
   (∀(a:Act) (w:yg),Code.wpIn Fence.wide 0 Tryz.prog (AF (AF (AF (VE.sj 5 AE)))) Q a w->K a w)->K a w':=by
  rintro a w' K ⟨_,eF,rfl,h6,il,ru,C0,C1⟩ hK;clear hp;refine hK _ _ ?_;simp only [AE,Tryz.f143,vU,VE.sj,AF];obtain ⟨⟨l⟩,ds⟩:=a;obtain ⟨x0,x1,x2,x3,x4,x5,x6,x7,x8,x9,Be,CZ,Fu,Fv,Fw,Fx,Fy,Fz,FA,FB,FC,FD,FE,FF,FG,FH,FI,FJ,FK,FL,FM,FN,FO,FP,FQ,FR,FT,FU,FV,FW,FX,FY,FZ,F0,F1,F2,F3,F5,F6,F7,F9,Ga,Gb,Gc,Gd,Ge,Gf,Gg,Gh,Gi,Gj,Gk,Gl,Gm,Gn,Gp,Gq,Gr,Gs,rfl⟩:=Q1 (l:=l) eF;have zt:Be= .pointer (some ⟨w.heap.size,0,none⟩):=il;subst zt
  gi_wp2
  refine ⟨trivial,rfl,callsIn_wide.2 ((Tryz.Builder_String_any _ _ _ _ C0 C1.size).mono ?_)⟩;rintro e w2 ⟨rfl,I5⟩;simp only
  gi_wp2
  exact hQ _ _ (VE.GF (C1.trans I5)) rfl rfl rfl
 cases neg with
 | false=>
  cases hp
  gi_wp2
  refine YO (pre:=[]) hc (by simp) hl hn dT (fun a w' hI=>?_) _ _ ⟨ts.length,yv _,rfl,rfl,rfl,rfl,?_,?_,?_⟩
  ·simp only [Exit.inBlock,Exit.then];exact fin a w' _ hI (by assumption)
  ·rfl
  ·rw [yad];exact Lib.fresh_isBuilder _ _ w
  ·exact (Below.refl _ w).alloc (yv _) _
 | true=>
  cases hp
  gi_wp2
  refine ⟨trivial,rfl,callsIn_wide.2 ((Tryz.Builder_WriteString _ _ [] _ _ (Lib.fresh_isBuilder _ _ w) (by decide) (by simp)).mono ?_)⟩;rintro e w' ⟨rfl,cO,I5⟩;simp only
  gi_wp2
  refine YO (pre:=[45]) hc (by simp) hl hn dT (fun a w' hI=>?_) _ _ ⟨ts.length,yv _,rfl,rfl,rfl,rfl,?_,?_,?_⟩
  ·simp only [Exit.inBlock,Exit.then];exact fin a w' _ hI (by assumption)
  ·rfl
  ·rw [yad];exact .inr cO
  ·exact ((Below.refl _ w).alloc (yv _) _).trans I5
def als:VE.Qs Tryz.prog AE:=fun _ a w neg ts b o c h1 h2 h3 h4 h5 h6 h7 h8=>alr a w neg ts b o c h1 h2 h3 h4 h5 h6 h7 h8
end Go.Proofs
