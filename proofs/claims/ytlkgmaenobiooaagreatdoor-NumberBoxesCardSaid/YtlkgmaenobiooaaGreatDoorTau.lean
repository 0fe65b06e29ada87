import Derived.TacticsIn
import Derived.LoopNIn
import Derived.OwnWalk
import Derived.WalkKit
import Derived.Test.YtlkgmaenobiooaaGreatDoorTaf
import Derived.Test.YtlkgmaenobiooaaGreatDoorTat
import Derived.Test.YtlkgmaenobiooaaGreatDoorTae
set_option linter.all false
set_option maxRecDepth 100000
open Go renaming Code→wO,Deferred→tc,World→yh
open List renaming drop_eq_getElem_cons→yX,drop_length→yaL,length_append→yU,sum_cons→ybl
open Nat renaming le_refl→yA
open Option renaming getD_some→vZ
namespace Go.Proofs
open Go.Shelf
open Go.RowKit
def b8 {α:Type} {l:List α} {n:Nat} (h:l.length=n+1):∃x r,l=x::r/\r.length=n:=by
 cases l with
 | nil=>simp at h
 | cons x r=>exact ⟨x,r,rfl,by simpa using h⟩
def Wb {α:Type} {l:List α} (h0:l.length=69):∃x0 x1 x2 x3 x4 x5 x6 x7 x8 x9 Dw FG IR IS IT IU IV IW IX IY IZ I0 I1 I2 I3 I4 I5 I6 I7 I8 I9 Ja Jb Jc Jd Je Jf Jg Jh Ji Jj Jk Jl Jm Jn Jo Jp Jq Jr Js Jt Ju Jv Jw Jx Jy Jz JA JB JC JD JE JF JG JH JI JJ JK JL,l=[x0,x1,x2,x3,x4,x5,x6,x7,x8,x9,Dw,FG,IR,IS,IT,IU,IV,IW,IX,IY,IZ,I0,I1,I2,I3,I4,I5,I6,I7,I8,I9,Ja,Jb,Jc,Jd,Je,Jf,Jg,Jh,Ji,Jj,Jk,Jl,Jm,Jn,Jo,Jp,Jq,Jr,Js,Jt,Ju,Jv,Jw,Jx,Jy,Jz,JA,JB,JC,JD,JE,JF,JG,JH,JI,JJ,JK,JL]:=by
 obtain ⟨x0,l0,rfl,h1⟩:=b8 h0;obtain ⟨x1,l1,rfl,h2⟩:=b8 h1;obtain ⟨x2,l2,rfl,h3⟩:=b8 h2;obtain ⟨x3,l3,rfl,h4⟩:=b8 h3;obtain ⟨x4,l4,rfl,h5⟩:=b8 h4;obtain ⟨x5,l5,rfl,h6⟩:=b8 h5;obtain ⟨x6,l6,rfl,h7⟩:=b8 h6;obtain ⟨x7,l7,rfl,h8⟩:=b8 h7;obtain ⟨x8,l8,rfl,h9⟩:=b8 h8;obtain ⟨x9,l9,rfl,iS⟩:=b8 h9;obtain ⟨Dw,l10,rfl,JM⟩:=b8 iS;obtain ⟨FG,l11,rfl,h12⟩:=b8 JM;obtain ⟨IR,l12,rfl,h13⟩:=b8 h12;obtain ⟨IS,l13,rfl,h14⟩:=b8 h13;obtain ⟨IT,l14,rfl,h15⟩:=b8 h14;obtain ⟨IU,l15,rfl,h16⟩:=b8 h15;obtain ⟨IV,l16,rfl,h17⟩:=b8 h16;obtain ⟨IW,l17,rfl,h18⟩:=b8 h17;obtain ⟨IX,l18,rfl,h19⟩:=b8 h18;obtain ⟨IY,l19,rfl,nW⟩:=b8 h19;obtain ⟨IZ,l20,rfl,h21⟩:=b8 nW;obtain ⟨I0,l21,rfl,h22⟩:=b8 h21;obtain ⟨I1,l22,rfl,h23⟩:=b8 h22;obtain ⟨I2,l23,rfl,h24⟩:=b8 h23
 obtain ⟨I3,l24,rfl,h25⟩:=b8 h24;obtain ⟨I4,l25,rfl,h26⟩:=b8 h25;obtain ⟨I5,l26,rfl,h27⟩:=b8 h26;obtain ⟨I6,l27,rfl,h28⟩:=b8 h27;obtain ⟨I7,l28,rfl,h29⟩:=b8 h28;obtain ⟨I8,l29,rfl,h30⟩:=b8 h29;obtain ⟨I9,l30,rfl,h31⟩:=b8 h30;obtain ⟨Ja,l31,rfl,h32⟩:=b8 h31;obtain ⟨Jb,l32,rfl,h33⟩:=b8 h32;obtain ⟨Jc,l33,rfl,h34⟩:=b8 h33;obtain ⟨Jd,l34,rfl,h35⟩:=b8 h34;obtain ⟨Je,l35,rfl,h36⟩:=b8 h35;obtain ⟨Jf,l36,rfl,h37⟩:=b8 h36;obtain ⟨Jg,l37,rfl,h38⟩:=b8 h37;obtain ⟨Jh,l38,rfl,h39⟩:=b8 h38;obtain ⟨Ji,l39,rfl,h40⟩:=b8 h39;obtain ⟨Jj,l40,rfl,h41⟩:=b8 h40;obtain ⟨Jk,l41,rfl,h42⟩:=b8 h41;obtain ⟨Jl,l42,rfl,h43⟩:=b8 h42;obtain ⟨Jm,l43,rfl,h44⟩:=b8 h43;obtain ⟨Jn,l44,rfl,h45⟩:=b8 h44;obtain ⟨Jo,l45,rfl,h46⟩:=b8 h45;obtain ⟨Jp,l46,rfl,h47⟩:=b8 h46
 obtain ⟨Jq,l47,rfl,jK⟩:=b8 h47;obtain ⟨Jr,l48,rfl,pc⟩:=b8 jK;obtain ⟨Js,l49,rfl,h50⟩:=b8 pc;obtain ⟨Jt,l50,rfl,h51⟩:=b8 h50;obtain ⟨Ju,l51,rfl,h52⟩:=b8 h51;obtain ⟨Jv,l52,rfl,h53⟩:=b8 h52;obtain ⟨Jw,l53,rfl,h54⟩:=b8 h53;obtain ⟨Jx,l54,rfl,h55⟩:=b8 h54;obtain ⟨Jy,l55,rfl,h56⟩:=b8 h55;obtain ⟨Jz,l56,rfl,h57⟩:=b8 h56;obtain ⟨JA,l57,rfl,h58⟩:=b8 h57;obtain ⟨JB,l58,rfl,h59⟩:=b8 h58;obtain ⟨JC,l59,rfl,h60⟩:=b8 h59;obtain ⟨JD,l60,rfl,h61⟩:=b8 h60;obtain ⟨JE,l61,rfl,Tt⟩:=b8 h61;obtain ⟨JF,l62,rfl,h63⟩:=b8 Tt;obtain ⟨JG,l63,rfl,h64⟩:=b8 h63;obtain ⟨JH,l64,rfl,h65⟩:=b8 h64;obtain ⟨JI,l65,rfl,h66⟩:=b8 h65;obtain ⟨JJ,l66,rfl,h67⟩:=b8 h66;obtain ⟨JK,l67,rfl,h68⟩:=b8 h67;obtain ⟨JL,l68,rfl,h69⟩:=b8 h68;cases List.eq_nil_of_length_eq_zero h69
 exact ⟨x0,x1,x2,x3,x4,x5,x6,x7,x8,x9,Dw,FG,IR,IS,IT,IU,IV,IW,IX,IY,IZ,I0,I1,I2,I3,I4,I5,I6,I7,I8,I9,Ja,Jb,Jc,Jd,Je,Jf,Jg,Jh,Ji,Jj,Jk,Jl,Jm,Jn,Jo,Jp,Jq,Jr,Js,Jt,Ju,Jv,Jw,Jx,Jy,Jz,JA,JB,JC,JD,JE,JF,JG,JH,JI,JJ,JK,JL,rfl⟩
noncomputable def p8:wO:=Tryz.f193.body.getD .skip
open VE (oM)
def ati (a:List ByteArray) (t:ByteArray):oM (a++[t])=oM a++t.data.toList:=by simp [oM]
def avo (a:List ByteArray):(oM a).length=(a.map (·.size)).sum:=by
 induction a with
 | nil=>rfl
 | cons t r ih=>
  show (t.data.toList++oM r).length=t.size+(r.map (·.size)).sum
  rw [yU,ih];rfl
def agE (l:List Nat) (k:Nat):(l.drop k).sum<=l.sum:=by
 induction l generalizing k with
 | nil=>simp
 | cons x l ih=>
  cases k with
  | zero=>simp
  | succ k=>have:=ih k;simp only [List.drop_succ_cons,ybl];omega
def Si:wO->wO
 | .seq a _=>a
 | .block _ a=>a
 | .loop a=>a
 | c=>c
def CZ:wO->wO
 | .seq _ b=>b
 | c=>c
noncomputable def anF:wO:=Si (Si (CZ (Si (CZ (CZ (VE.Al 5 p8))))))
def Sj (w0:yh) (ts:List ByteArray) (b o c:Nat) (ds:List tc) (pre:List UInt8) (k:Nat) (a:Act) (w:yh):Prop:=
 k<=ts.length/\a.tmps.size=69/\a.defers=ds/\a.tmps.getD 6 undef= .slice (some ⟨b,o,none⟩) ts.length c/\a.tmps.getD 10 undef= .pointer (some ⟨w0.heap.size,0,none⟩)/\a.tmps.getD 11 undef= .int .i64 ((k:Int)-1)/\
  Lib.IsBuilder 243 5 w0.heap.size w0.heap.size (Lib.byteCells (pre++oM (ts.drop k).reverse)) w/\Below w0.heap.size w0 w
def abF (a:Act):Nat:=match a.tmps.getD 11 undef with
 | .int _ z=>(z+1).toNat
 | _=>0
set_option maxHeartbeats 4000000 in
def agF {Q:Exit->Act->yh->Prop} {w0:yh} {ts:List ByteArray} {b o c:Nat} {ds:List tc} {pre:List UInt8} (hc:∀i (h:i<ts.length),w0.cell? ⟨b,o+i,none⟩=some (.string ts[i])) (fj:pre.length<=1)
  (hl:(ts.map (·.size)).sum+1<=140737488355328) (hn:ts.length<=c) (eM:ts.length<9223372036854775808) (hQ:∀a w,Sj w0 ts b o c ds pre 0 a w->Q (.exit 2) a w):∀a w,(∃k,Sj w0 ts b o c ds pre k a w)->(Code.loop anF).wpIn Fence.wide 0 Tryz.prog Q a w:=by
 intro a w h0;refine wpIn_loop (fun a w=>∃k,Sj w0 ts b o c ds pre k a w) (fun a _=>abF a) h0 ?_;rintro a w ⟨k,hk,eY,rfl,h6,iS,JM,FH,FI⟩;have hm:abF a=k:=by
  unfold abF;rw [JM];simp
 simp only [hm];simp only [anF,p8,Tryz.f193,vZ,VE.Al,Si,CZ];obtain ⟨⟨l⟩,ds⟩:=a;obtain ⟨x0,x1,x2,x3,x4,x5,x6,x7,x8,x9,Dw,FG,IR,IS,IT,IU,IV,IW,IX,IY,IZ,I0,I1,I2,I3,I4,I5,I6,I7,I8,I9,Ja,Jb,Jc,Jd,Je,Jf,Jg,Jh,Ji,Jj,Jk,Jl,Jm,Jn,Jo,Jp,Jq,Jr,Js,Jt,Ju,Jv,Jw,Jx,Jy,Jz,JA,JB,JC,JD,JE,JF,JG,JH,JI,JJ,JK,JL,rfl⟩:=Wb (l:=l) eY;have e6:x6= .slice (some ⟨b,o,none⟩) ts.length c:=h6;have lM:Dw= .pointer (some ⟨w0.heap.size,0,none⟩):=iS;have zC:FG= .int .i64 ((k:Int)-1):=JM;clear h6 iS JM hm eY;subst e6;subst lM;subst zC
 cases k with
 | zero=>
  gi_wp2
  exact ⟨Nat.zero_le _,rfl,rfl,rfl,rfl,rfl,FH,FI⟩
 | succ k=>
  have hi:k<ts.length:=hk;have Ep:=hc k hi;have aKC:w.cell? ⟨b,o+k,none⟩=some (.string ts[k]):=(FI.cell (World.block_lt_of_cell? _ _ Ep)).trans Ep;have e1:((k+1:Nat):Int)-1=(k:Int):=by omega
  rw [e1]
  gi_wp2
  refine ⟨trivial,rfl,callsIn_wide.2 ((Tryz.Builder_WriteString _ _ _ ts[k] w FH ?_ FI.size).mono ?_)⟩
  ·have h1:=avo (ts.drop (k+1)).reverse;have h2:=agE (ts.map (·.size)) (k+1);have h3:(ts.map (·.size)).drop k=ts[k].size::(ts.map (·.size)).drop (k+1):=by
    rw [yX (by simpa using hi)];simp
   have h4:=agE (ts.map (·.size)) k;rw [h3,ybl] at h4;rw [Lib.byteCells_length,yU,h1,List.map_reverse,List.sum_reverse,List.map_drop];omega
  ·rintro e w' ⟨rfl,da,MN⟩;have hd:pre++oM (ts.drop k).reverse=pre++oM (ts.drop (k+1)).reverse++ts[k].data.toList:=by
    rw [yX hi,List.reverse_cons,ati,List.append_assoc]
   rw [Lib.strCells_eq,<-Lib.byteCells_append,<-hd] at da;have hw:wrap64 ((k:Int)-1)=(k:Int)-1:=by unfold wrap64;omega
   simp only
   gi_wp2
   refine ⟨⟨k,by omega,rfl,rfl,rfl,rfl,rfl,.inr da,FI.trans MN⟩,?_⟩;show ((k:Int)-1+1).toNat<k+1
   omega
set_option maxHeartbeats 4000000 in
def avp {Q:Exit->Act->yh->Prop} (a:Act) (w:yh) (neg:Bool) (ts:List ByteArray) (b o c:Nat) (eY:a.tmps.size=69) (h3:a.tmps.getD 3 undef= .bool neg) (h6:a.tmps.getD 6 undef= .slice (some ⟨b,o,none⟩) ts.length c)
  (hc:∀i (h:i<ts.length),w.cell? ⟨b,o+i,none⟩=some (.string ts[i])) (hl:(ts.map (·.size)).sum+1<=140737488355328) (hn:ts.length<=c) (eM:ts.length<9223372036854775808)
  (hQ:∀a' w',VE.Calm w w'->a'.tmps.size=69->a'.defers=a.defers->a'.tmps.getD 2 undef= .string ⟨((if neg then [45] else [])++oM ts.reverse).toArray⟩->Q .ret a' w'):
  (VE.Al 5 p8).wpIn Fence.wide 0 Tryz.prog Q a w:=by
 simp only [p8,Tryz.f193,vZ,VE.Al];obtain ⟨⟨l⟩,ds⟩:=a;obtain ⟨x0,x1,x2,x3,x4,x5,x6,x7,x8,x9,Dw,FG,IR,IS,IT,IU,IV,IW,IX,IY,IZ,I0,I1,I2,I3,I4,I5,I6,I7,I8,I9,Ja,Jb,Jc,Jd,Je,Jf,Jg,Jh,Ji,Jj,Jk,Jl,Jm,Jn,Jo,Jp,Jq,Jr,Js,Jt,Ju,Jv,Jw,Jx,Jy,Jz,JA,JB,JC,JD,JE,JF,JG,JH,JI,JJ,JK,JL,rfl⟩:=Wb (l:=l) eY;have e3:x3= .bool neg:=h3;have e6:x6= .slice (some ⟨b,o,none⟩) ts.length c:=h6;clear h3 h6 eY;subst e3;subst e6;have hw:wrap64 ((ts.length:Int)-1)=(ts.length:Int)-1:=by unfold wrap64;omega
 obtain ⟨pre,hp⟩:∃pre:List UInt8,(if neg then [45] else [])=pre:=⟨_,rfl⟩;rw [hp] at hQ;have fin:∀(a:Act) (w':yh) (K:Act->yh->Prop),Sj w ts b o c ds pre 0 a w'->
   (∀(a:Act) (w:yh),Code.wpIn Fence.wide 0 Tryz.prog (CZ (CZ (CZ (VE.Al 5 p8)))) Q a w->K a w)->K a w':=by
  rintro a w' K ⟨_,eY,rfl,h6,iS,JM,FH,FI⟩ hK;clear hp;refine hK _ _ ?_;simp only [p8,Tryz.f193,vZ,VE.Al,CZ];obtain ⟨⟨l⟩,ds⟩:=a;obtain ⟨x0,x1,x2,x3,x4,x5,x6,x7,x8,x9,Dw,FG,IR,IS,IT,IU,IV,IW,IX,IY,IZ,I0,I1,I2,I3,I4,I5,I6,I7,I8,I9,Ja,Jb,Jc,Jd,Je,Jf,Jg,Jh,Ji,Jj,Jk,Jl,Jm,Jn,Jo,Jp,Jq,Jr,Js,Jt,Ju,Jv,Jw,Jx,Jy,Jz,JA,JB,JC,JD,JE,JF,JG,JH,JI,JJ,JK,JL,rfl⟩:=Wb (l:=l) eY;have lM:Dw= .pointer (some ⟨w.heap.size,0,none⟩):=iS;subst lM
  gi_wp2
  refine ⟨trivial,rfl,callsIn_wide.2 ((Tryz.Builder_String_any _ _ _ _ FH FI.size).mono ?_)⟩;rintro e w2 ⟨rfl,MN⟩;simp only
  gi_wp2
  exact hQ _ _ (VE.J4 (FI.trans MN)) rfl rfl rfl
 cases neg with
 | false=>
  cases hp
  gi_wp2
  refine agF (pre:=[]) hc (by simp) hl hn eM (fun a w' hI=>?_) _ _ ⟨ts.length,yA _,rfl,rfl,rfl,rfl,?_,?_,?_⟩
  ·simp only [Exit.inBlock,Exit.then];exact fin a w' _ hI (by assumption)
  ·rfl
  ·rw [yaL];exact Lib.fresh_isBuilder _ _ w
  ·exact (Below.refl _ w).alloc (yA _) _
 | true=>
  cases hp
  gi_wp2
  refine ⟨trivial,rfl,callsIn_wide.2 ((Tryz.Builder_WriteString _ _ [] _ _ (Lib.fresh_isBuilder _ _ w) (by decide) (by simp)).mono ?_)⟩;rintro e w' ⟨rfl,da,MN⟩;simp only
  gi_wp2
  refine agF (pre:=[45]) hc (by simp) hl hn eM (fun a w' hI=>?_) _ _ ⟨ts.length,yA _,rfl,rfl,rfl,rfl,?_,?_,?_⟩
  ·simp only [Exit.inBlock,Exit.then];exact fin a w' _ hI (by assumption)
  ·rfl
  ·rw [yaL];exact .inr da
  ·exact ((Below.refl _ w).alloc (yA _) _).trans MN
def Ks:VE.VJ Tryz.prog p8:=fun _ a w neg ts b o c h1 h2 h3 h4 h5 h6 h7 h8=>avp a w neg ts b o c h1 h2 h3 h4 h5 h6 h7 h8
end Go.Proofs
