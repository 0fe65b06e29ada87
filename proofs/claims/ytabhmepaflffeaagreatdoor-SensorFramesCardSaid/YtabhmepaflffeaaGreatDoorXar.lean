import Derived.TacticsIn
import Derived.LoopNIn
import Derived.OwnWalk
import Derived.WalkKit
import Derived.Test.YtabhmepaflffeaaGreatDoorXaq
set_option linter.all false
set_option maxRecDepth 100000
open Go renaming Code->vD,Deferred->yaH,World->yo
open List renaming drop_eq_getElem_cons->yX,drop_length->ybU,length_append->yO,sum_cons->ybB
open Nat renaming le_refl->yz
open Option renaming getD_some->wV
namespace Go.Proofs
open Go.Shelf
open Go.RowKit
def bX{α:Type}{l:List α}{n:Nat}(h:l.length=n+1):∃x r,l=x::r/\r.length=n:=by
 cases l with
 | nil=>simp at h
 | cons x r=>exact⟨x,r,rfl,by simpa using h⟩
def W9{α:Type}{l:List α}(h0:l.length=69):∃x0 x1 x2 x3 x4 x5 x6 x7 x8 x9 Eu GC I2 I3 I4 I5 I6 I7 I8 I9 Ja Jb Jc Jd Je Jf Jg Jh Ji Jj Jk Jl Jm Jn Jo Jp Jq Jr Js Jt Ju Jv Jw Jx Jy Jz JA JB JC JD JE JF JG JH JI JJ JK JL JM JN JO JP JQ JR JS JT JU JV JW,l=[x0,x1,x2,x3,x4,x5,x6,x7,x8,x9,Eu,GC,I2,I3,I4,I5,I6,I7,I8,I9,Ja,Jb,Jc,Jd,Je,Jf,Jg,Jh,Ji,Jj,Jk,Jl,Jm,Jn,Jo,Jp,Jq,Jr,Js,Jt,Ju,Jv,Jw,Jx,Jy,Jz,JA,JB,JC,JD,JE,JF,JG,JH,JI,JJ,JK,JL,JM,JN,JO,JP,JQ,JR,JS,JT,JU,JV,JW]:=by
 obtain⟨x0,l0,rfl,h1⟩:=bX h0;obtain⟨x1,l1,rfl,h2⟩:=bX h1;obtain⟨x2,l2,rfl,h3⟩:=bX h2;obtain⟨x3,l3,rfl,h4⟩:=bX h3;obtain⟨x4,l4,rfl,h5⟩:=bX h4;obtain⟨x5,l5,rfl,h6⟩:=bX h5;obtain⟨x6,l6,rfl,h7⟩:=bX h6;obtain⟨x7,l7,rfl,h8⟩:=bX h7;obtain⟨x8,l8,rfl,h9⟩:=bX h8;obtain⟨x9,l9,rfl,jF⟩:=bX h9;obtain⟨Eu,l10,rfl,Ev⟩:=bX jF;obtain⟨GC,l11,rfl,h12⟩:=bX Ev;obtain⟨I2,l12,rfl,h13⟩:=bX h12;obtain⟨I3,l13,rfl,h14⟩:=bX h13;obtain⟨I4,l14,rfl,h15⟩:=bX h14;obtain⟨I5,l15,rfl,h16⟩:=bX h15;obtain⟨I6,l16,rfl,h17⟩:=bX h16;obtain⟨I7,l17,rfl,h18⟩:=bX h17;obtain⟨I8,l18,rfl,h19⟩:=bX h18;obtain⟨I9,l19,rfl,qj⟩:=bX h19;obtain⟨Ja,l20,rfl,h21⟩:=bX qj;obtain⟨Jb,l21,rfl,h22⟩:=bX h21;obtain⟨Jc,l22,rfl,h23⟩:=bX h22;obtain⟨Jd,l23,rfl,h24⟩:=bX h23
 obtain⟨Je,l24,rfl,h25⟩:=bX h24;obtain⟨Jf,l25,rfl,h26⟩:=bX h25;obtain⟨Jg,l26,rfl,h27⟩:=bX h26;obtain⟨Jh,l27,rfl,h28⟩:=bX h27;obtain⟨Ji,l28,rfl,h29⟩:=bX h28;obtain⟨Jj,l29,rfl,h30⟩:=bX h29;obtain⟨Jk,l30,rfl,h31⟩:=bX h30;obtain⟨Jl,l31,rfl,h32⟩:=bX h31;obtain⟨Jm,l32,rfl,h33⟩:=bX h32;obtain⟨Jn,l33,rfl,h34⟩:=bX h33;obtain⟨Jo,l34,rfl,h35⟩:=bX h34;obtain⟨Jp,l35,rfl,h36⟩:=bX h35;obtain⟨Jq,l36,rfl,h37⟩:=bX h36;obtain⟨Jr,l37,rfl,h38⟩:=bX h37;obtain⟨Js,l38,rfl,h39⟩:=bX h38;obtain⟨Jt,l39,rfl,h40⟩:=bX h39;obtain⟨Ju,l40,rfl,h41⟩:=bX h40;obtain⟨Jv,l41,rfl,h42⟩:=bX h41;obtain⟨Jw,l42,rfl,h43⟩:=bX h42;obtain⟨Jx,l43,rfl,h44⟩:=bX h43;obtain⟨Jy,l44,rfl,h45⟩:=bX h44;obtain⟨Jz,l45,rfl,h46⟩:=bX h45;obtain⟨JA,l46,rfl,h47⟩:=bX h46
 obtain⟨JB,l47,rfl,CS⟩:=bX h47;obtain⟨JC,l48,rfl,h49⟩:=bX CS;obtain⟨JD,l49,rfl,h50⟩:=bX h49;obtain⟨JE,l50,rfl,h51⟩:=bX h50;obtain⟨JF,l51,rfl,h52⟩:=bX h51;obtain⟨JG,l52,rfl,h53⟩:=bX h52;obtain⟨JH,l53,rfl,h54⟩:=bX h53;obtain⟨JI,l54,rfl,h55⟩:=bX h54;obtain⟨JJ,l55,rfl,h56⟩:=bX h55;obtain⟨JK,l56,rfl,h57⟩:=bX h56;obtain⟨JL,l57,rfl,h58⟩:=bX h57;obtain⟨JM,l58,rfl,h59⟩:=bX h58;obtain⟨JN,l59,rfl,h60⟩:=bX h59;obtain⟨JO,l60,rfl,h61⟩:=bX h60;obtain⟨JP,l61,rfl,T9⟩:=bX h61;obtain⟨JQ,l62,rfl,h63⟩:=bX T9;obtain⟨JR,l63,rfl,h64⟩:=bX h63;obtain⟨JS,l64,rfl,h65⟩:=bX h64;obtain⟨JT,l65,rfl,h66⟩:=bX h65;obtain⟨JU,l66,rfl,h67⟩:=bX h66;obtain⟨JV,l67,rfl,h68⟩:=bX h67;obtain⟨JW,l68,rfl,h69⟩:=bX h68;cases List.eq_nil_of_length_eq_zero h69
 exact⟨x0,x1,x2,x3,x4,x5,x6,x7,x8,x9,Eu,GC,I2,I3,I4,I5,I6,I7,I8,I9,Ja,Jb,Jc,Jd,Je,Jf,Jg,Jh,Ji,Jj,Jk,Jl,Jm,Jn,Jo,Jp,Jq,Jr,Js,Jt,Ju,Jv,Jw,Jx,Jy,Jz,JA,JB,JC,JD,JE,JF,JG,JH,JI,JJ,JK,JL,JM,JN,JO,JP,JQ,JR,JS,JT,JU,JV,JW,rfl⟩
noncomputable def DS:vD:=Tryz.f185.body.getD .skip
open VE (rm)
def aqd(a:List ByteArray)(t:ByteArray):rm (a++[t])=rm a++t.data.toList:=by simp[rm]
def asl(a:List ByteArray):(rm a).length=(a.map (·.size)).sum:=by
 induction a with
 | nil=>rfl
 | cons t r ih=>
  show (t.data.toList++rm r).length=t.size+(r.map (·.size)).sum
  rw[yO,ih];rfl
def aeA(l:List Nat)(k:Nat):(l.drop k).sum<=l.sum:=by
 induction l generalizing k with
 | nil=>simp
 | cons x l ih=>
  cases k with
  | zero=>simp
  | succ k=>have:=ih k;simp only[List.drop_succ_cons,ybB];omega
def SB:vD->vD
 | .seq a _=>a
 | .block _ a=>a
 | .loop a=>a
 | c=>c
def DT:vD->vD
 | .seq _ b=>b
 | c=>c
noncomputable def ajK:vD:=SB (SB (DT (SB (DT (DT (VE.B9 5 DS))))))
def SC(w0:yo)(ts:List ByteArray)(b o c:Nat)(ds:List yaH)(pre:List UInt8)(k:Nat)(a:Act)(w:yo):Prop:=
 k<=ts.length/\a.tmps.size=69/\a.defers=ds/\a.tmps.getD 6 undef=.slice (some ⟨b,o,none⟩) ts.length c/\a.tmps.getD 10 undef=.pointer (some ⟨w0.heap.size,0,none⟩)/\a.tmps.getD 11 undef=.int .i64 ((k:Int)-1)/\
  Lib.IsBuilder 313 5 w0.heap.size w0.heap.size (Lib.byteCells (pre++rm (ts.drop k).reverse)) w/\Below w0.heap.size w0 w
def Ze(a:Act):Nat:=match a.tmps.getD 11 undef with
 | .int _ z=>(z+1).toNat
 | _=>0
set_option maxHeartbeats 4000000 in
def aeB{Q:Exit->Act->yo->Prop}{w0:yo}{ts:List ByteArray}{b o c:Nat}{ds:List yaH}{pre:List UInt8}(hc:∀i (h:i<ts.length),w0.cell? ⟨b,o+i,none⟩=some (.string ts[i]))(fg:pre.length<=1)(hl:(ts.map (·.size)).sum+1<=140737488355328)(hn:ts.length<=c)(et:ts.length<9223372036854775808)(hQ:∀a w,SC w0 ts b o c ds pre 0 a w->Q (.exit 2) a w):∀a w,(∃k,SC w0 ts b o c ds pre k a w)->(Code.loop ajK).wpIn Fence.wide 0 Tryz.prog Q a w:=by
 intro a w h0;refine wpIn_loop (fun a w=>∃k,SC w0 ts b o c ds pre k a w) (fun a _=>Ze a) h0 ?_;rintro a w ⟨k,hk,eZ,rfl,h6,jF,Ev,eW,GD⟩;have hm:Ze a=k:=by
  unfold Ze;rw[Ev];simp
 simp only[hm];simp only[ajK,DS,Tryz.f185,wV,VE.B9,SB,DT];obtain⟨⟨l⟩,ds⟩:=a;obtain⟨x0,x1,x2,x3,x4,x5,x6,x7,x8,x9,Eu,GC,I2,I3,I4,I5,I6,I7,I8,I9,Ja,Jb,Jc,Jd,Je,Jf,Jg,Jh,Ji,Jj,Jk,Jl,Jm,Jn,Jo,Jp,Jq,Jr,Js,Jt,Ju,Jv,Jw,Jx,Jy,Jz,JA,JB,JC,JD,JE,JF,JG,JH,JI,JJ,JK,JL,JM,JN,JO,JP,JQ,JR,JS,JT,JU,JV,JW,rfl⟩:=W9 (l:=l) eZ;have e6:x6=.slice (some ⟨b,o,none⟩) ts.length c:=h6;have zx:Eu=.pointer (some ⟨w0.heap.size,0,none⟩):=jF;have GF:GC=.int .i64 ((k:Int)-1):=Ev;clear h6 jF Ev hm eZ;subst e6;subst zx;subst GF
 cases k with
 | zero=>
  gi_wp2
  exact⟨Nat.zero_le _,rfl,rfl,rfl,rfl,rfl,eW,GD⟩
 | succ k=>
  have hi:k<ts.length:=hk;have FB:=hc k hi;have aIL:w.cell? ⟨b,o+k,none⟩=some (.string ts[k]):=(GD.cell (World.block_lt_of_cell? _ _ FB)).trans FB;have e1:((k+1:Nat):Int)-1=(k:Int):=by omega
  rw[e1]
  gi_wp2
  refine⟨trivial,rfl,callsIn_wide.2 ((Tryz.Builder_WriteString _ _ _ ts[k] w eW ?_ GD.size).mono ?_)⟩
  .have h1:=asl (ts.drop (k+1)).reverse;have h2:=aeA (ts.map (·.size)) (k+1);have h3:(ts.map (·.size)).drop k=ts[k].size::(ts.map (·.size)).drop (k+1):=by
    rw[yX (by simpa using hi)];simp
   have h4:=aeA (ts.map (·.size)) k;rw[h3,ybB] at h4;rw[Lib.byteCells_length,yO,h1,List.map_reverse,List.sum_reverse,List.map_drop];omega
  .rintro e w' ⟨rfl,aS,M1⟩;have hd:pre++rm (ts.drop k).reverse=pre++rm (ts.drop (k+1)).reverse++ts[k].data.toList:=by
    rw[yX hi,List.reverse_cons,aqd,List.append_assoc]
   rw[Lib.strCells_eq,<-Lib.byteCells_append,<-hd] at aS;have hw:wrap64 ((k:Int)-1)=(k:Int)-1:=by unfold wrap64;omega
   simp only
   gi_wp2
   refine⟨⟨k,by omega,rfl,rfl,rfl,rfl,rfl,.inr aS,GD.trans M1⟩,?_⟩;show ((k:Int)-1+1).toNat<k+1
   omega
set_option maxHeartbeats 4000000 in
def aso{Q:Exit->Act->yo->Prop}(a:Act)(w:yo)(neg:Bool)(ts:List ByteArray)(b o c:Nat)(eZ:a.tmps.size=69)(h3:a.tmps.getD 3 undef=.bool neg)(h6:a.tmps.getD 6 undef=.slice (some ⟨b,o,none⟩) ts.length c)(hc:∀i (h:i<ts.length),w.cell? ⟨b,o+i,none⟩=some (.string ts[i]))(hl:(ts.map (·.size)).sum+1<=140737488355328)(hn:ts.length<=c)(et:ts.length<9223372036854775808)(hQ:∀a' w',VE.Calm w w'->a'.tmps.size=69->a'.defers=a.defers->a'.tmps.getD 2 undef=.string ⟨((if neg then [45] else [])++rm ts.reverse).toArray⟩->Q .ret a' w'):
  (VE.B9 5 DS).wpIn Fence.wide 0 Tryz.prog Q a w:=by
 simp only[DS,Tryz.f185,wV,VE.B9];obtain⟨⟨l⟩,ds⟩:=a;obtain⟨x0,x1,x2,x3,x4,x5,x6,x7,x8,x9,Eu,GC,I2,I3,I4,I5,I6,I7,I8,I9,Ja,Jb,Jc,Jd,Je,Jf,Jg,Jh,Ji,Jj,Jk,Jl,Jm,Jn,Jo,Jp,Jq,Jr,Js,Jt,Ju,Jv,Jw,Jx,Jy,Jz,JA,JB,JC,JD,JE,JF,JG,JH,JI,JJ,JK,JL,JM,JN,JO,JP,JQ,JR,JS,JT,JU,JV,JW,rfl⟩:=W9 (l:=l) eZ;have e3:x3=.bool neg:=h3;have e6:x6=.slice (some ⟨b,o,none⟩) ts.length c:=h6;clear h3 h6 eZ;subst e3;subst e6;have hw:wrap64 ((ts.length:Int)-1)=(ts.length:Int)-1:=by unfold wrap64;omega
 obtain⟨pre,hp⟩:∃pre:List UInt8,(if neg then [45] else [])=pre:=⟨_,rfl⟩;rw[hp] at hQ;have fin:∀(a:Act) (w':yo) (K:Act->yo->Prop),SC w ts b o c ds pre 0 a w'->
   (∀(a:Act) (w:yo),Code.wpIn Fence.wide 0 Tryz.prog (DT (DT (DT (VE.B9 5 DS)))) Q a w->K a w)->K a w':=by
  rintro a w' K ⟨_,eZ,rfl,h6,jF,Ev,eW,GD⟩ hK;clear hp;refine hK _ _ ?_;simp only[DS,Tryz.f185,wV,VE.B9,DT];obtain⟨⟨l⟩,ds⟩:=a;obtain⟨x0,x1,x2,x3,x4,x5,x6,x7,x8,x9,Eu,GC,I2,I3,I4,I5,I6,I7,I8,I9,Ja,Jb,Jc,Jd,Je,Jf,Jg,Jh,Ji,Jj,Jk,Jl,Jm,Jn,Jo,Jp,Jq,Jr,Js,Jt,Ju,Jv,Jw,Jx,Jy,Jz,JA,JB,JC,JD,JE,JF,JG,JH,JI,JJ,JK,JL,JM,JN,JO,JP,JQ,JR,JS,JT,JU,JV,JW,rfl⟩:=W9 (l:=l) eZ;have zx:Eu=.pointer (some ⟨w.heap.size,0,none⟩):=jF;subst zx
  gi_wp2
  refine⟨trivial,rfl,callsIn_wide.2 ((Tryz.Builder_String_any _ _ _ _ eW GD.size).mono ?_)⟩;rintro e w2 ⟨rfl,M1⟩;simp only
  gi_wp2
  exact hQ _ _ (VE.Kd (GD.trans M1)) rfl rfl rfl
 cases neg with
 | false=>
  cases hp
  gi_wp2
  refine aeB (pre:=[]) hc (by simp) hl hn et (fun a w' hI=>?_) _ _ ⟨ts.length,yz _,rfl,rfl,rfl,rfl,?_,?_,?_⟩
  .simp only [Exit.inBlock,Exit.then];exact fin a w' _ hI (by assumption)
  .rfl
  .rw [ybU];exact Lib.fresh_isBuilder _ _ w
  .exact (Below.refl _ w).alloc (yz _) _
 | true=>
  cases hp
  gi_wp2
  refine⟨trivial,rfl,callsIn_wide.2 ((Tryz.Builder_WriteString _ _ [] _ _ (Lib.fresh_isBuilder _ _ w) (by decide) (by simp)).mono ?_)⟩;rintro e w' ⟨rfl,aS,M1⟩;simp only
  gi_wp2
  refine aeB (pre:=[45]) hc (by simp) hl hn et (fun a w' hI=>?_) _ _ ⟨ts.length,yz _,rfl,rfl,rfl,rfl,?_,?_,?_⟩
  .simp only [Exit.inBlock,Exit.then];exact fin a w' _ hI (by assumption)
  .rfl
  .rw [ybU];exact .inr aS
  .exact ((Below.refl _ w).alloc (yz _) _).trans M1
def asp:VE.Wt Tryz.prog DS:=fun _ a w neg ts b o c h1 h2 h3 h4 h5 h6 h7 h8=>aso a w neg ts b o c h1 h2 h3 h4 h5 h6 h7 h8
end Go.Proofs
