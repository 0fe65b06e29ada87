import Derived.TacticsIn
import Derived.LoopNIn
import Derived.OwnWalk
import Derived.WalkKit
import Derived.Test.YtabhmepaflffeaaGreatDoorWaq
set_option linter.all false
set_option maxRecDepth 100000
open Go renaming Code->vB,Deferred->yaC,World->yo
open List renaming drop_eq_getElem_cons->yS,drop_length->ybT,length_append->yW,sum_cons->tQ
open Nat renaming le_refl->yx
open Option renaming getD_some->vh
namespace Go.Proofs
open Go.Shelf
open Go.RowKit
def bY{α:Type}{l:List α}{n:Nat}(h:l.length=n+1):∃x r,l=x::r/\r.length=n:=by
 cases l with
 | nil=>simp at h
 | cons x r=>exact⟨x,r,rfl,by simpa using h⟩
def Wb{α:Type}{l:List α}(h0:l.length=69):∃x0 x1 x2 x3 x4 x5 x6 x7 x8 x9 D9 Gg IE IF IG II IJ IK IL IM IN IP IQ IR IS IT IU IV IW IX IY IZ I0 I1 I2 I3 I4 I5 I6 I7 I8 I9 Ja Jb Jc Jd Je Jf Jg Jh Ji Jj Jk Jl Jm Jn Jo Jp Jq Jr Js Jt Ju Jv Jw Jx Jy Jz JA,l=[x0,x1,x2,x3,x4,x5,x6,x7,x8,x9,D9,Gg,IE,IF,IG,II,IJ,IK,IL,IM,IN,IP,IQ,IR,IS,IT,IU,IV,IW,IX,IY,IZ,I0,I1,I2,I3,I4,I5,I6,I7,I8,I9,Ja,Jb,Jc,Jd,Je,Jf,Jg,Jh,Ji,Jj,Jk,Jl,Jm,Jn,Jo,Jp,Jq,Jr,Js,Jt,Ju,Jv,Jw,Jx,Jy,Jz,JA]:=by
 obtain⟨x0,l0,rfl,h1⟩:=bY h0;obtain⟨x1,l1,rfl,h2⟩:=bY h1;obtain⟨x2,l2,rfl,h3⟩:=bY h2;obtain⟨x3,l3,rfl,h4⟩:=bY h3;obtain⟨x4,l4,rfl,h5⟩:=bY h4;obtain⟨x5,l5,rfl,h6⟩:=bY h5;obtain⟨x6,l6,rfl,h7⟩:=bY h6;obtain⟨x7,l7,rfl,h8⟩:=bY h7;obtain⟨x8,l8,rfl,h9⟩:=bY h8;obtain⟨x9,l9,rfl,jo⟩:=bY h9;obtain⟨D9,l10,rfl,Ea⟩:=bY jo;obtain⟨Gg,l11,rfl,h12⟩:=bY Ea;obtain⟨IE,l12,rfl,h13⟩:=bY h12;obtain⟨IF,l13,rfl,h14⟩:=bY h13;obtain⟨IG,l14,rfl,h15⟩:=bY h14;obtain⟨II,l15,rfl,h16⟩:=bY h15;obtain⟨IJ,l16,rfl,h17⟩:=bY h16;obtain⟨IK,l17,rfl,h18⟩:=bY h17;obtain⟨IL,l18,rfl,h19⟩:=bY h18;obtain⟨IM,l19,rfl,pJ⟩:=bY h19;obtain⟨IN,l20,rfl,h21⟩:=bY pJ;obtain⟨IP,l21,rfl,h22⟩:=bY h21;obtain⟨IQ,l22,rfl,h23⟩:=bY h22;obtain⟨IR,l23,rfl,h24⟩:=bY h23
 obtain⟨IS,l24,rfl,h25⟩:=bY h24;obtain⟨IT,l25,rfl,h26⟩:=bY h25;obtain⟨IU,l26,rfl,h27⟩:=bY h26;obtain⟨IV,l27,rfl,h28⟩:=bY h27;obtain⟨IW,l28,rfl,h29⟩:=bY h28;obtain⟨IX,l29,rfl,h30⟩:=bY h29;obtain⟨IY,l30,rfl,h31⟩:=bY h30;obtain⟨IZ,l31,rfl,h32⟩:=bY h31;obtain⟨I0,l32,rfl,h33⟩:=bY h32;obtain⟨I1,l33,rfl,h34⟩:=bY h33;obtain⟨I2,l34,rfl,h35⟩:=bY h34;obtain⟨I3,l35,rfl,h36⟩:=bY h35;obtain⟨I4,l36,rfl,h37⟩:=bY h36;obtain⟨I5,l37,rfl,h38⟩:=bY h37;obtain⟨I6,l38,rfl,h39⟩:=bY h38;obtain⟨I7,l39,rfl,h40⟩:=bY h39;obtain⟨I8,l40,rfl,h41⟩:=bY h40;obtain⟨I9,l41,rfl,h42⟩:=bY h41;obtain⟨Ja,l42,rfl,h43⟩:=bY h42;obtain⟨Jb,l43,rfl,h44⟩:=bY h43;obtain⟨Jc,l44,rfl,h45⟩:=bY h44;obtain⟨Jd,l45,rfl,h46⟩:=bY h45;obtain⟨Je,l46,rfl,h47⟩:=bY h46
 obtain⟨Jf,l47,rfl,kZ⟩:=bY h47;obtain⟨Jg,l48,rfl,rk⟩:=bY kZ;obtain⟨Jh,l49,rfl,h50⟩:=bY rk;obtain⟨Ji,l50,rfl,h51⟩:=bY h50;obtain⟨Jj,l51,rfl,h52⟩:=bY h51;obtain⟨Jk,l52,rfl,h53⟩:=bY h52;obtain⟨Jl,l53,rfl,h54⟩:=bY h53;obtain⟨Jm,l54,rfl,h55⟩:=bY h54;obtain⟨Jn,l55,rfl,h56⟩:=bY h55;obtain⟨Jo,l56,rfl,h57⟩:=bY h56;obtain⟨Jp,l57,rfl,h58⟩:=bY h57;obtain⟨Jq,l58,rfl,h59⟩:=bY h58;obtain⟨Jr,l59,rfl,h60⟩:=bY h59;obtain⟨Js,l60,rfl,h61⟩:=bY h60;obtain⟨Jt,l61,rfl,S9⟩:=bY h61;obtain⟨Ju,l62,rfl,h63⟩:=bY S9;obtain⟨Jv,l63,rfl,h64⟩:=bY h63;obtain⟨Jw,l64,rfl,h65⟩:=bY h64;obtain⟨Jx,l65,rfl,h66⟩:=bY h65;obtain⟨Jy,l66,rfl,h67⟩:=bY h66;obtain⟨Jz,l67,rfl,h68⟩:=bY h67;obtain⟨JA,l68,rfl,h69⟩:=bY h68;cases List.eq_nil_of_length_eq_zero h69
 exact⟨x0,x1,x2,x3,x4,x5,x6,x7,x8,x9,D9,Gg,IE,IF,IG,II,IJ,IK,IL,IM,IN,IP,IQ,IR,IS,IT,IU,IV,IW,IX,IY,IZ,I0,I1,I2,I3,I4,I5,I6,I7,I8,I9,Ja,Jb,Jc,Jd,Je,Jf,Jg,Jh,Ji,Jj,Jk,Jl,Jm,Jn,Jo,Jp,Jq,Jr,Js,Jt,Ju,Jv,Jw,Jx,Jy,Jz,JA,rfl⟩
noncomputable def Dy:vB:=Tryz.f185.body.getD .skip
open VE (qI)
def apl(a:List ByteArray)(t:ByteArray):qI (a++[t])=qI a++t.data.toList:=by simp[qI]
def ars(a:List ByteArray):(qI a).length=(a.map (·.size)).sum:=by
 induction a with
 | nil=>rfl
 | cons t r ih=>
  show (t.data.toList++qI r).length=t.size+(r.map (·.size)).sum
  rw[yW,ih];rfl
def adW(l:List Nat)(k:Nat):(l.drop k).sum<=l.sum:=by
 induction l generalizing k with
 | nil=>simp
 | cons x l ih=>
  cases k with
  | zero=>simp
  | succ k=>have:=ih k;simp only[List.drop_succ_cons,tQ];omega
def R0:vB->vB
 | .seq a _=>a
 | .block _ a=>a
 | .loop a=>a
 | c=>c
def Dz:vB->vB
 | .seq _ b=>b
 | c=>c
noncomputable def aiP:vB:=R0 (R0 (Dz (R0 (Dz (Dz (VE.BI 5 Dy))))))
def R1(w0:yo)(ts:List ByteArray)(b o c:Nat)(ds:List yaC)(pre:List UInt8)(k:Nat)(a:Act)(w:yo):Prop:=
 k<=ts.length/\a.tmps.size=69/\a.defers=ds/\a.tmps.getD 6 undef=.slice (some ⟨b,o,none⟩) ts.length c/\a.tmps.getD 10 undef=.pointer (some ⟨w0.heap.size,0,none⟩)/\a.tmps.getD 11 undef=.int .i64 ((k:Int)-1)/\
  Lib.IsBuilder 313 5 w0.heap.size w0.heap.size (Lib.byteCells (pre++qI (ts.drop k).reverse)) w/\Below w0.heap.size w0 w
def Yn(a:Act):Nat:=match a.tmps.getD 11 undef with
 | .int _ z=>(z+1).toNat
 | _=>0
set_option maxHeartbeats 4000000 in
def adX{Q:Exit->Act->yo->Prop}{w0:yo}{ts:List ByteArray}{b o c:Nat}{ds:List yaC}{pre:List UInt8}(hc:∀i (h:i<ts.length),w0.cell? ⟨b,o+i,none⟩=some (.string ts[i]))(eX:pre.length<=1)(hl:(ts.map (·.size)).sum+1<=140737488355328)(hn:ts.length<=c)(dJ:ts.length<9223372036854775808)(hQ:∀a w,R1 w0 ts b o c ds pre 0 a w->Q (.exit 2) a w):∀a w,(∃k,R1 w0 ts b o c ds pre k a w)->(Code.loop aiP).wpIn Fence.wide 0 Tryz.prog Q a w:=by
 intro a w h0;refine wpIn_loop (fun a w=>∃k,R1 w0 ts b o c ds pre k a w) (fun a _=>Yn a) h0 ?_;rintro a w ⟨k,hk,eS,rfl,h6,jo,Ea,jR,Gh⟩;have hm:Yn a=k:=by
  unfold Yn;rw[Ea];simp
 simp only[hm];simp only[aiP,Dy,Tryz.f185,vh,VE.BI,R0,Dz];obtain⟨⟨l⟩,ds⟩:=a;obtain⟨x0,x1,x2,x3,x4,x5,x6,x7,x8,x9,D9,Gg,IE,IF,IG,II,IJ,IK,IL,IM,IN,IP,IQ,IR,IS,IT,IU,IV,IW,IX,IY,IZ,I0,I1,I2,I3,I4,I5,I6,I7,I8,I9,Ja,Jb,Jc,Jd,Je,Jf,Jg,Jh,Ji,Jj,Jk,Jl,Jm,Jn,Jo,Jp,Jq,Jr,Js,Jt,Ju,Jv,Jw,Jx,Jy,Jz,JA,rfl⟩:=Wb (l:=l) eS;have e6:x6=.slice (some ⟨b,o,none⟩) ts.length c:=h6;have JB:D9=.pointer (some ⟨w0.heap.size,0,none⟩):=jo;have e11:Gg=.int .i64 ((k:Int)-1):=Ea;clear h6 jo Ea hm eS;subst e6;subst JB;subst e11
 cases k with
 | zero=>
  gi_wp2
  exact⟨Nat.zero_le _,rfl,rfl,rfl,rfl,rfl,jR,Gh⟩
 | succ k=>
  have hi:k<ts.length:=hk;have E9:=hc k hi;have aHA:w.cell? ⟨b,o+k,none⟩=some (.string ts[k]):=(Gh.cell (World.block_lt_of_cell? _ _ E9)).trans E9;have e1:((k+1:Nat):Int)-1=(k:Int):=by omega
  rw[e1]
  gi_wp2
  refine⟨trivial,rfl,callsIn_wide.2 ((Tryz.Builder_WriteString _ _ _ ts[k] w jR ?_ Gh.size).mono ?_)⟩
  .have h1:=ars (ts.drop (k+1)).reverse;have h2:=adW (ts.map (·.size)) (k+1);have h3:(ts.map (·.size)).drop k=ts[k].size::(ts.map (·.size)).drop (k+1):=by
    rw[yS (by simpa using hi)];simp
   have h4:=adW (ts.map (·.size)) k;rw[h3,tQ] at h4;rw[Lib.byteCells_length,yW,h1,List.map_reverse,List.sum_reverse,List.map_drop];omega
  .rintro e w' ⟨rfl,bE,MD⟩;have hd:pre++qI (ts.drop k).reverse=pre++qI (ts.drop (k+1)).reverse++ts[k].data.toList:=by
    rw[yS hi,List.reverse_cons,apl,List.append_assoc]
   rw[Lib.strCells_eq,<-Lib.byteCells_append,<-hd] at bE;have hw:wrap64 ((k:Int)-1)=(k:Int)-1:=by unfold wrap64;omega
   simp only
   gi_wp2
   refine⟨⟨k,by omega,rfl,rfl,rfl,rfl,rfl,.inr bE,Gh.trans MD⟩,?_⟩;show ((k:Int)-1+1).toNat<k+1
   omega
set_option maxHeartbeats 4000000 in
def art{Q:Exit->Act->yo->Prop}(a:Act)(w:yo)(neg:Bool)(ts:List ByteArray)(b o c:Nat)(eS:a.tmps.size=69)(h3:a.tmps.getD 3 undef=.bool neg)(h6:a.tmps.getD 6 undef=.slice (some ⟨b,o,none⟩) ts.length c)(hc:∀i (h:i<ts.length),w.cell? ⟨b,o+i,none⟩=some (.string ts[i]))(hl:(ts.map (·.size)).sum+1<=140737488355328)(hn:ts.length<=c)(dJ:ts.length<9223372036854775808)(hQ:∀a' w',VE.Calm w w'->a'.tmps.size=69->a'.defers=a.defers->a'.tmps.getD 2 undef=.string ⟨((if neg then [45] else [])++qI ts.reverse).toArray⟩->Q .ret a' w'):
  (VE.BI 5 Dy).wpIn Fence.wide 0 Tryz.prog Q a w:=by
 simp only[Dy,Tryz.f185,vh,VE.BI];obtain⟨⟨l⟩,ds⟩:=a;obtain⟨x0,x1,x2,x3,x4,x5,x6,x7,x8,x9,D9,Gg,IE,IF,IG,II,IJ,IK,IL,IM,IN,IP,IQ,IR,IS,IT,IU,IV,IW,IX,IY,IZ,I0,I1,I2,I3,I4,I5,I6,I7,I8,I9,Ja,Jb,Jc,Jd,Je,Jf,Jg,Jh,Ji,Jj,Jk,Jl,Jm,Jn,Jo,Jp,Jq,Jr,Js,Jt,Ju,Jv,Jw,Jx,Jy,Jz,JA,rfl⟩:=Wb (l:=l) eS;have e3:x3=.bool neg:=h3;have e6:x6=.slice (some ⟨b,o,none⟩) ts.length c:=h6;clear h3 h6 eS;subst e3;subst e6;have hw:wrap64 ((ts.length:Int)-1)=(ts.length:Int)-1:=by unfold wrap64;omega
 obtain⟨pre,hp⟩:∃pre:List UInt8,(if neg then [45] else [])=pre:=⟨_,rfl⟩;rw[hp] at hQ;have fin:∀(a:Act) (w':yo) (K:Act->yo->Prop),R1 w ts b o c ds pre 0 a w'->
   (∀(a:Act) (w:yo),Code.wpIn Fence.wide 0 Tryz.prog (Dz (Dz (Dz (VE.BI 5 Dy)))) Q a w->K a w)->K a w':=by
  rintro a w' K ⟨_,eS,rfl,h6,jo,Ea,jR,Gh⟩ hK;clear hp;refine hK _ _ ?_;simp only[Dy,Tryz.f185,vh,VE.BI,Dz];obtain⟨⟨l⟩,ds⟩:=a;obtain⟨x0,x1,x2,x3,x4,x5,x6,x7,x8,x9,D9,Gg,IE,IF,IG,II,IJ,IK,IL,IM,IN,IP,IQ,IR,IS,IT,IU,IV,IW,IX,IY,IZ,I0,I1,I2,I3,I4,I5,I6,I7,I8,I9,Ja,Jb,Jc,Jd,Je,Jf,Jg,Jh,Ji,Jj,Jk,Jl,Jm,Jn,Jo,Jp,Jq,Jr,Js,Jt,Ju,Jv,Jw,Jx,Jy,Jz,JA,rfl⟩:=Wb (l:=l) eS;have JB:D9=.pointer (some ⟨w.heap.size,0,none⟩):=jo;subst JB
  gi_wp2
  refine⟨trivial,rfl,callsIn_wide.2 ((Tryz.Builder_String_any _ _ _ _ jR Gh.size).mono ?_)⟩;rintro e w2 ⟨rfl,MD⟩;simp only
  gi_wp2
  exact hQ _ _ (VE.JQ (Gh.trans MD)) rfl rfl rfl
 cases neg with
 | false=>
  cases hp
  gi_wp2
  refine adX (pre:=[]) hc (by simp) hl hn dJ (fun a w' hI=>?_) _ _ ⟨ts.length,yx _,rfl,rfl,rfl,rfl,?_,?_,?_⟩
  .simp only [Exit.inBlock,Exit.then];exact fin a w' _ hI (by assumption)
  .rfl
  .rw [ybT];exact Lib.fresh_isBuilder _ _ w
  .exact (Below.refl _ w).alloc (yx _) _
 | true=>
  cases hp
  gi_wp2
  refine⟨trivial,rfl,callsIn_wide.2 ((Tryz.Builder_WriteString _ _ [] _ _ (Lib.fresh_isBuilder _ _ w) (by decide) (by simp)).mono ?_)⟩;rintro e w' ⟨rfl,bE,MD⟩;simp only
  gi_wp2
  refine adX (pre:=[45]) hc (by simp) hl hn dJ (fun a w' hI=>?_) _ _ ⟨ts.length,yx _,rfl,rfl,rfl,rfl,?_,?_,?_⟩
  .simp only [Exit.inBlock,Exit.then];exact fin a w' _ hI (by assumption)
  .rfl
  .rw [ybT];exact .inr bE
  .exact ((Below.refl _ w).alloc (yx _) _).trans MD
def aru:VE.Vy Tryz.prog Dy:=fun _ a w neg ts b o c h1 h2 h3 h4 h5 h6 h7 h8=>art a w neg ts b o c h1 h2 h3 h4 h5 h6 h7 h8
end Go.Proofs
