import Derived.TacticsIn
import Derived.LoopNIn
import Derived.OwnWalk
import Derived.WalkKit
import Derived.Test.YtmacbdacedfedaaGreatDoorUaq
set_option linter.all false
set_option maxRecDepth 100000
open Go renaming Code->vz,Deferred->yao,World->yk
open List renaming drop_eq_getElem_cons->yR,drop_length->yby,length_append->yJ,sum_cons->ybZ
open Nat renaming le_refl->yp
open Option renaming getD_some->wV
namespace Go.Proofs
open Go.Shelf
open Go.RowKit
def bR{α:Type}{l:List α}{n:Nat}(h:l.length=n+1):∃x r,l=x::r/\r.length=n:=by
 cases l with
 | nil=>simp at h
 | cons x r=>exact⟨x,r,rfl,by simpa using h⟩
def VW{α:Type}{l:List α}(h0:l.length=69):∃x0 x1 x2 x3 x4 x5 x6 x7 x8 x9 x10 x11 x12 IC ID IE IF IG II IJ IK IL IM IN IP IQ IR IS IT IU IV IW IX IY IZ I0 I1 I2 I3 I4 I5 I6 I7 I8 I9 Ja Jb Jc Jd Je Jf Jg Jh Ji Jj Jk Jl Jm Jn Jo Jp Jq Jr Js Jt Ju Jv Jw Jx,l=[x0,x1,x2,x3,x4,x5,x6,x7,x8,x9,x10,x11,x12,IC,ID,IE,IF,IG,II,IJ,IK,IL,IM,IN,IP,IQ,IR,IS,IT,IU,IV,IW,IX,IY,IZ,I0,I1,I2,I3,I4,I5,I6,I7,I8,I9,Ja,Jb,Jc,Jd,Je,Jf,Jg,Jh,Ji,Jj,Jk,Jl,Jm,Jn,Jo,Jp,Jq,Jr,Js,Jt,Ju,Jv,Jw,Jx]:=by
 obtain⟨x0,l0,rfl,h1⟩:=bR h0;obtain⟨x1,l1,rfl,h2⟩:=bR h1;obtain⟨x2,l2,rfl,h3⟩:=bR h2;obtain⟨x3,l3,rfl,h4⟩:=bR h3;obtain⟨x4,l4,rfl,h5⟩:=bR h4;obtain⟨x5,l5,rfl,h6⟩:=bR h5;obtain⟨x6,l6,rfl,h7⟩:=bR h6;obtain⟨x7,l7,rfl,h8⟩:=bR h7;obtain⟨x8,l8,rfl,h9⟩:=bR h8;obtain⟨x9,l9,rfl,jf⟩:=bR h9;obtain⟨x10,l10,rfl,DZ⟩:=bR jf;obtain⟨x11,l11,rfl,Jy⟩:=bR DZ;obtain⟨x12,l12,rfl,h13⟩:=bR Jy;obtain⟨IC,l13,rfl,h14⟩:=bR h13;obtain⟨ID,l14,rfl,h15⟩:=bR h14;obtain⟨IE,l15,rfl,h16⟩:=bR h15;obtain⟨IF,l16,rfl,h17⟩:=bR h16;obtain⟨IG,l17,rfl,h18⟩:=bR h17;obtain⟨II,l18,rfl,h19⟩:=bR h18;obtain⟨IJ,l19,rfl,oS⟩:=bR h19;obtain⟨IK,l20,rfl,h21⟩:=bR oS;obtain⟨IL,l21,rfl,h22⟩:=bR h21;obtain⟨IM,l22,rfl,h23⟩:=bR h22;obtain⟨IN,l23,rfl,h24⟩:=bR h23
 obtain⟨IP,l24,rfl,h25⟩:=bR h24;obtain⟨IQ,l25,rfl,h26⟩:=bR h25;obtain⟨IR,l26,rfl,h27⟩:=bR h26;obtain⟨IS,l27,rfl,h28⟩:=bR h27;obtain⟨IT,l28,rfl,S8⟩:=bR h28;obtain⟨IU,l29,rfl,h30⟩:=bR S8;obtain⟨IV,l30,rfl,h31⟩:=bR h30;obtain⟨IW,l31,rfl,h32⟩:=bR h31;obtain⟨IX,l32,rfl,h33⟩:=bR h32;obtain⟨IY,l33,rfl,h34⟩:=bR h33;obtain⟨IZ,l34,rfl,h35⟩:=bR h34;obtain⟨I0,l35,rfl,h36⟩:=bR h35;obtain⟨I1,l36,rfl,h37⟩:=bR h36;obtain⟨I2,l37,rfl,h38⟩:=bR h37;obtain⟨I3,l38,rfl,h39⟩:=bR h38;obtain⟨I4,l39,rfl,h40⟩:=bR h39;obtain⟨I5,l40,rfl,h41⟩:=bR h40;obtain⟨I6,l41,rfl,h42⟩:=bR h41;obtain⟨I7,l42,rfl,h43⟩:=bR h42;obtain⟨I8,l43,rfl,h44⟩:=bR h43;obtain⟨I9,l44,rfl,h45⟩:=bR h44;obtain⟨Ja,l45,rfl,ZO⟩:=bR h45;obtain⟨Jb,l46,rfl,h47⟩:=bR ZO
 obtain⟨Jc,l47,rfl,kO⟩:=bR h47;obtain⟨Jd,l48,rfl,qJ⟩:=bR kO;obtain⟨Je,l49,rfl,ZK⟩:=bR qJ;obtain⟨Jf,l50,rfl,h51⟩:=bR ZK;obtain⟨Jg,l51,rfl,h52⟩:=bR h51;obtain⟨Jh,l52,rfl,h53⟩:=bR h52;obtain⟨Ji,l53,rfl,h54⟩:=bR h53;obtain⟨Jj,l54,rfl,h55⟩:=bR h54;obtain⟨Jk,l55,rfl,h56⟩:=bR h55;obtain⟨Jl,l56,rfl,h57⟩:=bR h56;obtain⟨Jm,l57,rfl,h58⟩:=bR h57;obtain⟨Jn,l58,rfl,h59⟩:=bR h58;obtain⟨Jo,l59,rfl,h60⟩:=bR h59;obtain⟨Jp,l60,rfl,h61⟩:=bR h60;obtain⟨Jq,l61,rfl,S5⟩:=bR h61;obtain⟨Jr,l62,rfl,h63⟩:=bR S5;obtain⟨Js,l63,rfl,Ge⟩:=bR h63;obtain⟨Jt,l64,rfl,h65⟩:=bR Ge;obtain⟨Ju,l65,rfl,h66⟩:=bR h65;obtain⟨Jv,l66,rfl,h67⟩:=bR h66;obtain⟨Jw,l67,rfl,h68⟩:=bR h67;obtain⟨Jx,l68,rfl,ZJ⟩:=bR h68;cases List.eq_nil_of_length_eq_zero ZJ
 exact⟨x0,x1,x2,x3,x4,x5,x6,x7,x8,x9,x10,x11,x12,IC,ID,IE,IF,IG,II,IJ,IK,IL,IM,IN,IP,IQ,IR,IS,IT,IU,IV,IW,IX,IY,IZ,I0,I1,I2,I3,I4,I5,I6,I7,I8,I9,Ja,Jb,Jc,Jd,Je,Jf,Jg,Jh,Ji,Jj,Jk,Jl,Jm,Jn,Jo,Jp,Jq,Jr,Js,Jt,Ju,Jv,Jw,Jx,rfl⟩
noncomputable def Dq:vz:=Tryz.f174.body.getD .skip
open VE (pW)
def aou(a:List ByteArray)(t:ByteArray):pW (a++[t])=pW a++t.data.toList:=by simp[pW]
def aqD(a:List ByteArray):(pW a).length=(a.map (·.size)).sum:=by
 induction a with
 | nil=>rfl
 | cons t r ih=>
  show (t.data.toList++pW r).length=t.size+(r.map (·.size)).sum
  rw[yJ,ih];rfl
def adr(l:List Nat)(k:Nat):(l.drop k).sum<=l.sum:=by
 induction l generalizing k with
 | nil=>simp
 | cons x l ih=>
  cases k with
  | zero=>simp
  | succ k=>have:=ih k;simp only[List.drop_succ_cons,ybZ];omega
def RZ:vz->vz
 | .seq a _=>a
 | .block _ a=>a
 | .loop a=>a
 | c=>c
def Dr:vz->vz
 | .seq _ b=>b
 | c=>c
noncomputable def ah9:vz:=RZ (RZ (Dr (RZ (Dr (Dr (VE.BC 5 Dq))))))
def R0(w0:yk)(ts:List ByteArray)(b o c:Nat)(ds:List yao)(pre:List UInt8)(k:Nat)(a:Act)(w:yk):Prop:=
 k<=ts.length/\a.tmps.size=69/\a.defers=ds/\a.tmps.getD 6 undef=.slice (some ⟨b,o,none⟩) ts.length c/\a.tmps.getD 10 undef=.pointer (some ⟨w0.heap.size,0,none⟩)/\a.tmps.getD 11 undef=.int .i64 ((k:Int)-1)/\
  Lib.IsBuilder 297 5 w0.heap.size w0.heap.size (Lib.byteCells (pre++pW (ts.drop k).reverse)) w/\Below w0.heap.size w0 w
def XU(a:Act):Nat:=match a.tmps.getD 11 undef with
 | .int _ z=>(z+1).toNat
 | _=>0
set_option maxHeartbeats 4000000 in
def ads{Q:Exit->Act->yk->Prop}{w0:yk}{ts:List ByteArray}{b o c:Nat}{ds:List yao}{pre:List UInt8}(hc:∀i (h:i<ts.length),w0.cell? ⟨b,o+i,none⟩=some (.string ts[i]))(eS:pre.length<=1)(hl:(ts.map (·.size)).sum+1<=140737488355328)(hn:ts.length<=c)(dF:ts.length<9223372036854775808)(hQ:∀a w,R0 w0 ts b o c ds pre 0 a w->Q (.exit 2) a w):∀a w,(∃k,R0 w0 ts b o c ds pre k a w)->(Code.loop ah9).wpIn Fence.wide 0 Tryz.prog Q a w:=by
 intro a w h0;refine wpIn_loop (fun a w=>∃k,R0 w0 ts b o c ds pre k a w) (fun a _=>XU a) h0 ?_;rintro a w ⟨k,hk,eO,rfl,h6,jf,DZ,zH,Gf⟩;have hm:XU a=k:=by
  unfold XU;rw[DZ];simp
 simp only[hm];simp only[ah9,Dq,Tryz.f174,wV,VE.BC,RZ,Dr];obtain⟨⟨l⟩,ds⟩:=a;obtain⟨x0,x1,x2,x3,x4,x5,x6,x7,x8,x9,x10,x11,x12,IC,ID,IE,IF,IG,II,IJ,IK,IL,IM,IN,IP,IQ,IR,IS,IT,IU,IV,IW,IX,IY,IZ,I0,I1,I2,I3,I4,I5,I6,I7,I8,I9,Ja,Jb,Jc,Jd,Je,Jf,Jg,Jh,Ji,Jj,Jk,Jl,Jm,Jn,Jo,Jp,Jq,Jr,Js,Jt,Ju,Jv,Jw,Jx,rfl⟩:=VW (l:=l) eO;have e6:x6=.slice (some ⟨b,o,none⟩) ts.length c:=h6;have D0:x10=.pointer (some ⟨w0.heap.size,0,none⟩):=jf;have NH:x11=.int .i64 ((k:Int)-1):=DZ;clear h6 jf DZ hm eO;subst e6;subst D0;subst NH
 cases k with
 | zero=>
  gi_wp2
  exact⟨Nat.zero_le _,rfl,rfl,rfl,rfl,rfl,zH,Gf⟩
 | succ k=>
  have hi:k<ts.length:=hk;have E1:=hc k hi;have aF0:w.cell? ⟨b,o+k,none⟩=some (.string ts[k]):=(Gf.cell (World.block_lt_of_cell? _ _ E1)).trans E1;have e1:((k+1:Nat):Int)-1=(k:Int):=by omega
  rw[e1]
  gi_wp2
  refine⟨trivial,rfl,callsIn_wide.2 ((Tryz.Builder_WriteString _ _ _ ts[k] w zH ?_ Gf.size).mono ?_)⟩
  .have h1:=aqD (ts.drop (k+1)).reverse;have h2:=adr (ts.map (·.size)) (k+1);have h3:(ts.map (·.size)).drop k=ts[k].size::(ts.map (·.size)).drop (k+1):=by
    rw[yR (by simpa using hi)];simp
   have h4:=adr (ts.map (·.size)) k;rw[h3,ybZ] at h4;rw[Lib.byteCells_length,yJ,h1,List.map_reverse,List.sum_reverse,List.map_drop];omega
  .rintro e w' ⟨rfl,bJ,MA⟩;have hd:pre++pW (ts.drop k).reverse=pre++pW (ts.drop (k+1)).reverse++ts[k].data.toList:=by
    rw[yR hi,List.reverse_cons,aou,List.append_assoc]
   rw[Lib.strCells_eq,<-Lib.byteCells_append,<-hd] at bJ;have hw:wrap64 ((k:Int)-1)=(k:Int)-1:=by unfold wrap64;omega
   simp only
   gi_wp2
   refine⟨⟨k,by omega,rfl,rfl,rfl,rfl,rfl,.inr bJ,Gf.trans MA⟩,?_⟩;show ((k:Int)-1+1).toNat<k+1
   omega
set_option maxHeartbeats 4000000 in
def aqE{Q:Exit->Act->yk->Prop}(a:Act)(w:yk)(neg:Bool)(ts:List ByteArray)(b o c:Nat)(eO:a.tmps.size=69)(h3:a.tmps.getD 3 undef=.bool neg)(h6:a.tmps.getD 6 undef=.slice (some ⟨b,o,none⟩) ts.length c)(hc:∀i (h:i<ts.length),w.cell? ⟨b,o+i,none⟩=some (.string ts[i]))(hl:(ts.map (·.size)).sum+1<=140737488355328)(hn:ts.length<=c)(dF:ts.length<9223372036854775808)(hQ:∀a' w',VE.Calm w w'->a'.tmps.size=69->a'.defers=a.defers->a'.tmps.getD 2 undef=.string ⟨((if neg then [45] else [])++pW ts.reverse).toArray⟩->Q .ret a' w'):
  (VE.BC 5 Dq).wpIn Fence.wide 0 Tryz.prog Q a w:=by
 simp only[Dq,Tryz.f174,wV,VE.BC];obtain⟨⟨l⟩,ds⟩:=a;obtain⟨x0,x1,x2,x3,x4,x5,x6,x7,x8,x9,x10,x11,x12,IC,ID,IE,IF,IG,II,IJ,IK,IL,IM,IN,IP,IQ,IR,IS,IT,IU,IV,IW,IX,IY,IZ,I0,I1,I2,I3,I4,I5,I6,I7,I8,I9,Ja,Jb,Jc,Jd,Je,Jf,Jg,Jh,Ji,Jj,Jk,Jl,Jm,Jn,Jo,Jp,Jq,Jr,Js,Jt,Ju,Jv,Jw,Jx,rfl⟩:=VW (l:=l) eO;have e3:x3=.bool neg:=h3;have e6:x6=.slice (some ⟨b,o,none⟩) ts.length c:=h6;clear h3 h6 eO;subst e3;subst e6;have hw:wrap64 ((ts.length:Int)-1)=(ts.length:Int)-1:=by unfold wrap64;omega
 obtain⟨pre,hp⟩:∃pre:List UInt8,(if neg then [45] else [])=pre:=⟨_,rfl⟩;rw[hp] at hQ;have fin:∀(a:Act) (w':yk) (K:Act->yk->Prop),R0 w ts b o c ds pre 0 a w'->
   (∀(a:Act) (w:yk),Code.wpIn Fence.wide 0 Tryz.prog (Dr (Dr (Dr (VE.BC 5 Dq)))) Q a w->K a w)->K a w':=by
  rintro a w' K ⟨_,eO,rfl,h6,jf,DZ,zH,Gf⟩ hK;clear hp;refine hK _ _ ?_;simp only[Dq,Tryz.f174,wV,VE.BC,Dr];obtain⟨⟨l⟩,ds⟩:=a;obtain⟨x0,x1,x2,x3,x4,x5,x6,x7,x8,x9,x10,x11,x12,IC,ID,IE,IF,IG,II,IJ,IK,IL,IM,IN,IP,IQ,IR,IS,IT,IU,IV,IW,IX,IY,IZ,I0,I1,I2,I3,I4,I5,I6,I7,I8,I9,Ja,Jb,Jc,Jd,Je,Jf,Jg,Jh,Ji,Jj,Jk,Jl,Jm,Jn,Jo,Jp,Jq,Jr,Js,Jt,Ju,Jv,Jw,Jx,rfl⟩:=VW (l:=l) eO;have D0:x10=.pointer (some ⟨w.heap.size,0,none⟩):=jf;subst D0
  gi_wp2
  refine⟨trivial,rfl,callsIn_wide.2 ((Tryz.Builder_String_any _ _ _ _ zH Gf.size).mono ?_)⟩;rintro e w2 ⟨rfl,MA⟩;simp only
  gi_wp2
  exact hQ _ _ (VE.JR (Gf.trans MA)) rfl rfl rfl
 cases neg with
 | false=>
  cases hp
  gi_wp2
  refine ads (pre:=[]) hc (by simp) hl hn dF (fun a w' hI=>?_) _ _ ⟨ts.length,yp _,rfl,rfl,rfl,rfl,?_,?_,?_⟩
  .simp only [Exit.inBlock,Exit.then];exact fin a w' _ hI (by assumption)
  .rfl
  .rw [yby];exact Lib.fresh_isBuilder _ _ w
  .exact (Below.refl _ w).alloc (yp _) _
 | true=>
  cases hp
  gi_wp2
  refine⟨trivial,rfl,callsIn_wide.2 ((Tryz.Builder_WriteString _ _ [] _ _ (Lib.fresh_isBuilder _ _ w) (by decide) (by simp)).mono ?_)⟩;rintro e w' ⟨rfl,bJ,MA⟩;simp only
  gi_wp2
  refine ads (pre:=[45]) hc (by simp) hl hn dF (fun a w' hI=>?_) _ _ ⟨ts.length,yp _,rfl,rfl,rfl,rfl,?_,?_,?_⟩
  .simp only [Exit.inBlock,Exit.then];exact fin a w' _ hI (by assumption)
  .rfl
  .rw [yby];exact .inr bJ
  .exact ((Below.refl _ w).alloc (yp _) _).trans MA
def aqF:VE.Vp Tryz.prog Dq:=fun _ a w neg ts b o c h1 h2 h3 h4 h5 h6 h7 h8=>aqE a w neg ts b o c h1 h2 h3 h4 h5 h6 h7 h8
end Go.Proofs
