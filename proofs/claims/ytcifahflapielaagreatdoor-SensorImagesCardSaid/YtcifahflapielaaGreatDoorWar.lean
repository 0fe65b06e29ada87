import Derived.TacticsIn
import Derived.LoopNIn
import Derived.OwnWalk
import Derived.WalkKit
import Derived.Test.YtcifahflapielaaGreatDoorWaq
set_option linter.all false
set_option maxRecDepth 100000
open Go renaming Code->vj,Deferred->yam,World->ym
open List renaming drop_eq_getElem_cons->yT,drop_length->ybv,length_append->yM,sum_cons->ybQ
open Nat renaming le_refl->yz
open Option renaming getD_some->xT
namespace Go.Proofs
open Go.Shelf
open Go.RowKit
def bU{α:Type}{l:List α}{n:Nat}(h:l.length=n+1):∃x r,l=x::r/\r.length=n:=by
 cases l with
 | nil=>simp at h
 | cons x r=>exact⟨x,r,rfl,by simpa using h⟩
def VV{α:Type}{l:List α}(h0:l.length=69):∃x0 x1 x2 x3 x4 x5 x6 x7 x8 x9 Ea GG Jp Jq Jr Js Jt Ju Jv Jw Jx Jy Jz JA JB JC JD JE JF JG JH JI JJ JK JL JM JN JO JP JQ JR JS JT JU JV JW JX JY JZ J0 J3 J4 J5 J6 J7 J8 J9 Ka Kb Kc Kd Ke Kf Kg Kh Ki Kj Kk Kl,l=[x0,x1,x2,x3,x4,x5,x6,x7,x8,x9,Ea,GG,Jp,Jq,Jr,Js,Jt,Ju,Jv,Jw,Jx,Jy,Jz,JA,JB,JC,JD,JE,JF,JG,JH,JI,JJ,JK,JL,JM,JN,JO,JP,JQ,JR,JS,JT,JU,JV,JW,JX,JY,JZ,J0,J3,J4,J5,J6,J7,J8,J9,Ka,Kb,Kc,Kd,Ke,Kf,Kg,Kh,Ki,Kj,Kk,Kl]:=by
 obtain⟨x0,l0,rfl,h1⟩:=bU h0;obtain⟨x1,l1,rfl,h2⟩:=bU h1;obtain⟨x2,l2,rfl,h3⟩:=bU h2;obtain⟨x3,l3,rfl,h4⟩:=bU h3;obtain⟨x4,l4,rfl,h5⟩:=bU h4;obtain⟨x5,l5,rfl,h6⟩:=bU h5;obtain⟨x6,l6,rfl,h7⟩:=bU h6;obtain⟨x7,l7,rfl,h8⟩:=bU h7;obtain⟨x8,l8,rfl,h9⟩:=bU h8;obtain⟨x9,l9,rfl,iO⟩:=bU h9;obtain⟨Ea,l10,rfl,Eb⟩:=bU iO;obtain⟨GG,l11,rfl,ZF⟩:=bU Eb;obtain⟨Jp,l12,rfl,h13⟩:=bU ZF;obtain⟨Jq,l13,rfl,h14⟩:=bU h13;obtain⟨Jr,l14,rfl,h15⟩:=bU h14;obtain⟨Js,l15,rfl,h16⟩:=bU h15;obtain⟨Jt,l16,rfl,h17⟩:=bU h16;obtain⟨Ju,l17,rfl,h18⟩:=bU h17;obtain⟨Jv,l18,rfl,h19⟩:=bU h18;obtain⟨Jw,l19,rfl,oX⟩:=bU h19;obtain⟨Jx,l20,rfl,h21⟩:=bU oX;obtain⟨Jy,l21,rfl,h22⟩:=bU h21;obtain⟨Jz,l22,rfl,h23⟩:=bU h22;obtain⟨JA,l23,rfl,h24⟩:=bU h23
 obtain⟨JB,l24,rfl,h25⟩:=bU h24;obtain⟨JC,l25,rfl,h26⟩:=bU h25;obtain⟨JD,l26,rfl,h27⟩:=bU h26;obtain⟨JE,l27,rfl,h28⟩:=bU h27;obtain⟨JF,l28,rfl,GH⟩:=bU h28;obtain⟨JG,l29,rfl,h30⟩:=bU GH;obtain⟨JH,l30,rfl,h31⟩:=bU h30;obtain⟨JI,l31,rfl,h32⟩:=bU h31;obtain⟨JJ,l32,rfl,h33⟩:=bU h32;obtain⟨JK,l33,rfl,h34⟩:=bU h33;obtain⟨JL,l34,rfl,h35⟩:=bU h34;obtain⟨JM,l35,rfl,h36⟩:=bU h35;obtain⟨JN,l36,rfl,h37⟩:=bU h36;obtain⟨JO,l37,rfl,h38⟩:=bU h37;obtain⟨JP,l38,rfl,h39⟩:=bU h38;obtain⟨JQ,l39,rfl,h40⟩:=bU h39;obtain⟨JR,l40,rfl,h41⟩:=bU h40;obtain⟨JS,l41,rfl,h42⟩:=bU h41;obtain⟨JT,l42,rfl,h43⟩:=bU h42;obtain⟨JU,l43,rfl,h44⟩:=bU h43;obtain⟨JV,l44,rfl,h45⟩:=bU h44;obtain⟨JW,l45,rfl,ZA⟩:=bU h45;obtain⟨JX,l46,rfl,h47⟩:=bU ZA
 obtain⟨JY,l47,rfl,kI⟩:=bU h47;obtain⟨JZ,l48,rfl,qQ⟩:=bU kI;obtain⟨J0,l49,rfl,Zx⟩:=bU qQ;obtain⟨J3,l50,rfl,h51⟩:=bU Zx;obtain⟨J4,l51,rfl,h52⟩:=bU h51;obtain⟨J5,l52,rfl,h53⟩:=bU h52;obtain⟨J6,l53,rfl,h54⟩:=bU h53;obtain⟨J7,l54,rfl,h55⟩:=bU h54;obtain⟨J8,l55,rfl,h56⟩:=bU h55;obtain⟨J9,l56,rfl,h57⟩:=bU h56;obtain⟨Ka,l57,rfl,h58⟩:=bU h57;obtain⟨Kb,l58,rfl,h59⟩:=bU h58;obtain⟨Kc,l59,rfl,h60⟩:=bU h59;obtain⟨Kd,l60,rfl,h61⟩:=bU h60;obtain⟨Ke,l61,rfl,Tg⟩:=bU h61;obtain⟨Kf,l62,rfl,h63⟩:=bU Tg;obtain⟨Kg,l63,rfl,h64⟩:=bU h63;obtain⟨Kh,l64,rfl,h65⟩:=bU h64;obtain⟨Ki,l65,rfl,h66⟩:=bU h65;obtain⟨Kj,l66,rfl,h67⟩:=bU h66;obtain⟨Kk,l67,rfl,h68⟩:=bU h67;obtain⟨Kl,l68,rfl,Zw⟩:=bU h68;cases List.eq_nil_of_length_eq_zero Zw
 exact⟨x0,x1,x2,x3,x4,x5,x6,x7,x8,x9,Ea,GG,Jp,Jq,Jr,Js,Jt,Ju,Jv,Jw,Jx,Jy,Jz,JA,JB,JC,JD,JE,JF,JG,JH,JI,JJ,JK,JL,JM,JN,JO,JP,JQ,JR,JS,JT,JU,JV,JW,JX,JY,JZ,J0,J3,J4,J5,J6,J7,J8,J9,Ka,Kb,Kc,Kd,Ke,Kf,Kg,Kh,Ki,Kj,Kk,Kl,rfl⟩
noncomputable def DB:vj:=Tryz.f140.body.getD .skip
open VE (qc)
def anw(a:List ByteArray)(t:ByteArray):qc (a++[t])=qc a++t.data.toList:=by simp[qc]
def apJ(a:List ByteArray):(qc a).length=(a.map (·.size)).sum:=by
 induction a with
 | nil=>rfl
 | cons t r ih=>
  show (t.data.toList++qc r).length=t.size+(r.map (·.size)).sum
  rw[yM,ih];rfl
def adb(l:List Nat)(k:Nat):(l.drop k).sum<=l.sum:=by
 induction l generalizing k with
 | nil=>simp
 | cons x l ih=>
  cases k with
  | zero=>simp
  | succ k=>have:=ih k;simp only[List.drop_succ_cons,ybQ];omega
def Sk:vj->vj
 | .seq a _=>a
 | .block _ a=>a
 | .loop a=>a
 | c=>c
def DC:vj->vj
 | .seq _ b=>b
 | c=>c
noncomputable def ahp:vj:=Sk (Sk (DC (Sk (DC (DC (VE.BK 5 DB))))))
def Sl(w0:ym)(ts:List ByteArray)(b o c:Nat)(ds:List yam)(pre:List UInt8)(k:Nat)(a:Act)(w:ym):Prop:=
 k<=ts.length/\a.tmps.size=69/\a.defers=ds/\a.tmps.getD 6 undef=.slice (some ⟨b,o,none⟩) ts.length c/\a.tmps.getD 10 undef=.pointer (some ⟨w0.heap.size,0,none⟩)/\a.tmps.getD 11 undef=.int .i64 ((k:Int)-1)/\
  Lib.IsBuilder 288 5 w0.heap.size w0.heap.size (Lib.byteCells (pre++qc (ts.drop k).reverse)) w/\Below w0.heap.size w0 w
def XM(a:Act):Nat:=match a.tmps.getD 11 undef with
 | .int _ z=>(z+1).toNat
 | _=>0
set_option maxHeartbeats 4000000 in
def ade{Q:Exit->Act->ym->Prop}{w0:ym}{ts:List ByteArray}{b o c:Nat}{ds:List yam}{pre:List UInt8}(hc:∀i (h:i<ts.length),w0.cell? ⟨b,o+i,none⟩=some (.string ts[i]))(eX:pre.length<=1)(hl:(ts.map (·.size)).sum+1<=140737488355328)(hn:ts.length<=c)(dh:ts.length<9223372036854775808)(hQ:∀a w,Sl w0 ts b o c ds pre 0 a w->Q (.exit 2) a w):∀a w,(∃k,Sl w0 ts b o c ds pre k a w)->(Code.loop ahp).wpIn Fence.wide 0 Tryz.prog Q a w:=by
 intro a w h0;refine wpIn_loop (fun a w=>∃k,Sl w0 ts b o c ds pre k a w) (fun a _=>XM a) h0 ?_;rintro a w ⟨k,hk,eS,rfl,h6,iO,Eb,nB,GI⟩;have hm:XM a=k:=by
  unfold XM;rw[Eb];simp
 simp only[hm];simp only[ahp,DB,Tryz.f140,xT,VE.BK,Sk,DC];obtain⟨⟨l⟩,ds⟩:=a;obtain⟨x0,x1,x2,x3,x4,x5,x6,x7,x8,x9,Ea,GG,Jp,Jq,Jr,Js,Jt,Ju,Jv,Jw,Jx,Jy,Jz,JA,JB,JC,JD,JE,JF,JG,JH,JI,JJ,JK,JL,JM,JN,JO,JP,JQ,JR,JS,JT,JU,JV,JW,JX,JY,JZ,J0,J3,J4,J5,J6,J7,J8,J9,Ka,Kb,Kc,Kd,Ke,Kf,Kg,Kh,Ki,Kj,Kk,Kl,rfl⟩:=VV (l:=l) eS;have e6:x6=.slice (some ⟨b,o,none⟩) ts.length c:=h6;have ZG:Ea=.pointer (some ⟨w0.heap.size,0,none⟩):=iO;have e11:GG=.int .i64 ((k:Int)-1):=Eb;clear h6 iO Eb hm eS;subst e6;subst ZG;subst e11
 cases k with
 | zero=>
  gi_wp2
  exact⟨Nat.zero_le _,rfl,rfl,rfl,rfl,rfl,nB,GI⟩
 | succ k=>
  have hi:k<ts.length:=hk;have FA:=hc k hi;have aEv:w.cell? ⟨b,o+k,none⟩=some (.string ts[k]):=(GI.cell (World.block_lt_of_cell? _ _ FA)).trans FA;have e1:((k+1:Nat):Int)-1=(k:Int):=by omega
  rw[e1]
  gi_wp2
  refine⟨trivial,rfl,callsIn_wide.2 ((Tryz.Builder_WriteString _ _ _ ts[k] w nB ?_ GI.size).mono ?_)⟩
  .have h1:=apJ (ts.drop (k+1)).reverse;have h2:=adb (ts.map (·.size)) (k+1);have h3:(ts.map (·.size)).drop k=ts[k].size::(ts.map (·.size)).drop (k+1):=by
    rw[yT (by simpa using hi)];simp
   have h4:=adb (ts.map (·.size)) k;rw[h3,ybQ] at h4;rw[Lib.byteCells_length,yM,h1,List.map_reverse,List.sum_reverse,List.map_drop];omega
  .rintro e w' ⟨rfl,bD,Nw⟩;have hd:pre++qc (ts.drop k).reverse=pre++qc (ts.drop (k+1)).reverse++ts[k].data.toList:=by
    rw[yT hi,List.reverse_cons,anw,List.append_assoc]
   rw[Lib.strCells_eq,<-Lib.byteCells_append,<-hd] at bD;have hw:wrap64 ((k:Int)-1)=(k:Int)-1:=by unfold wrap64;omega
   simp only
   gi_wp2
   refine⟨⟨k,by omega,rfl,rfl,rfl,rfl,rfl,.inr bD,GI.trans Nw⟩,?_⟩;show ((k:Int)-1+1).toNat<k+1
   omega
set_option maxHeartbeats 4000000 in
def apK{Q:Exit->Act->ym->Prop}(a:Act)(w:ym)(neg:Bool)(ts:List ByteArray)(b o c:Nat)(eS:a.tmps.size=69)(h3:a.tmps.getD 3 undef=.bool neg)(h6:a.tmps.getD 6 undef=.slice (some ⟨b,o,none⟩) ts.length c)(hc:∀i (h:i<ts.length),w.cell? ⟨b,o+i,none⟩=some (.string ts[i]))(hl:(ts.map (·.size)).sum+1<=140737488355328)(hn:ts.length<=c)(dh:ts.length<9223372036854775808)(hQ:∀a' w',VE.Calm w w'->a'.tmps.size=69->a'.defers=a.defers->a'.tmps.getD 2 undef=.string ⟨((if neg then [45] else [])++qc ts.reverse).toArray⟩->Q .ret a' w'):
  (VE.BK 5 DB).wpIn Fence.wide 0 Tryz.prog Q a w:=by
 simp only[DB,Tryz.f140,xT,VE.BK];obtain⟨⟨l⟩,ds⟩:=a;obtain⟨x0,x1,x2,x3,x4,x5,x6,x7,x8,x9,Ea,GG,Jp,Jq,Jr,Js,Jt,Ju,Jv,Jw,Jx,Jy,Jz,JA,JB,JC,JD,JE,JF,JG,JH,JI,JJ,JK,JL,JM,JN,JO,JP,JQ,JR,JS,JT,JU,JV,JW,JX,JY,JZ,J0,J3,J4,J5,J6,J7,J8,J9,Ka,Kb,Kc,Kd,Ke,Kf,Kg,Kh,Ki,Kj,Kk,Kl,rfl⟩:=VV (l:=l) eS;have e3:x3=.bool neg:=h3;have e6:x6=.slice (some ⟨b,o,none⟩) ts.length c:=h6;clear h3 h6 eS;subst e3;subst e6;have hw:wrap64 ((ts.length:Int)-1)=(ts.length:Int)-1:=by unfold wrap64;omega
 obtain⟨pre,hp⟩:∃pre:List UInt8,(if neg then [45] else [])=pre:=⟨_,rfl⟩;rw[hp] at hQ;have fin:∀(a:Act) (w':ym) (K:Act->ym->Prop),Sl w ts b o c ds pre 0 a w'->
   (∀(a:Act) (w:ym),Code.wpIn Fence.wide 0 Tryz.prog (DC (DC (DC (VE.BK 5 DB)))) Q a w->K a w)->K a w':=by
  rintro a w' K ⟨_,eS,rfl,h6,iO,Eb,nB,GI⟩ hK;clear hp;refine hK _ _ ?_;simp only[DB,Tryz.f140,xT,VE.BK,DC];obtain⟨⟨l⟩,ds⟩:=a;obtain⟨x0,x1,x2,x3,x4,x5,x6,x7,x8,x9,Ea,GG,Jp,Jq,Jr,Js,Jt,Ju,Jv,Jw,Jx,Jy,Jz,JA,JB,JC,JD,JE,JF,JG,JH,JI,JJ,JK,JL,JM,JN,JO,JP,JQ,JR,JS,JT,JU,JV,JW,JX,JY,JZ,J0,J3,J4,J5,J6,J7,J8,J9,Ka,Kb,Kc,Kd,Ke,Kf,Kg,Kh,Ki,Kj,Kk,Kl,rfl⟩:=VV (l:=l) eS;have ZG:Ea=.pointer (some ⟨w.heap.size,0,none⟩):=iO;subst ZG
  gi_wp2
  refine⟨trivial,rfl,callsIn_wide.2 ((Tryz.Builder_String_any _ _ _ _ nB GI.size).mono ?_)⟩;rintro e w2 ⟨rfl,Nw⟩;simp only
  gi_wp2
  exact hQ _ _ (VE.Kw (GI.trans Nw)) rfl rfl rfl
 cases neg with
 | false=>
  cases hp
  gi_wp2
  refine ade (pre:=[]) hc (by simp) hl hn dh (fun a w' hI=>?_) _ _ ⟨ts.length,yz _,rfl,rfl,rfl,rfl,?_,?_,?_⟩
  .simp only [Exit.inBlock,Exit.then];exact fin a w' _ hI (by assumption)
  .rfl
  .rw [ybv];exact Lib.fresh_isBuilder _ _ w
  .exact (Below.refl _ w).alloc (yz _) _
 | true=>
  cases hp
  gi_wp2
  refine⟨trivial,rfl,callsIn_wide.2 ((Tryz.Builder_WriteString _ _ [] _ _ (Lib.fresh_isBuilder _ _ w) (by decide) (by simp)).mono ?_)⟩;rintro e w' ⟨rfl,bD,Nw⟩;simp only
  gi_wp2
  refine ade (pre:=[45]) hc (by simp) hl hn dh (fun a w' hI=>?_) _ _ ⟨ts.length,yz _,rfl,rfl,rfl,rfl,?_,?_,?_⟩
  .simp only [Exit.inBlock,Exit.then];exact fin a w' _ hI (by assumption)
  .rfl
  .rw [ybv];exact .inr bD
  .exact ((Below.refl _ w).alloc (yz _) _).trans Nw
def apL:VE.Vs Tryz.prog DB:=fun _ a w neg ts b o c h1 h2 h3 h4 h5 h6 h7 h8=>apK a w neg ts b o c h1 h2 h3 h4 h5 h6 h7 h8
end Go.Proofs
