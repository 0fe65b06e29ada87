import Derived.TacticsIn
import Derived.LoopNIn
import Derived.OwnWalk
import Derived.WalkKit
import Derived.Test.YtfdcefmdjiokdaaGreatDoorWai
set_option linter.all false
set_option maxRecDepth 100000
open Go renaming Code->vG,Deferred->yai,World->yt
open List renaming drop_eq_getElem_cons->yP,drop_length->tI,length_append->yE,sum_cons->ybW
open Nat renaming le_refl->ym
open Option renaming getD_some->vQ
namespace Go.Proofs
open Go.Shelf
open Go.RowKit
def bX{α:Type}{l:List α}{n:Nat}(h:l.length=n+1):∃x r,l=x::r/\r.length=n:=by
 cases l with
 | nil=>simp at h
 | cons x r=>exact⟨x,r,rfl,by simpa using h⟩
def ZD{α:Type}{l:List α}(h0:l.length=69):∃x0 x1 x2 x3 x4 x5 x6 x7 x8 x9 FO Ig Lh Li Lj Lk Ll Lm Ln Lo Lr Ls Lt Lu Lv Lw Lx Ly LA LB LC LD LF LH LI LJ LK LL LM LO LP LQ LR LS LU LV LW LX LY LZ L2 L3 L4 L5 L6 L7 L8 L9 Ma Mb Mc Me Mf Mg Mh Mi Mj Mk Ml,l=[x0,x1,x2,x3,x4,x5,x6,x7,x8,x9,FO,Ig,Lh,Li,Lj,Lk,Ll,Lm,Ln,Lo,Lr,Ls,Lt,Lu,Lv,Lw,Lx,Ly,LA,LB,LC,LD,LF,LH,LI,LJ,LK,LL,LM,LO,LP,LQ,LR,LS,LU,LV,LW,LX,LY,LZ,L2,L3,L4,L5,L6,L7,L8,L9,Ma,Mb,Mc,Me,Mf,Mg,Mh,Mi,Mj,Mk,Ml]:=by
 obtain⟨x0,l0,rfl,h1⟩:=bX h0;obtain⟨x1,l1,rfl,h2⟩:=bX h1;obtain⟨x2,l2,rfl,h3⟩:=bX h2;obtain⟨x3,l3,rfl,h4⟩:=bX h3;obtain⟨x4,l4,rfl,h5⟩:=bX h4;obtain⟨x5,l5,rfl,h6⟩:=bX h5;obtain⟨x6,l6,rfl,h7⟩:=bX h6;obtain⟨x7,l7,rfl,h8⟩:=bX h7;obtain⟨x8,l8,rfl,h9⟩:=bX h8;obtain⟨x9,l9,rfl,jk⟩:=bX h9;obtain⟨FO,l10,rfl,Mm⟩:=bX jk;obtain⟨Ig,l11,rfl,h12⟩:=bX Mm;obtain⟨Lh,l12,rfl,h13⟩:=bX h12;obtain⟨Li,l13,rfl,h14⟩:=bX h13;obtain⟨Lj,l14,rfl,h15⟩:=bX h14;obtain⟨Lk,l15,rfl,h16⟩:=bX h15;obtain⟨Ll,l16,rfl,h17⟩:=bX h16;obtain⟨Lm,l17,rfl,h18⟩:=bX h17;obtain⟨Ln,l18,rfl,h19⟩:=bX h18;obtain⟨Lo,l19,rfl,qP⟩:=bX h19;obtain⟨Lr,l20,rfl,h21⟩:=bX qP;obtain⟨Ls,l21,rfl,h22⟩:=bX h21;obtain⟨Lt,l22,rfl,h23⟩:=bX h22;obtain⟨Lu,l23,rfl,h24⟩:=bX h23
 obtain⟨Lv,l24,rfl,h25⟩:=bX h24;obtain⟨Lw,l25,rfl,Mn⟩:=bX h25;obtain⟨Lx,l26,rfl,WM⟩:=bX Mn;obtain⟨Ly,l27,rfl,h28⟩:=bX WM;obtain⟨LA,l28,rfl,h29⟩:=bX h28;obtain⟨LB,l29,rfl,Ai⟩:=bX h29;obtain⟨LC,l30,rfl,jn⟩:=bX Ai;obtain⟨LD,l31,rfl,h32⟩:=bX jn;obtain⟨LF,l32,rfl,oK⟩:=bX h32;obtain⟨LH,l33,rfl,Mo⟩:=bX oK;obtain⟨LI,l34,rfl,h35⟩:=bX Mo;obtain⟨LJ,l35,rfl,h36⟩:=bX h35;obtain⟨LK,l36,rfl,Mq⟩:=bX h36;obtain⟨LL,l37,rfl,h38⟩:=bX Mq;obtain⟨LM,l38,rfl,h39⟩:=bX h38;obtain⟨LO,l39,rfl,h40⟩:=bX h39;obtain⟨LP,l40,rfl,h41⟩:=bX h40;obtain⟨LQ,l41,rfl,WO⟩:=bX h41;obtain⟨LR,l42,rfl,h43⟩:=bX WO;obtain⟨LS,l43,rfl,h44⟩:=bX h43;obtain⟨LU,l44,rfl,h45⟩:=bX h44;obtain⟨LV,l45,rfl,h46⟩:=bX h45;obtain⟨LW,l46,rfl,h47⟩:=bX h46
 obtain⟨LX,l47,rfl,mo⟩:=bX h47;obtain⟨LY,l48,rfl,za⟩:=bX mo;obtain⟨LZ,l49,rfl,h50⟩:=bX za;obtain⟨L2,l50,rfl,WQ⟩:=bX h50;obtain⟨L3,l51,rfl,h52⟩:=bX WQ;obtain⟨L4,l52,rfl,h53⟩:=bX h52;obtain⟨L5,l53,rfl,h54⟩:=bX h53;obtain⟨L6,l54,rfl,Mr⟩:=bX h54;obtain⟨L7,l55,rfl,h56⟩:=bX Mr;obtain⟨L8,l56,rfl,h57⟩:=bX h56;obtain⟨L9,l57,rfl,h58⟩:=bX h57;obtain⟨Ma,l58,rfl,h59⟩:=bX h58;obtain⟨Mb,l59,rfl,h60⟩:=bX h59;obtain⟨Mc,l60,rfl,Ih⟩:=bX h60;obtain⟨Me,l61,rfl,WJ⟩:=bX Ih;obtain⟨Mf,l62,rfl,VL⟩:=bX WJ;obtain⟨Mg,l63,rfl,Cs⟩:=bX VL;obtain⟨Mh,l64,rfl,h65⟩:=bX Cs;obtain⟨Mi,l65,rfl,h66⟩:=bX h65;obtain⟨Mj,l66,rfl,h67⟩:=bX h66;obtain⟨Mk,l67,rfl,h68⟩:=bX h67;obtain⟨Ml,l68,rfl,h69⟩:=bX h68;cases List.eq_nil_of_length_eq_zero h69
 exact⟨x0,x1,x2,x3,x4,x5,x6,x7,x8,x9,FO,Ig,Lh,Li,Lj,Lk,Ll,Lm,Ln,Lo,Lr,Ls,Lt,Lu,Lv,Lw,Lx,Ly,LA,LB,LC,LD,LF,LH,LI,LJ,LK,LL,LM,LO,LP,LQ,LR,LS,LU,LV,LW,LX,LY,LZ,L2,L3,L4,L5,L6,L7,L8,L9,Ma,Mb,Mc,Me,Mf,Mg,Mh,Mi,Mj,Mk,Ml,rfl⟩
noncomputable def Fg:vG:=Tryz.f201.body.getD .skip
open VE (sK)
def asI(a:List ByteArray)(t:ByteArray):sK (a++[t])=sK a++t.data.toList:=by simp[sK]
def auV(a:List ByteArray):(sK a).length=(a.map (·.size)).sum:=by
 induction a with
 | nil=>rfl
 | cons t r ih=>
  show (t.data.toList++sK r).length=t.size+(r.map (·.size)).sum
  rw[yE,ih];rfl
def ahq(l:List Nat)(k:Nat):(l.drop k).sum<=l.sum:=by
 induction l generalizing k with
 | nil=>simp
 | cons x l ih=>
  cases k with
  | zero=>simp
  | succ k=>have:=ih k;simp only[List.drop_succ_cons,ybW];omega
def Vf:vG->vG
 | .seq a _=>a
 | .block _ a=>a
 | .loop a=>a
 | c=>c
def Fh:vG->vG
 | .seq _ b=>b
 | c=>c
noncomputable def amF:vG:=Vf (Vf (Fh (Vf (Fh (Fh (VE.C5 5 Fg))))))
def Vg(w0:yt)(ts:List ByteArray)(b o c:Nat)(ds:List yai)(pre:List UInt8)(k:Nat)(a:Act)(w:yt):Prop:=
 k<=ts.length/\a.tmps.size=69/\a.defers=ds/\a.tmps.getD 6 undef=.slice (some ⟨b,o,none⟩) ts.length c/\a.tmps.getD 10 undef=.pointer (some ⟨w0.heap.size,0,none⟩)/\a.tmps.getD 11 undef=.int .i64 ((k:Int)-1)/\
  Lib.IsBuilder 285 5 w0.heap.size w0.heap.size (Lib.byteCells (pre++sK (ts.drop k).reverse)) w/\Below w0.heap.size w0 w
def abD(a:Act):Nat:=match a.tmps.getD 11 undef with
 | .int _ z=>(z+1).toNat
 | _=>0
set_option maxHeartbeats 4000000 in
def ahr{Q:Exit->Act->yt->Prop}{w0:yt}{ts:List ByteArray}{b o c:Nat}{ds:List yai}{pre:List UInt8}(hc:∀i (h:i<ts.length),w0.cell? ⟨b,o+i,none⟩=some (.string ts[i]))(gm:pre.length<=1)(hl:(ts.map (·.size)).sum+1<=140737488355328)(hn:ts.length<=c)(eH:ts.length<9223372036854775808)(hQ:∀a w,Vg w0 ts b o c ds pre 0 a w->Q (.exit 2) a w):∀a w,(∃k,Vg w0 ts b o c ds pre k a w)->(Code.loop amF).wpIn Fence.wide 0 Tryz.prog Q a w:=by
 intro a w h0;refine wpIn_loop (fun a w=>∃k,Vg w0 ts b o c ds pre k a w) (fun a _=>abD a) h0 ?_;rintro a w ⟨k,hk,fL,rfl,h6,jk,Mm,Ii,Ij⟩;have hm:abD a=k:=by
  unfold abD;rw[Mm];simp
 simp only[hm];simp only[amF,Fg,Tryz.f201,vQ,VE.C5,Vf,Fh];obtain⟨⟨l⟩,ds⟩:=a;obtain⟨x0,x1,x2,x3,x4,x5,x6,x7,x8,x9,FO,Ig,Lh,Li,Lj,Lk,Ll,Lm,Ln,Lo,Lr,Ls,Lt,Lu,Lv,Lw,Lx,Ly,LA,LB,LC,LD,LF,LH,LI,LJ,LK,LL,LM,LO,LP,LQ,LR,LS,LU,LV,LW,LX,LY,LZ,L2,L3,L4,L5,L6,L7,L8,L9,Ma,Mb,Mc,Me,Mf,Mg,Mh,Mi,Mj,Mk,Ml,rfl⟩:=ZD (l:=l) fL;have e6:x6=.slice (some ⟨b,o,none⟩) ts.length c:=h6;have DV:FO=.pointer (some ⟨w0.heap.size,0,none⟩):=jk;have e11:Ig=.int .i64 ((k:Int)-1):=Mm;clear h6 jk Mm hm fL;subst e6;subst DV;subst e11
 cases k with
 | zero=>
  gi_wp2
  exact⟨Nat.zero_le _,rfl,rfl,rfl,rfl,rfl,Ii,Ij⟩
 | succ k=>
  have hi:k<ts.length:=hk;have BN:=hc k hi;have aJo:w.cell? ⟨b,o+k,none⟩=some (.string ts[k]):=(Ij.cell (World.block_lt_of_cell? _ _ BN)).trans BN;have e1:((k+1:Nat):Int)-1=(k:Int):=by omega
  rw[e1]
  gi_wp2
  refine⟨trivial,rfl,callsIn_wide.2 ((Tryz.Builder_WriteString _ _ _ ts[k] w Ii ?_ Ij.size).mono ?_)⟩
  .have h1:=auV (ts.drop (k+1)).reverse;have h2:=ahq (ts.map (·.size)) (k+1);have h3:(ts.map (·.size)).drop k=ts[k].size::(ts.map (·.size)).drop (k+1):=by
    rw[yP (by simpa using hi)];simp
   have h4:=ahq (ts.map (·.size)) k;rw[h3,ybW] at h4;rw[Lib.byteCells_length,yE,h1,List.map_reverse,List.sum_reverse,List.map_drop];omega
  .rintro e w' ⟨rfl,dd,Pj⟩;have hd:pre++sK (ts.drop k).reverse=pre++sK (ts.drop (k+1)).reverse++ts[k].data.toList:=by
    rw[yP hi,List.reverse_cons,asI,List.append_assoc]
   rw[Lib.strCells_eq,<-Lib.byteCells_append,<-hd] at dd;have hw:wrap64 ((k:Int)-1)=(k:Int)-1:=by unfold wrap64;omega
   simp only
   gi_wp2
   refine⟨⟨k,by omega,rfl,rfl,rfl,rfl,rfl,.inr dd,Ij.trans Pj⟩,?_⟩;show ((k:Int)-1+1).toNat<k+1
   omega
set_option maxHeartbeats 4000000 in
def auW{Q:Exit->Act->yt->Prop}(a:Act)(w:yt)(neg:Bool)(ts:List ByteArray)(b o c:Nat)(fL:a.tmps.size=69)(h3:a.tmps.getD 3 undef=.bool neg)(h6:a.tmps.getD 6 undef=.slice (some ⟨b,o,none⟩) ts.length c)(hc:∀i (h:i<ts.length),w.cell? ⟨b,o+i,none⟩=some (.string ts[i]))(hl:(ts.map (·.size)).sum+1<=140737488355328)(hn:ts.length<=c)(eH:ts.length<9223372036854775808)(hQ:∀a' w',VE.Calm w w'->a'.tmps.size=69->a'.defers=a.defers->a'.tmps.getD 2 undef=.string ⟨((if neg then [45] else [])++sK ts.reverse).toArray⟩->Q .ret a' w'):
  (VE.C5 5 Fg).wpIn Fence.wide 0 Tryz.prog Q a w:=by
 simp only[Fg,Tryz.f201,vQ,VE.C5];obtain⟨⟨l⟩,ds⟩:=a;obtain⟨x0,x1,x2,x3,x4,x5,x6,x7,x8,x9,FO,Ig,Lh,Li,Lj,Lk,Ll,Lm,Ln,Lo,Lr,Ls,Lt,Lu,Lv,Lw,Lx,Ly,LA,LB,LC,LD,LF,LH,LI,LJ,LK,LL,LM,LO,LP,LQ,LR,LS,LU,LV,LW,LX,LY,LZ,L2,L3,L4,L5,L6,L7,L8,L9,Ma,Mb,Mc,Me,Mf,Mg,Mh,Mi,Mj,Mk,Ml,rfl⟩:=ZD (l:=l) fL;have e3:x3=.bool neg:=h3;have e6:x6=.slice (some ⟨b,o,none⟩) ts.length c:=h6;clear h3 h6 fL;subst e3;subst e6;have hw:wrap64 ((ts.length:Int)-1)=(ts.length:Int)-1:=by unfold wrap64;omega
 obtain⟨pre,hp⟩:∃pre:List UInt8,(if neg then [45] else [])=pre:=⟨_,rfl⟩;rw[hp] at hQ;have fin:∀(a:Act) (w':yt) (K:Act->yt->Prop),Vg w ts b o c ds pre 0 a w'->
   (∀(a:Act) (w:yt),Code.wpIn Fence.wide 0 Tryz.prog (Fh (Fh (Fh (VE.C5 5 Fg)))) Q a w->K a w)->K a w':=by
  rintro a w' K ⟨_,fL,rfl,h6,jk,Mm,Ii,Ij⟩ hK;clear hp;refine hK _ _ ?_;simp only[Fg,Tryz.f201,vQ,VE.C5,Fh];obtain⟨⟨l⟩,ds⟩:=a;obtain⟨x0,x1,x2,x3,x4,x5,x6,x7,x8,x9,FO,Ig,Lh,Li,Lj,Lk,Ll,Lm,Ln,Lo,Lr,Ls,Lt,Lu,Lv,Lw,Lx,Ly,LA,LB,LC,LD,LF,LH,LI,LJ,LK,LL,LM,LO,LP,LQ,LR,LS,LU,LV,LW,LX,LY,LZ,L2,L3,L4,L5,L6,L7,L8,L9,Ma,Mb,Mc,Me,Mf,Mg,Mh,Mi,Mj,Mk,Ml,rfl⟩:=ZD (l:=l) fL;have DV:FO=.pointer (some ⟨w.heap.size,0,none⟩):=jk;subst DV
  gi_wp2
  refine⟨trivial,rfl,callsIn_wide.2 ((Tryz.Builder_String_any _ _ _ _ Ii Ij.size).mono ?_)⟩;rintro e w2 ⟨rfl,Pj⟩;simp only
  gi_wp2
  exact hQ _ _ (VE.MJ (Ij.trans Pj)) rfl rfl rfl
 cases neg with
 | false=>
  cases hp
  gi_wp2
  refine ahr (pre:=[]) hc (by simp) hl hn eH (fun a w' hI=>?_) _ _ ⟨ts.length,ym _,rfl,rfl,rfl,rfl,?_,?_,?_⟩
  .simp only [Exit.inBlock,Exit.then];exact fin a w' _ hI (by assumption)
  .rfl
  .rw [tI];exact Lib.fresh_isBuilder _ _ w
  .exact (Below.refl _ w).alloc (ym _) _
 | true=>
  cases hp
  gi_wp2
  refine⟨trivial,rfl,callsIn_wide.2 ((Tryz.Builder_WriteString _ _ [] _ _ (Lib.fresh_isBuilder _ _ w) (by decide) (by simp)).mono ?_)⟩;rintro e w' ⟨rfl,dd,Pj⟩;simp only
  gi_wp2
  refine ahr (pre:=[45]) hc (by simp) hl hn eH (fun a w' hI=>?_) _ _ ⟨ts.length,ym _,rfl,rfl,rfl,rfl,?_,?_,?_⟩
  .simp only [Exit.inBlock,Exit.then];exact fin a w' _ hI (by assumption)
  .rfl
  .rw [tI];exact .inr dd
  .exact ((Below.refl _ w).alloc (ym _) _).trans Pj
def auX:VE.YZ Tryz.prog Fg:=fun _ a w neg ts b o c h1 h2 h3 h4 h5 h6 h7 h8=>auW a w neg ts b o c h1 h2 h3 h4 h5 h6 h7 h8
end Go.Proofs
