import Derived.TacticsIn
import Derived.LoopNIn
import Derived.OwnWalk
import Derived.WalkKit
import Derived.Test.YtebpicijmcnecaaGreatDoorUaq
set_option linter.all false
set_option maxRecDepth 100000
open Go renaming Code->wS,Deferred->tW,World->yi
open List renaming drop_eq_getElem_cons->yQ,drop_length->ybg,length_append->yC,sum_cons->ybG
open Nat renaming le_refl->yq
open Option renaming getD_some->wG
namespace Go.Proofs
open Go.Shelf
open Go.RowKit
def bI{α:Type}{l:List α}{n:Nat}(h:l.length=n+1):∃x r,l=x::r/\r.length=n:=by
 cases l with
 | nil=>simp at h
 | cons x r=>exact⟨x,r,rfl,by simpa using h⟩
def RQ{α:Type}{l:List α}(h0:l.length=69):∃x0 x1 x2 x3 x4 x5 x6 x7 x8 x9 Cl DZ FP FQ FR FT FU FV FW FX FY FZ F0 F1 F2 F3 F5 F6 F7 F8 F9 Ga Gb Gc Gd Ge Gf Gg Gh Gi Gj Gk Gl Gm Gn Gp Gq Gr Gs Gt Gu Gv Gw Gx Gy Gz GA GB GC GD GF GG GH GI GJ GK GL GM GN,l=[x0,x1,x2,x3,x4,x5,x6,x7,x8,x9,Cl,DZ,FP,FQ,FR,FT,FU,FV,FW,FX,FY,FZ,F0,F1,F2,F3,F5,F6,F7,F8,F9,Ga,Gb,Gc,Gd,Ge,Gf,Gg,Gh,Gi,Gj,Gk,Gl,Gm,Gn,Gp,Gq,Gr,Gs,Gt,Gu,Gv,Gw,Gx,Gy,Gz,GA,GB,GC,GD,GF,GG,GH,GI,GJ,GK,GL,GM,GN]:=by
 obtain⟨x0,l0,rfl,h1⟩:=bI h0;obtain⟨x1,l1,rfl,h2⟩:=bI h1;obtain⟨x2,l2,rfl,h3⟩:=bI h2;obtain⟨x3,l3,rfl,h4⟩:=bI h3;obtain⟨x4,l4,rfl,h5⟩:=bI h4;obtain⟨x5,l5,rfl,h6⟩:=bI h5;obtain⟨x6,l6,rfl,h7⟩:=bI h6;obtain⟨x7,l7,rfl,h8⟩:=bI h7;obtain⟨x8,l8,rfl,h9⟩:=bI h8;obtain⟨x9,l9,rfl,gR⟩:=bI h9;obtain⟨Cl,l10,rfl,Cm⟩:=bI gR;obtain⟨DZ,l11,rfl,VB⟩:=bI Cm;obtain⟨FP,l12,rfl,h13⟩:=bI VB;obtain⟨FQ,l13,rfl,h14⟩:=bI h13;obtain⟨FR,l14,rfl,h15⟩:=bI h14;obtain⟨FT,l15,rfl,h16⟩:=bI h15;obtain⟨FU,l16,rfl,h17⟩:=bI h16;obtain⟨FV,l17,rfl,h18⟩:=bI h17;obtain⟨FW,l18,rfl,h19⟩:=bI h18;obtain⟨FX,l19,rfl,nv⟩:=bI h19;obtain⟨FY,l20,rfl,h21⟩:=bI nv;obtain⟨FZ,l21,rfl,h22⟩:=bI h21;obtain⟨F0,l22,rfl,h23⟩:=bI h22;obtain⟨F1,l23,rfl,h24⟩:=bI h23
 obtain⟨F2,l24,rfl,h25⟩:=bI h24;obtain⟨F3,l25,rfl,h26⟩:=bI h25;obtain⟨F5,l26,rfl,h27⟩:=bI h26;obtain⟨F6,l27,rfl,h28⟩:=bI h27;obtain⟨F7,l28,rfl,h29⟩:=bI h28;obtain⟨F8,l29,rfl,Pc⟩:=bI h29;obtain⟨F9,l30,rfl,h31⟩:=bI Pc;obtain⟨Ga,l31,rfl,h32⟩:=bI h31;obtain⟨Gb,l32,rfl,h33⟩:=bI h32;obtain⟨Gc,l33,rfl,h34⟩:=bI h33;obtain⟨Gd,l34,rfl,h35⟩:=bI h34;obtain⟨Ge,l35,rfl,h36⟩:=bI h35;obtain⟨Gf,l36,rfl,h37⟩:=bI h36;obtain⟨Gg,l37,rfl,h38⟩:=bI h37;obtain⟨Gh,l38,rfl,h39⟩:=bI h38;obtain⟨Gi,l39,rfl,h40⟩:=bI h39;obtain⟨Gj,l40,rfl,h41⟩:=bI h40;obtain⟨Gk,l41,rfl,h42⟩:=bI h41;obtain⟨Gl,l42,rfl,h43⟩:=bI h42;obtain⟨Gm,l43,rfl,h44⟩:=bI h43;obtain⟨Gn,l44,rfl,h45⟩:=bI h44;obtain⟨Gp,l45,rfl,Vz⟩:=bI h45;obtain⟨Gq,l46,rfl,h47⟩:=bI Vz
 obtain⟨Gr,l47,rfl,O9⟩:=bI h47;obtain⟨Gs,l48,rfl,Vv⟩:=bI O9;obtain⟨Gt,l49,rfl,h50⟩:=bI Vv;obtain⟨Gu,l50,rfl,h51⟩:=bI h50;obtain⟨Gv,l51,rfl,h52⟩:=bI h51;obtain⟨Gw,l52,rfl,h53⟩:=bI h52;obtain⟨Gx,l53,rfl,h54⟩:=bI h53;obtain⟨Gy,l54,rfl,h55⟩:=bI h54;obtain⟨Gz,l55,rfl,h56⟩:=bI h55;obtain⟨GA,l56,rfl,h57⟩:=bI h56;obtain⟨GB,l57,rfl,h58⟩:=bI h57;obtain⟨GC,l58,rfl,h59⟩:=bI h58;obtain⟨GD,l59,rfl,h60⟩:=bI h59;obtain⟨GF,l60,rfl,h61⟩:=bI h60;obtain⟨GG,l61,rfl,O7⟩:=bI h61;obtain⟨GH,l62,rfl,h63⟩:=bI O7;obtain⟨GI,l63,rfl,h64⟩:=bI h63;obtain⟨GJ,l64,rfl,h65⟩:=bI h64;obtain⟨GK,l65,rfl,h66⟩:=bI h65;obtain⟨GL,l66,rfl,h67⟩:=bI h66;obtain⟨GM,l67,rfl,h68⟩:=bI h67;obtain⟨GN,l68,rfl,Vu⟩:=bI h68;cases List.eq_nil_of_length_eq_zero Vu
 exact⟨x0,x1,x2,x3,x4,x5,x6,x7,x8,x9,Cl,DZ,FP,FQ,FR,FT,FU,FV,FW,FX,FY,FZ,F0,F1,F2,F3,F5,F6,F7,F8,F9,Ga,Gb,Gc,Gd,Ge,Gf,Gg,Gh,Gi,Gj,Gk,Gl,Gm,Gn,Gp,Gq,Gr,Gs,Gt,Gu,Gv,Gw,Gx,Gy,Gz,GA,GB,GC,GD,GF,GG,GH,GI,GJ,GK,GL,GM,GN,rfl⟩
noncomputable def BP:wS:=Tryz.f168.body.getD .skip
open VE (oe)
def ajL(a:List ByteArray)(t:ByteArray):oe (a++[t])=oe a++t.data.toList:=by simp[oe]
def alQ(a:List ByteArray):(oe a).length=(a.map (·.size)).sum:=by
 induction a with
 | nil=>rfl
 | cons t r ih=>
  show (t.data.toList++oe r).length=t.size+(r.map (·.size)).sum
  rw[yC,ih];rfl
def Zh(l:List Nat)(k:Nat):(l.drop k).sum<=l.sum:=by
 induction l generalizing k with
 | nil=>simp
 | cons x l ih=>
  cases k with
  | zero=>simp
  | succ k=>have:=ih k;simp only[List.drop_succ_cons,ybG];omega
def N5:wS->wS
 | .seq a _=>a
 | .block _ a=>a
 | .loop a=>a
 | c=>c
def BQ:wS->wS
 | .seq _ b=>b
 | c=>c
noncomputable def adW:wS:=N5 (N5 (BQ (N5 (BQ (BQ (VE.z6 5 BP))))))
def N6(w0:yi)(ts:List ByteArray)(b o c:Nat)(ds:List tW)(pre:List UInt8)(k:Nat)(a:Act)(w:yi):Prop:=
 k<=ts.length/\a.tmps.size=69/\a.defers=ds/\a.tmps.getD 6 undef=.slice (some ⟨b,o,none⟩) ts.length c/\a.tmps.getD 10 undef=.pointer (some ⟨w0.heap.size,0,none⟩)/\a.tmps.getD 11 undef=.int .i64 ((k:Int)-1)/\
  Lib.IsBuilder 302 5 w0.heap.size w0.heap.size (Lib.byteCells (pre++oe (ts.drop k).reverse)) w/\Below w0.heap.size w0 w
def TL(a:Act):Nat:=match a.tmps.getD 11 undef with
 | .int _ z=>(z+1).toNat
 | _=>0
set_option maxHeartbeats 4000000 in
def Zi{Q:Exit->Act->yi->Prop}{w0:yi}{ts:List ByteArray}{b o c:Nat}{ds:List tW}{pre:List UInt8}(hc:∀i (h:i<ts.length),w0.cell? ⟨b,o+i,none⟩=some (.string ts[i]))(dT:pre.length<=1)(hl:(ts.map (·.size)).sum+1<=140737488355328)(hn:ts.length<=c)(dn:ts.length<9223372036854775808)(hQ:∀a w,N6 w0 ts b o c ds pre 0 a w->Q (.exit 2) a w):∀a w,(∃k,N6 w0 ts b o c ds pre k a w)->(Code.loop adW).wpIn Fence.wide 0 Tryz.prog Q a w:=by
 intro a w h0;refine wpIn_loop (fun a w=>∃k,N6 w0 ts b o c ds pre k a w) (fun a _=>TL a) h0 ?_;rintro a w ⟨k,hk,dR,rfl,h6,gR,Cm,oL,D0⟩;have hm:TL a=k:=by
  unfold TL;rw[Cm];simp
 simp only[hm];simp only[adW,BP,Tryz.f168,wG,VE.z6,N5,BQ];obtain⟨⟨l⟩,ds⟩:=a;obtain⟨x0,x1,x2,x3,x4,x5,x6,x7,x8,x9,Cl,DZ,FP,FQ,FR,FT,FU,FV,FW,FX,FY,FZ,F0,F1,F2,F3,F5,F6,F7,F8,F9,Ga,Gb,Gc,Gd,Ge,Gf,Gg,Gh,Gi,Gj,Gk,Gl,Gm,Gn,Gp,Gq,Gr,Gs,Gt,Gu,Gv,Gw,Gx,Gy,Gz,GA,GB,GC,GD,GF,GG,GH,GI,GJ,GK,GL,GM,GN,rfl⟩:=RQ (l:=l) dR;have e6:x6=.slice (some ⟨b,o,none⟩) ts.length c:=h6;have zj:Cl=.pointer (some ⟨w0.heap.size,0,none⟩):=gR;have e11:DZ=.int .i64 ((k:Int)-1):=Cm;clear h6 gR Cm hm dR;subst e6;subst zj;subst e11
 cases k with
 | zero=>
  gi_wp2
  exact⟨Nat.zero_le _,rfl,rfl,rfl,rfl,rfl,oL,D0⟩
 | succ k=>
  have hi:k<ts.length:=hk;have C9:=hc k hi;have aAf:w.cell? ⟨b,o+k,none⟩=some (.string ts[k]):=(D0.cell (World.block_lt_of_cell? _ _ C9)).trans C9;have e1:((k+1:Nat):Int)-1=(k:Int):=by omega
  rw[e1]
  gi_wp2
  refine⟨trivial,rfl,callsIn_wide.2 ((Tryz.Builder_WriteString _ _ _ ts[k] w oL ?_ D0.size).mono ?_)⟩
  .have h1:=alQ (ts.drop (k+1)).reverse;have h2:=Zh (ts.map (·.size)) (k+1);have h3:(ts.map (·.size)).drop k=ts[k].size::(ts.map (·.size)).drop (k+1):=by
    rw[yQ (by simpa using hi)];simp
   have h4:=Zh (ts.map (·.size)) k;rw[h3,ybG] at h4;rw[Lib.byteCells_length,yC,h1,List.map_reverse,List.sum_reverse,List.map_drop];omega
  .rintro e w' ⟨rfl,bm,Jy⟩;have hd:pre++oe (ts.drop k).reverse=pre++oe (ts.drop (k+1)).reverse++ts[k].data.toList:=by
    rw[yQ hi,List.reverse_cons,ajL,List.append_assoc]
   rw[Lib.strCells_eq,<-Lib.byteCells_append,<-hd] at bm;have hw:wrap64 ((k:Int)-1)=(k:Int)-1:=by unfold wrap64;omega
   simp only
   gi_wp2
   refine⟨⟨k,by omega,rfl,rfl,rfl,rfl,rfl,.inr bm,D0.trans Jy⟩,?_⟩;show ((k:Int)-1+1).toNat<k+1
   omega
set_option maxHeartbeats 4000000 in
def alR{Q:Exit->Act->yi->Prop}(a:Act)(w:yi)(neg:Bool)(ts:List ByteArray)(b o c:Nat)(dR:a.tmps.size=69)(h3:a.tmps.getD 3 undef=.bool neg)(h6:a.tmps.getD 6 undef=.slice (some ⟨b,o,none⟩) ts.length c)(hc:∀i (h:i<ts.length),w.cell? ⟨b,o+i,none⟩=some (.string ts[i]))(hl:(ts.map (·.size)).sum+1<=140737488355328)(hn:ts.length<=c)(dn:ts.length<9223372036854775808)(hQ:∀a' w',VE.Calm w w'->a'.tmps.size=69->a'.defers=a.defers->a'.tmps.getD 2 undef=.string ⟨((if neg then [45] else [])++oe ts.reverse).toArray⟩->Q .ret a' w'):
  (VE.z6 5 BP).wpIn Fence.wide 0 Tryz.prog Q a w:=by
 simp only[BP,Tryz.f168,wG,VE.z6];obtain⟨⟨l⟩,ds⟩:=a;obtain⟨x0,x1,x2,x3,x4,x5,x6,x7,x8,x9,Cl,DZ,FP,FQ,FR,FT,FU,FV,FW,FX,FY,FZ,F0,F1,F2,F3,F5,F6,F7,F8,F9,Ga,Gb,Gc,Gd,Ge,Gf,Gg,Gh,Gi,Gj,Gk,Gl,Gm,Gn,Gp,Gq,Gr,Gs,Gt,Gu,Gv,Gw,Gx,Gy,Gz,GA,GB,GC,GD,GF,GG,GH,GI,GJ,GK,GL,GM,GN,rfl⟩:=RQ (l:=l) dR;have e3:x3=.bool neg:=h3;have e6:x6=.slice (some ⟨b,o,none⟩) ts.length c:=h6;clear h3 h6 dR;subst e3;subst e6;have hw:wrap64 ((ts.length:Int)-1)=(ts.length:Int)-1:=by unfold wrap64;omega
 obtain⟨pre,hp⟩:∃pre:List UInt8,(if neg then [45] else [])=pre:=⟨_,rfl⟩;rw[hp] at hQ;have fin:∀(a:Act) (w':yi) (K:Act->yi->Prop),N6 w ts b o c ds pre 0 a w'->
   (∀(a:Act) (w:yi),Code.wpIn Fence.wide 0 Tryz.prog (BQ (BQ (BQ (VE.z6 5 BP)))) Q a w->K a w)->K a w':=by
  rintro a w' K ⟨_,dR,rfl,h6,gR,Cm,oL,D0⟩ hK;clear hp;refine hK _ _ ?_;simp only[BP,Tryz.f168,wG,VE.z6,BQ];obtain⟨⟨l⟩,ds⟩:=a;obtain⟨x0,x1,x2,x3,x4,x5,x6,x7,x8,x9,Cl,DZ,FP,FQ,FR,FT,FU,FV,FW,FX,FY,FZ,F0,F1,F2,F3,F5,F6,F7,F8,F9,Ga,Gb,Gc,Gd,Ge,Gf,Gg,Gh,Gi,Gj,Gk,Gl,Gm,Gn,Gp,Gq,Gr,Gs,Gt,Gu,Gv,Gw,Gx,Gy,Gz,GA,GB,GC,GD,GF,GG,GH,GI,GJ,GK,GL,GM,GN,rfl⟩:=RQ (l:=l) dR;have zj:Cl=.pointer (some ⟨w.heap.size,0,none⟩):=gR;subst zj
  gi_wp2
  refine⟨trivial,rfl,callsIn_wide.2 ((Tryz.Builder_String_any _ _ _ _ oL D0.size).mono ?_)⟩;rintro e w2 ⟨rfl,Jy⟩;simp only
  gi_wp2
  exact hQ _ _ (VE.G8 (D0.trans Jy)) rfl rfl rfl
 cases neg with
 | false=>
  cases hp
  gi_wp2
  refine Zi (pre:=[]) hc (by simp) hl hn dn (fun a w' hI=>?_) _ _ ⟨ts.length,yq _,rfl,rfl,rfl,rfl,?_,?_,?_⟩
  .simp only [Exit.inBlock,Exit.then];exact fin a w' _ hI (by assumption)
  .rfl
  .rw [ybg];exact Lib.fresh_isBuilder _ _ w
  .exact (Below.refl _ w).alloc (yq _) _
 | true=>
  cases hp
  gi_wp2
  refine⟨trivial,rfl,callsIn_wide.2 ((Tryz.Builder_WriteString _ _ [] _ _ (Lib.fresh_isBuilder _ _ w) (by decide) (by simp)).mono ?_)⟩;rintro e w' ⟨rfl,bm,Jy⟩;simp only
  gi_wp2
  refine Zi (pre:=[45]) hc (by simp) hl hn dn (fun a w' hI=>?_) _ _ ⟨ts.length,yq _,rfl,rfl,rfl,rfl,?_,?_,?_⟩
  .simp only [Exit.inBlock,Exit.then];exact fin a w' _ hI (by assumption)
  .rfl
  .rw [ybg];exact .inr bm
  .exact ((Below.refl _ w).alloc (yq _) _).trans Jy
def alS:VE.Rg Tryz.prog BP:=fun _ a w neg ts b o c h1 h2 h3 h4 h5 h6 h7 h8=>alR a w neg ts b o c h1 h2 h3 h4 h5 h6 h7 h8
end Go.Proofs
