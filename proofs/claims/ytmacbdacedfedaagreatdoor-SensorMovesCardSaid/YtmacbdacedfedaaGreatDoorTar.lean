import Derived.TacticsIn
import Derived.LoopNIn
import Derived.OwnWalk
import Derived.WalkKit
import Derived.Test.YtmacbdacedfedaaGreatDoorTaq
set_option linter.all false
set_option maxRecDepth 100000
open Go renaming Code->vz,Deferred->yas,World->yi
open List renaming drop_eq_getElem_cons->yR,drop_length->ybD,length_append->yJ,sum_cons->ycd
open Nat renaming le_refl->yu
open Option renaming getD_some->xF
namespace Go.Proofs
open Go.Shelf
open Go.RowKit
def bK{α:Type}{l:List α}{n:Nat}(h:l.length=n+1):∃x r,l=x::r/\r.length=n:=by
 cases l with
 | nil=>simp at h
 | cons x r=>exact⟨x,r,rfl,by simpa using h⟩
def TS{α:Type}{l:List α}(h0:l.length=69):∃x0 x1 x2 x3 x4 x5 x6 x7 x8 x9 x10 x11 x12 Hu Hv Hw Hx Hy Hz HA HB HC HE HF HG HH HI HJ HK HL HM HN HO HP HQ HR HS HT HU HV HW HX HY HZ H4 H5 H6 H7 H8 H9 Ia Ib Ic Ie Ig Ih Ii Ij Ik Il Im Io Ip Iq Ir Is It Iu Iv,l=[x0,x1,x2,x3,x4,x5,x6,x7,x8,x9,x10,x11,x12,Hu,Hv,Hw,Hx,Hy,Hz,HA,HB,HC,HE,HF,HG,HH,HI,HJ,HK,HL,HM,HN,HO,HP,HQ,HR,HS,HT,HU,HV,HW,HX,HY,HZ,H4,H5,H6,H7,H8,H9,Ia,Ib,Ic,Ie,Ig,Ih,Ii,Ij,Ik,Il,Im,Io,Ip,Iq,Ir,Is,It,Iu,Iv]:=by
 obtain⟨x0,l0,rfl,h1⟩:=bK h0;obtain⟨x1,l1,rfl,h2⟩:=bK h1;obtain⟨x2,l2,rfl,h3⟩:=bK h2;obtain⟨x3,l3,rfl,h4⟩:=bK h3;obtain⟨x4,l4,rfl,h5⟩:=bK h4;obtain⟨x5,l5,rfl,h6⟩:=bK h5;obtain⟨x6,l6,rfl,h7⟩:=bK h6;obtain⟨x7,l7,rfl,h8⟩:=bK h7;obtain⟨x8,l8,rfl,h9⟩:=bK h8;obtain⟨x9,l9,rfl,iK⟩:=bK h9;obtain⟨x10,l10,rfl,Dn⟩:=bK iK;obtain⟨x11,l11,rfl,Iw⟩:=bK Dn;obtain⟨x12,l12,rfl,h13⟩:=bK Iw;obtain⟨Hu,l13,rfl,h14⟩:=bK h13;obtain⟨Hv,l14,rfl,h15⟩:=bK h14;obtain⟨Hw,l15,rfl,h16⟩:=bK h15;obtain⟨Hx,l16,rfl,h17⟩:=bK h16;obtain⟨Hy,l17,rfl,h18⟩:=bK h17;obtain⟨Hz,l18,rfl,h19⟩:=bK h18;obtain⟨HA,l19,rfl,oF⟩:=bK h19;obtain⟨HB,l20,rfl,h21⟩:=bK oF;obtain⟨HC,l21,rfl,h22⟩:=bK h21;obtain⟨HE,l22,rfl,h23⟩:=bK h22;obtain⟨HF,l23,rfl,h24⟩:=bK h23
 obtain⟨HG,l24,rfl,h25⟩:=bK h24;obtain⟨HH,l25,rfl,h26⟩:=bK h25;obtain⟨HI,l26,rfl,h27⟩:=bK h26;obtain⟨HJ,l27,rfl,h28⟩:=bK h27;obtain⟨HK,l28,rfl,h29⟩:=bK h28;obtain⟨HL,l29,rfl,h30⟩:=bK h29;obtain⟨HM,l30,rfl,h31⟩:=bK h30;obtain⟨HN,l31,rfl,h32⟩:=bK h31;obtain⟨HO,l32,rfl,h33⟩:=bK h32;obtain⟨HP,l33,rfl,h34⟩:=bK h33;obtain⟨HQ,l34,rfl,h35⟩:=bK h34;obtain⟨HR,l35,rfl,h36⟩:=bK h35;obtain⟨HS,l36,rfl,h37⟩:=bK h36;obtain⟨HT,l37,rfl,h38⟩:=bK h37;obtain⟨HU,l38,rfl,h39⟩:=bK h38;obtain⟨HV,l39,rfl,h40⟩:=bK h39;obtain⟨HW,l40,rfl,h41⟩:=bK h40;obtain⟨HX,l41,rfl,h42⟩:=bK h41;obtain⟨HY,l42,rfl,h43⟩:=bK h42;obtain⟨HZ,l43,rfl,h44⟩:=bK h43;obtain⟨H4,l44,rfl,h45⟩:=bK h44;obtain⟨H5,l45,rfl,Xo⟩:=bK h45;obtain⟨H6,l46,rfl,h47⟩:=bK Xo
 obtain⟨H7,l47,rfl,nE⟩:=bK h47;obtain⟨H8,l48,rfl,pY⟩:=bK nE;obtain⟨H9,l49,rfl,h50⟩:=bK pY;obtain⟨Ia,l50,rfl,h51⟩:=bK h50;obtain⟨Ib,l51,rfl,h52⟩:=bK h51;obtain⟨Ic,l52,rfl,h53⟩:=bK h52;obtain⟨Ie,l53,rfl,h54⟩:=bK h53;obtain⟨Ig,l54,rfl,h55⟩:=bK h54;obtain⟨Ih,l55,rfl,h56⟩:=bK h55;obtain⟨Ii,l56,rfl,h57⟩:=bK h56;obtain⟨Ij,l57,rfl,h58⟩:=bK h57;obtain⟨Ik,l58,rfl,h59⟩:=bK h58;obtain⟨Il,l59,rfl,h60⟩:=bK h59;obtain⟨Im,l60,rfl,h61⟩:=bK h60;obtain⟨Io,l61,rfl,QC⟩:=bK h61;obtain⟨Ip,l62,rfl,h63⟩:=bK QC;obtain⟨Iq,l63,rfl,h64⟩:=bK h63;obtain⟨Ir,l64,rfl,h65⟩:=bK h64;obtain⟨Is,l65,rfl,h66⟩:=bK h65;obtain⟨It,l66,rfl,h67⟩:=bK h66;obtain⟨Iu,l67,rfl,h68⟩:=bK h67;obtain⟨Iv,l68,rfl,Xk⟩:=bK h68;cases List.eq_nil_of_length_eq_zero Xk
 exact⟨x0,x1,x2,x3,x4,x5,x6,x7,x8,x9,x10,x11,x12,Hu,Hv,Hw,Hx,Hy,Hz,HA,HB,HC,HE,HF,HG,HH,HI,HJ,HK,HL,HM,HN,HO,HP,HQ,HR,HS,HT,HU,HV,HW,HX,HY,HZ,H4,H5,H6,H7,H8,H9,Ia,Ib,Ic,Ie,Ig,Ih,Ii,Ij,Ik,Il,Im,Io,Ip,Iq,Ir,Is,It,Iu,Iv,rfl⟩
noncomputable def CI:vz:=Tryz.f174.body.getD .skip
open VE (pE)
def al7(a:List ByteArray)(t:ByteArray):pE (a++[t])=pE a++t.data.toList:=by simp[pE]
def aog(a:List ByteArray):(pE a).length=(a.map (·.size)).sum:=by
 induction a with
 | nil=>rfl
 | cons t r ih=>
  show (t.data.toList++pE r).length=t.size+(r.map (·.size)).sum
  rw[yJ,ih];rfl
def aaT(l:List Nat)(k:Nat):(l.drop k).sum<=l.sum:=by
 induction l generalizing k with
 | nil=>simp
 | cons x l ih=>
  cases k with
  | zero=>simp
  | succ k=>have:=ih k;simp only[List.drop_succ_cons,ycd];omega
def PD:vz->vz
 | .seq a _=>a
 | .block _ a=>a
 | .loop a=>a
 | c=>c
def CJ:vz->vz
 | .seq _ b=>b
 | c=>c
noncomputable def afN:vz:=PD (PD (CJ (PD (CJ (CJ (VE.AZ 5 CI))))))
def PE(w0:yi)(ts:List ByteArray)(b o c:Nat)(ds:List yas)(pre:List UInt8)(k:Nat)(a:Act)(w:yi):Prop:=
 k<=ts.length/\a.tmps.size=69/\a.defers=ds/\a.tmps.getD 6 undef=.slice (some ⟨b,o,none⟩) ts.length c/\a.tmps.getD 10 undef=.pointer (some ⟨w0.heap.size,0,none⟩)/\a.tmps.getD 11 undef=.int .i64 ((k:Int)-1)/\
  Lib.IsBuilder 297 5 w0.heap.size w0.heap.size (Lib.byteCells (pre++pE (ts.drop k).reverse)) w/\Below w0.heap.size w0 w
def VH(a:Act):Nat:=match a.tmps.getD 11 undef with
 | .int _ z=>(z+1).toNat
 | _=>0
set_option maxHeartbeats 4000000 in
def aaU{Q:Exit->Act->yi->Prop}{w0:yi}{ts:List ByteArray}{b o c:Nat}{ds:List yas}{pre:List UInt8}(hc:∀i (h:i<ts.length),w0.cell? ⟨b,o+i,none⟩=some (.string ts[i]))(eI:pre.length<=1)(hl:(ts.map (·.size)).sum+1<=140737488355328)(hn:ts.length<=c)(dK:ts.length<9223372036854775808)(hQ:∀a w,PE w0 ts b o c ds pre 0 a w->Q (.exit 2) a w):∀a w,(∃k,PE w0 ts b o c ds pre k a w)->(Code.loop afN).wpIn Fence.wide 0 Tryz.prog Q a w:=by
 intro a w h0;refine wpIn_loop (fun a w=>∃k,PE w0 ts b o c ds pre k a w) (fun a _=>VH a) h0 ?_;rintro a w ⟨k,hk,eC,rfl,h6,iK,Dn,iN,Fj⟩;have hm:VH a=k:=by
  unfold VH;rw[Dn];simp
 simp only[hm];simp only[afN,CI,Tryz.f174,xF,VE.AZ,PD,CJ];obtain⟨⟨l⟩,ds⟩:=a;obtain⟨x0,x1,x2,x3,x4,x5,x6,x7,x8,x9,x10,x11,x12,Hu,Hv,Hw,Hx,Hy,Hz,HA,HB,HC,HE,HF,HG,HH,HI,HJ,HK,HL,HM,HN,HO,HP,HQ,HR,HS,HT,HU,HV,HW,HX,HY,HZ,H4,H5,H6,H7,H8,H9,Ia,Ib,Ic,Ie,Ig,Ih,Ii,Ij,Ik,Il,Im,Io,Ip,Iq,Ir,Is,It,Iu,Iv,rfl⟩:=TS (l:=l) eC;have e6:x6=.slice (some ⟨b,o,none⟩) ts.length c:=h6;have Ix:x10=.pointer (some ⟨w0.heap.size,0,none⟩):=iK;have QG:x11=.int .i64 ((k:Int)-1):=Dn;clear h6 iK Dn hm eC;subst e6;subst Ix;subst QG
 cases k with
 | zero=>
  gi_wp2
  exact⟨Nat.zero_le _,rfl,rfl,rfl,rfl,rfl,iN,Fj⟩
 | succ k=>
  have hi:k<ts.length:=hk;have El:=hc k hi;have aDB:w.cell? ⟨b,o+k,none⟩=some (.string ts[k]):=(Fj.cell (World.block_lt_of_cell? _ _ El)).trans El;have e1:((k+1:Nat):Int)-1=(k:Int):=by omega
  rw[e1]
  gi_wp2
  refine⟨trivial,rfl,callsIn_wide.2 ((Tryz.Builder_WriteString _ _ _ ts[k] w iN ?_ Fj.size).mono ?_)⟩
  .have h1:=aog (ts.drop (k+1)).reverse;have h2:=aaT (ts.map (·.size)) (k+1);have h3:(ts.map (·.size)).drop k=ts[k].size::(ts.map (·.size)).drop (k+1):=by
    rw[yR (by simpa using hi)];simp
   have h4:=aaT (ts.map (·.size)) k;rw[h3,ycd] at h4;rw[Lib.byteCells_length,yJ,h1,List.map_reverse,List.sum_reverse,List.map_drop];omega
  .rintro e w' ⟨rfl,bH,K2⟩;have hd:pre++pE (ts.drop k).reverse=pre++pE (ts.drop (k+1)).reverse++ts[k].data.toList:=by
    rw[yR hi,List.reverse_cons,al7,List.append_assoc]
   rw[Lib.strCells_eq,<-Lib.byteCells_append,<-hd] at bH;have hw:wrap64 ((k:Int)-1)=(k:Int)-1:=by unfold wrap64;omega
   simp only
   gi_wp2
   refine⟨⟨k,by omega,rfl,rfl,rfl,rfl,rfl,.inr bH,Fj.trans K2⟩,?_⟩;show ((k:Int)-1+1).toNat<k+1
   omega
set_option maxHeartbeats 4000000 in
def aoh{Q:Exit->Act->yi->Prop}(a:Act)(w:yi)(neg:Bool)(ts:List ByteArray)(b o c:Nat)(eC:a.tmps.size=69)(h3:a.tmps.getD 3 undef=.bool neg)(h6:a.tmps.getD 6 undef=.slice (some ⟨b,o,none⟩) ts.length c)(hc:∀i (h:i<ts.length),w.cell? ⟨b,o+i,none⟩=some (.string ts[i]))(hl:(ts.map (·.size)).sum+1<=140737488355328)(hn:ts.length<=c)(dK:ts.length<9223372036854775808)(hQ:∀a' w',VE.Calm w w'->a'.tmps.size=69->a'.defers=a.defers->a'.tmps.getD 2 undef=.string ⟨((if neg then [45] else [])++pE ts.reverse).toArray⟩->Q .ret a' w'):
  (VE.AZ 5 CI).wpIn Fence.wide 0 Tryz.prog Q a w:=by
 simp only[CI,Tryz.f174,xF,VE.AZ];obtain⟨⟨l⟩,ds⟩:=a;obtain⟨x0,x1,x2,x3,x4,x5,x6,x7,x8,x9,x10,x11,x12,Hu,Hv,Hw,Hx,Hy,Hz,HA,HB,HC,HE,HF,HG,HH,HI,HJ,HK,HL,HM,HN,HO,HP,HQ,HR,HS,HT,HU,HV,HW,HX,HY,HZ,H4,H5,H6,H7,H8,H9,Ia,Ib,Ic,Ie,Ig,Ih,Ii,Ij,Ik,Il,Im,Io,Ip,Iq,Ir,Is,It,Iu,Iv,rfl⟩:=TS (l:=l) eC;have e3:x3=.bool neg:=h3;have e6:x6=.slice (some ⟨b,o,none⟩) ts.length c:=h6;clear h3 h6 eC;subst e3;subst e6;have hw:wrap64 ((ts.length:Int)-1)=(ts.length:Int)-1:=by unfold wrap64;omega
 obtain⟨pre,hp⟩:∃pre:List UInt8,(if neg then [45] else [])=pre:=⟨_,rfl⟩;rw[hp] at hQ;have fin:∀(a:Act) (w':yi) (K:Act->yi->Prop),PE w ts b o c ds pre 0 a w'->
   (∀(a:Act) (w:yi),Code.wpIn Fence.wide 0 Tryz.prog (CJ (CJ (CJ (VE.AZ 5 CI)))) Q a w->K a w)->K a w':=by
  rintro a w' K ⟨_,eC,rfl,h6,iK,Dn,iN,Fj⟩ hK;clear hp;refine hK _ _ ?_;simp only[CI,Tryz.f174,xF,VE.AZ,CJ];obtain⟨⟨l⟩,ds⟩:=a;obtain⟨x0,x1,x2,x3,x4,x5,x6,x7,x8,x9,x10,x11,x12,Hu,Hv,Hw,Hx,Hy,Hz,HA,HB,HC,HE,HF,HG,HH,HI,HJ,HK,HL,HM,HN,HO,HP,HQ,HR,HS,HT,HU,HV,HW,HX,HY,HZ,H4,H5,H6,H7,H8,H9,Ia,Ib,Ic,Ie,Ig,Ih,Ii,Ij,Ik,Il,Im,Io,Ip,Iq,Ir,Is,It,Iu,Iv,rfl⟩:=TS (l:=l) eC;have Ix:x10=.pointer (some ⟨w.heap.size,0,none⟩):=iK;subst Ix
  gi_wp2
  refine⟨trivial,rfl,callsIn_wide.2 ((Tryz.Builder_String_any _ _ _ _ iN Fj.size).mono ?_)⟩;rintro e w2 ⟨rfl,K2⟩;simp only
  gi_wp2
  exact hQ _ _ (VE.IN (Fj.trans K2)) rfl rfl rfl
 cases neg with
 | false=>
  cases hp
  gi_wp2
  refine aaU (pre:=[]) hc (by simp) hl hn dK (fun a w' hI=>?_) _ _ ⟨ts.length,yu _,rfl,rfl,rfl,rfl,?_,?_,?_⟩
  .simp only [Exit.inBlock,Exit.then];exact fin a w' _ hI (by assumption)
  .rfl
  .rw [ybD];exact Lib.fresh_isBuilder _ _ w
  .exact (Below.refl _ w).alloc (yu _) _
 | true=>
  cases hp
  gi_wp2
  refine⟨trivial,rfl,callsIn_wide.2 ((Tryz.Builder_WriteString _ _ [] _ _ (Lib.fresh_isBuilder _ _ w) (by decide) (by simp)).mono ?_)⟩;rintro e w' ⟨rfl,bH,K2⟩;simp only
  gi_wp2
  refine aaU (pre:=[45]) hc (by simp) hl hn dK (fun a w' hI=>?_) _ _ ⟨ts.length,yu _,rfl,rfl,rfl,rfl,?_,?_,?_⟩
  .simp only [Exit.inBlock,Exit.then];exact fin a w' _ hI (by assumption)
  .rfl
  .rw [ybD];exact .inr bH
  .exact ((Below.refl _ w).alloc (yu _) _).trans K2
def aoi:VE.Th Tryz.prog CI:=fun _ a w neg ts b o c h1 h2 h3 h4 h5 h6 h7 h8=>aoh a w neg ts b o c h1 h2 h3 h4 h5 h6 h7 h8
end Go.Proofs
