import Derived.TacticsIn
import Derived.LoopNIn
import Derived.OwnWalk
import Derived.WalkKit
import Derived.Test.YtkhmakhdoedjiaaGreatDoorTaq
import Derived.Test.YtkhmakhdoedjiaaGreatDoorTbo
import Derived.Test.YtkhmakhdoedjiaaGreatDoorTap
set_option linter.all false
set_option maxRecDepth 100000
namespace Go.Proofs
open Go.Shelf
open Go.RowKit
theorem zC {α:Type} {l:List α} {n:Nat} (h:l.length=n+1):∃x r,l=x::r∧r.length=n:=by
 cases l with
 | nil=>simp at h
 | cons x r=>exact ⟨x,r,rfl,by simpa using h⟩
theorem zpK {α:Type} {l:List α} (h0:l.length=69):∃x0 x1 x2 x3 x4 x5 x6 x7 x8 x9 x10 x11 x12 x13 x14 x15 x16 x17 x18 x19 x20 x21 x22 x23 x24 x25 x26 x27 x28 x29 x30 x31 x32 x33 x34 x35 x36 x37 x38 x39 x40 x41 x42 x43 x44 x45 x46 x47 x48 x49 x50 x51 x52 x53 x54 x55 x56 x57 x58 x59 x60 x61 x62 x63 x64 x65 x66 x67 x68,l=[x0,x1,x2,x3,x4,x5,x6,x7,x8,x9,x10,x11,x12,x13,x14,x15,x16,x17,x18,x19,x20,x21,x22,x23,x24,x25,x26,x27,x28,x29,x30,x31,x32,x33,x34,x35,x36,x37,x38,x39,x40,x41,x42,x43,x44,x45,x46,x47,x48,x49,x50,x51,x52,x53,x54,x55,x56,x57,x58,x59,x60,x61,x62,x63,x64,x65,x66,x67,x68]:=by
 obtain ⟨x0,l0,rfl,h1⟩:=zC h0;obtain ⟨x1,l1,rfl,h2⟩:=zC h1;obtain ⟨x2,l2,rfl,h3⟩:=zC h2;obtain ⟨x3,l3,rfl,h4⟩:=zC h3;obtain ⟨x4,l4,rfl,h5⟩:=zC h4;obtain ⟨x5,l5,rfl,h6⟩:=zC h5;obtain ⟨x6,l6,rfl,h7⟩:=zC h6;obtain ⟨x7,l7,rfl,h8⟩:=zC h7;obtain ⟨x8,l8,rfl,h9⟩:=zC h8;obtain ⟨x9,l9,rfl,h10⟩:=zC h9;obtain ⟨x10,l10,rfl,h11⟩:=zC h10;obtain ⟨x11,l11,rfl,h12⟩:=zC h11;obtain ⟨x12,l12,rfl,h13⟩:=zC h12;obtain ⟨x13,l13,rfl,h14⟩:=zC h13;obtain ⟨x14,l14,rfl,h15⟩:=zC h14;obtain ⟨x15,l15,rfl,h16⟩:=zC h15;obtain ⟨x16,l16,rfl,h17⟩:=zC h16;obtain ⟨x17,l17,rfl,h18⟩:=zC h17;obtain ⟨x18,l18,rfl,h19⟩:=zC h18;obtain ⟨x19,l19,rfl,h20⟩:=zC h19;obtain ⟨x20,l20,rfl,h21⟩:=zC h20;obtain ⟨x21,l21,rfl,h22⟩:=zC h21;obtain ⟨x22,l22,rfl,h23⟩:=zC h22;obtain ⟨x23,l23,rfl,h24⟩:=zC h23
 obtain ⟨x24,l24,rfl,h25⟩:=zC h24;obtain ⟨x25,l25,rfl,h26⟩:=zC h25;obtain ⟨x26,l26,rfl,h27⟩:=zC h26;obtain ⟨x27,l27,rfl,h28⟩:=zC h27;obtain ⟨x28,l28,rfl,h29⟩:=zC h28;obtain ⟨x29,l29,rfl,h30⟩:=zC h29;obtain ⟨x30,l30,rfl,h31⟩:=zC h30;obtain ⟨x31,l31,rfl,h32⟩:=zC h31;obtain ⟨x32,l32,rfl,h33⟩:=zC h32;obtain ⟨x33,l33,rfl,h34⟩:=zC h33;obtain ⟨x34,l34,rfl,h35⟩:=zC h34;obtain ⟨x35,l35,rfl,h36⟩:=zC h35;obtain ⟨x36,l36,rfl,h37⟩:=zC h36;obtain ⟨x37,l37,rfl,h38⟩:=zC h37;obtain ⟨x38,l38,rfl,h39⟩:=zC h38;obtain ⟨x39,l39,rfl,h40⟩:=zC h39;obtain ⟨x40,l40,rfl,h41⟩:=zC h40;obtain ⟨x41,l41,rfl,h42⟩:=zC h41;obtain ⟨x42,l42,rfl,h43⟩:=zC h42;obtain ⟨x43,l43,rfl,h44⟩:=zC h43;obtain ⟨x44,l44,rfl,h45⟩:=zC h44;obtain ⟨x45,l45,rfl,h46⟩:=zC h45;obtain ⟨x46,l46,rfl,h47⟩:=zC h46
 obtain ⟨x47,l47,rfl,h48⟩:=zC h47;obtain ⟨x48,l48,rfl,h49⟩:=zC h48;obtain ⟨x49,l49,rfl,h50⟩:=zC h49;obtain ⟨x50,l50,rfl,h51⟩:=zC h50;obtain ⟨x51,l51,rfl,h52⟩:=zC h51;obtain ⟨x52,l52,rfl,h53⟩:=zC h52;obtain ⟨x53,l53,rfl,h54⟩:=zC h53;obtain ⟨x54,l54,rfl,h55⟩:=zC h54;obtain ⟨x55,l55,rfl,h56⟩:=zC h55;obtain ⟨x56,l56,rfl,h57⟩:=zC h56;obtain ⟨x57,l57,rfl,h58⟩:=zC h57;obtain ⟨x58,l58,rfl,h59⟩:=zC h58;obtain ⟨x59,l59,rfl,h60⟩:=zC h59;obtain ⟨x60,l60,rfl,h61⟩:=zC h60;obtain ⟨x61,l61,rfl,h62⟩:=zC h61;obtain ⟨x62,l62,rfl,h63⟩:=zC h62;obtain ⟨x63,l63,rfl,h64⟩:=zC h63;obtain ⟨x64,l64,rfl,h65⟩:=zC h64;obtain ⟨x65,l65,rfl,h66⟩:=zC h65;obtain ⟨x66,l66,rfl,h67⟩:=zC h66;obtain ⟨x67,l67,rfl,h68⟩:=zC h67;obtain ⟨x68,l68,rfl,h69⟩:=zC h68;cases List.eq_nil_of_length_eq_zero h69
 exact ⟨x0,x1,x2,x3,x4,x5,x6,x7,x8,x9,x10,x11,x12,x13,x14,x15,x16,x17,x18,x19,x20,x21,x22,x23,x24,x25,x26,x27,x28,x29,x30,x31,x32,x33,x34,x35,x36,x37,x38,x39,x40,x41,x42,x43,x44,x45,x46,x47,x48,x49,x50,x51,x52,x53,x54,x55,x56,x57,x58,x59,x60,x61,x62,x63,x64,x65,x66,x67,x68,rfl⟩
noncomputable def zon:Code:=Tryz.f139.body.getD .skip
open VE (zhR)
theorem ztO (a:List ByteArray) (t:ByteArray):zhR (a++[t])=zhR a++t.data.toList:=by simp [zhR]
theorem zxv (a:List ByteArray):(zhR a).length=(a.map (·.size)).sum:=by
 induction a with
 | nil=>rfl
 | cons t r ih=>
  show (t.data.toList++zhR r).length=t.size+(r.map (·.size)).sum
  rw [List.length_append,ih];rfl
theorem zob (l:List Nat) (k:Nat):(l.drop k).sum≤l.sum:=by
 induction l generalizing k with
 | nil=>simp
 | cons x l ih=>
  cases k with
  | zero=>simp
  | succ k=>have:=ih k;simp only [List.drop_succ_cons,List.sum_cons];omega
def zz7:Code→Code
 | .seq a _=>a
 | .block _ a=>a
 | .loop a=>a
 | c=>c
def znh:Code→Code
 | .seq _ b=>b
 | c=>c
noncomputable def zNa:Code:=zz7 (zz7 (znh (zz7 (znh (znh (VE.dropC 5 zon))))))
def zCE (w0:World) (ts:List ByteArray) (b o c:Nat) (ds:List Deferred) (pre:List UInt8) (k:Nat) (a:Act) (w:World):Prop:=
 k≤ts.length∧a.tmps.size=69∧a.defers=ds∧a.tmps.getD 6 undef= .slice (some ⟨b,o,none⟩) ts.length c∧a.tmps.getD 10 undef= .pointer (some ⟨w0.heap.size,0,none⟩)∧a.tmps.getD 11 undef= .int .i64 ((k:Int)-1)∧
  Lib.IsBuilder 206 5 w0.heap.size w0.heap.size (Lib.byteCells (pre++zhR (ts.drop k).reverse)) w∧Below w0.heap.size w0 w
def zIi (a:Act):Nat:=match a.tmps.getD 11 undef with
 | .int _ z=>(z+1).toNat
 | _=>0
set_option maxHeartbeats 4000000 in
theorem zoh {Q:Exit→Act→World→Prop} {w0:World} {ts:List ByteArray} {b o c:Nat} {ds:List Deferred} {pre:List UInt8} (hc:∀i (h:i<ts.length),w0.cell? ⟨b,o+i,none⟩=some (.string ts[i])) (hpre:pre.length≤1)
  (hl:(ts.map (·.size)).sum+1≤140737488355328) (hn:ts.length≤c) (hn2:ts.length<9223372036854775808) (hQ:∀a w,zCE w0 ts b o c ds pre 0 a w→Q (.exit 2) a w):∀a w,(∃k,zCE w0 ts b o c ds pre k a w)→(Code.loop zNa).wpIn Fence.wide 0 Tryz.prog Q a w:=by
 intro a w h0;refine wpIn_loop (fun a w=>∃k,zCE w0 ts b o c ds pre k a w) (fun a _=>zIi a) h0 ?_;rintro a w ⟨k,hk,hsz,rfl,h6,h10,h11,hbl,hbe⟩;have hm:zIi a=k:=by
  unfold zIi;rw [h11];simp
 simp only [hm];simp only [zNa,zon,Tryz.f139,Option.getD_some,VE.dropC,zz7,znh];obtain ⟨⟨l⟩,ds⟩:=a;obtain ⟨x0,x1,x2,x3,x4,x5,x6,x7,x8,x9,x10,x11,x12,x13,x14,x15,x16,x17,x18,x19,x20,x21,x22,x23,x24,x25,x26,x27,x28,x29,x30,x31,x32,x33,x34,x35,x36,x37,x38,x39,x40,x41,x42,x43,x44,x45,x46,x47,x48,x49,x50,x51,x52,x53,x54,x55,x56,x57,x58,x59,x60,x61,x62,x63,x64,x65,x66,x67,x68,rfl⟩:=zpK (l:=l) hsz;have e6:x6= .slice (some ⟨b,o,none⟩) ts.length c:=h6;have e10:x10= .pointer (some ⟨w0.heap.size,0,none⟩):=h10;have e11:x11= .int .i64 ((k:Int)-1):=h11;clear h6 h10 h11 hm hsz;subst e6;subst e10;subst e11
 cases k with
 | zero=>
  gi_wp2
  exact ⟨Nat.zero_le _,rfl,rfl,rfl,rfl,rfl,hbl,hbe⟩
 | succ k=>
  have hi:k<ts.length:=hk;have hcell:=hc k hi;have hcell':w.cell? ⟨b,o+k,none⟩=some (.string ts[k]):=(hbe.cell (World.block_lt_of_cell? _ _ hcell)).trans hcell;have e1:((k+1:Nat):Int)-1=(k:Int):=by omega
  rw [e1]
  gi_wp2
  refine ⟨trivial,rfl,callsIn_wide.2 ((Tryz.Builder_WriteString _ _ _ ts[k] w hbl ?_ hbe.size).mono ?_)⟩
  ·have h1:=zxv (ts.drop (k+1)).reverse;have h2:=zob (ts.map (·.size)) (k+1);have h3:(ts.map (·.size)).drop k=ts[k].size::(ts.map (·.size)).drop (k+1):=by
    rw [List.drop_eq_getElem_cons (by simpa using hi)];simp
   have h4:=zob (ts.map (·.size)) k;rw [h3,List.sum_cons] at h4;rw [Lib.byteCells_length,List.length_append,h1,List.map_reverse,List.sum_reverse,List.map_drop];omega
  ·rintro e w' ⟨rfl,hb',hbe'⟩;have hd:pre++zhR (ts.drop k).reverse=pre++zhR (ts.drop (k+1)).reverse++ts[k].data.toList:=by
    rw [List.drop_eq_getElem_cons hi,List.reverse_cons,ztO,List.append_assoc]
   rw [Lib.strCells_eq,←Lib.byteCells_append,←hd] at hb';have hw:wrap64 ((k:Int)-1)=(k:Int)-1:=by unfold wrap64;omega
   simp only
   gi_wp2
   refine ⟨⟨k,by omega,rfl,rfl,rfl,rfl,rfl,.inr hb',hbe.trans hbe'⟩,?_⟩;show ((k:Int)-1+1).toNat<k+1
   omega
set_option maxHeartbeats 4000000 in
theorem zyV {Q:Exit→Act→World→Prop} (a:Act) (w:World) (neg:Bool) (ts:List ByteArray) (b o c:Nat) (hsz:a.tmps.size=69) (h3:a.tmps.getD 3 undef= .bool neg) (h6:a.tmps.getD 6 undef= .slice (some ⟨b,o,none⟩) ts.length c)
  (hc:∀i (h:i<ts.length),w.cell? ⟨b,o+i,none⟩=some (.string ts[i])) (hl:(ts.map (·.size)).sum+1≤140737488355328) (hn:ts.length≤c) (hn2:ts.length<9223372036854775808)
  (hQ:∀a' w',VE.Calm w w'→a'.tmps.size=69→a'.defers=a.defers→a'.tmps.getD 2 undef= .string ⟨((if neg then [45] else [])++zhR ts.reverse).toArray⟩→Q .ret a' w'):
  (VE.dropC 5 zon).wpIn Fence.wide 0 Tryz.prog Q a w:=by
 simp only [zon,Tryz.f139,Option.getD_some,VE.dropC];obtain ⟨⟨l⟩,ds⟩:=a;obtain ⟨x0,x1,x2,x3,x4,x5,x6,x7,x8,x9,x10,x11,x12,x13,x14,x15,x16,x17,x18,x19,x20,x21,x22,x23,x24,x25,x26,x27,x28,x29,x30,x31,x32,x33,x34,x35,x36,x37,x38,x39,x40,x41,x42,x43,x44,x45,x46,x47,x48,x49,x50,x51,x52,x53,x54,x55,x56,x57,x58,x59,x60,x61,x62,x63,x64,x65,x66,x67,x68,rfl⟩:=zpK (l:=l) hsz;have e3:x3= .bool neg:=h3;have e6:x6= .slice (some ⟨b,o,none⟩) ts.length c:=h6;clear h3 h6 hsz;subst e3;subst e6;have hw:wrap64 ((ts.length:Int)-1)=(ts.length:Int)-1:=by unfold wrap64;omega
 obtain ⟨pre,hp⟩:∃pre:List UInt8,(if neg then [45] else [])=pre:=⟨_,rfl⟩;rw [hp] at hQ;have fin:∀(a:Act) (w':World) (K:Act→World→Prop),zCE w ts b o c ds pre 0 a w'→
   (∀(a:Act) (w:World),Code.wpIn Fence.wide 0 Tryz.prog (znh (znh (znh (VE.dropC 5 zon)))) Q a w→K a w)→K a w':=by
  rintro a w' K ⟨_,hsz,rfl,h6,h10,h11,hbl,hbe⟩ hK;clear hp;refine hK _ _ ?_;simp only [zon,Tryz.f139,Option.getD_some,VE.dropC,znh];obtain ⟨⟨l⟩,ds⟩:=a;obtain ⟨x0,x1,x2,x3,x4,x5,x6,x7,x8,x9,x10,x11,x12,x13,x14,x15,x16,x17,x18,x19,x20,x21,x22,x23,x24,x25,x26,x27,x28,x29,x30,x31,x32,x33,x34,x35,x36,x37,x38,x39,x40,x41,x42,x43,x44,x45,x46,x47,x48,x49,x50,x51,x52,x53,x54,x55,x56,x57,x58,x59,x60,x61,x62,x63,x64,x65,x66,x67,x68,rfl⟩:=zpK (l:=l) hsz;have e10:x10= .pointer (some ⟨w.heap.size,0,none⟩):=h10;subst e10
  gi_wp2
  refine ⟨trivial,rfl,callsIn_wide.2 ((Tryz.Builder_String_any _ _ _ _ hbl hbe.size).mono ?_)⟩;rintro e w2 ⟨rfl,hbe'⟩;simp only
  gi_wp2
  exact hQ _ _ (VE.calm_below (hbe.trans hbe')) rfl rfl rfl
 cases neg with
 | false=>
  cases hp
  gi_wp2
  refine zoh (pre:=[]) hc (by simp) hl hn hn2 (fun a w' hI=>?_) _ _ ⟨ts.length,Nat.le_refl _,rfl,rfl,rfl,rfl,?_,?_,?_⟩
  ·simp only [Exit.inBlock,Exit.then];exact fin a w' _ hI (by assumption)
  ·rfl
  ·rw [List.drop_length];exact Lib.fresh_isBuilder _ _ w
  ·exact (Below.refl _ w).alloc (Nat.le_refl _) _
 | true=>
  cases hp
  gi_wp2
  refine ⟨trivial,rfl,callsIn_wide.2 ((Tryz.Builder_WriteString _ _ [] _ _ (Lib.fresh_isBuilder _ _ w) (by decide) (by simp)).mono ?_)⟩;rintro e w' ⟨rfl,hb',hbe'⟩;simp only
  gi_wp2
  refine zoh (pre:=[45]) hc (by simp) hl hn hn2 (fun a w' hI=>?_) _ _ ⟨ts.length,Nat.le_refl _,rfl,rfl,rfl,rfl,?_,?_,?_⟩
  ·simp only [Exit.inBlock,Exit.then];exact fin a w' _ hI (by assumption)
  ·rfl
  ·rw [List.drop_length];exact .inr hb'
  ·exact ((Below.refl _ w).alloc (Nat.le_refl _) _).trans hbe'
theorem zya:VE.StrTail Tryz.prog zon:=fun _ a w neg ts b o c h1 h2 h3 h4 h5 h6 h7 h8=>zyV a w neg ts b o c h1 h2 h3 h4 h5 h6 h7 h8
end Go.Proofs
