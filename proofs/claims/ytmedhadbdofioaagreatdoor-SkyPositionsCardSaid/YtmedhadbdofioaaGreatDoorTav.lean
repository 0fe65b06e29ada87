import Derived.Test.YtmedhadbdofioaaGreatDoorTau
set_option linter.all false
set_option maxRecDepth 100000
open Go renaming World→yi
open List renaming map_map→yaB,map_reverse→uR
open Nat renaming le_refl→yC,lt_of_lt_of_le→yN
open UInt8 renaming toNat→yY
namespace VE
open Go
def Y4 {ai:Nat->Nat} {m:Mp} {S:Nat->Prop} {w:yi} {b:Nat}:∀{ps:List (List Nat)} {o:Nat},bW ai m S w (ps.map .str) b o->
  ∃ts:List ByteArray,(ts.map fun t=>t.data.toList.map yY)=ps/\∀i (h:i<ts.length),w.cell? ⟨b,o+i,none⟩=some (.string ts[i])
 | [],o,_=>⟨[],rfl,fun i h=>absurd h (Nat.not_lt_zero i)⟩
 | p::ps,o,h=>by
  obtain ⟨⟨u,h1,h2⟩,h3⟩:=h;obtain ⟨t,rfl,ht⟩:=h2;obtain ⟨ts,k1,k2⟩:=Y4 h3;refine ⟨t::ts,by rw [List.map_cons,ht,k1],fun i hi=>?_⟩
  cases i with
  | zero=>exact h1
  | succ i=>
   grind
def nU (ts:List ByteArray):List UInt8:=(ts.map fun t=>t.data.toList).flatten
def aqc {ts:List ByteArray} {ps:List (List Nat)} (h:(ts.map fun t=>t.data.toList.map yY)=ps):(nU ts.reverse).map yY=ps.reverse.flatten:=by
 subst h;unfold nU;rw [List.map_flatten,yaB,<-uR];rfl
def aqd {ts:List ByteArray} {ps:List (List Nat)} (h:(ts.map fun t=>t.data.toList.map yY)=ps):(ts.map (·.size)).sum=ps.reverse.flatten.length:=by
 subst h;rw [List.length_flatten,uR,List.sum_reverse,yaB]
 congr 1
 simp_all
def Sm (P:Program) (c:Code):Prop:=∀(Q:Exit->Act->yi->Prop) (a:Act) (w:yi) (neg:Bool) (ts:List ByteArray) (b o cc:Nat),a.tmps.size=69->a.tmps.getD 3 undef= .bool neg->a.tmps.getD 6 undef= .slice (some ⟨b,o,none⟩) ts.length cc->
  (∀i (h:i<ts.length),w.cell? ⟨b,o+i,none⟩=some (.string ts[i]))->(ts.map (·.size)).sum+1<=140737488355328->ts.length<=cc->ts.length<9223372036854775808->
  (∀a' w',Calm w w'->a'.tmps.size=69->a'.defers=a.defers->a'.tmps.getD 2 undef= .string ⟨((if neg then [45] else [])++nU ts.reverse).toArray⟩->Q .ret a' w')->
  (zC 5 c).wpIn Fence.wide 0 P Q a w
section
variable {O:bA}
def ajX {n K:Nat} (h:n<18446744073709551616^K):(aw n).length<=20*K+1:=by
 refine p9 (k:=20*K) (yN h ?_);have h1:(10:Nat)^(20*K)=(10^20)^K:=Nat.pow_mul ..;exact Nat.le_trans (by rw [h1];exact Nat.pow_le_pow_left (by decide) K) (Nat.pow_le_pow_right (by decide) (Nat.le_succ _))
def anX (hO:eP O) (hN:Nu O.prog O.aU) (Dk:O.aU.pure 138=some AH) (zW:O.aU.pure 139=some AZ) (Ge:O.prog 99=some DA) {fn:Func} {c:Code} (lE:O.P.funcs[O.ai 99]? =some fn) (jn:fn.body=some c) (Pp:fn.ntmps=69)
  (UO:OT 5 c) (ht:Sm O.P c) {s z:Int} {e:Bool} {l:List Nat} (hn:cN s (.aE e l.length (l.map uc)) z) (mb:0<z.natAbs) (hK:l.length<=4000000000) (Qi:z.natAbs<18446744073709551616^l.length):
  eX O 99 [.agg [aa s,.aE e l.length (l.map uc)]] (.str (bh z)):=by
 have hlen:=ajX Qi;obtain ⟨ps,eK,Qg,AB,e1⟩:=ajW (P:=O.prog) (L:=O.aU) hN Dk zW hn mb Qi hK (by omega)
 refine anW hO Ge lE jn (s:=⟨[(2,.str (bh z))],[(0,.cells true true false 1 (ps.map .str))],1,0⟩) (v:= .str (bh z)) ?_ rfl rfl;intro auu m S w a htr hh BS fa hgs DM;refine adG hO 5 c 0 0 UO _ _ (by rw [auu];exact e1) m S w a (fun l hl=>by cases hl) htr hh (yC _) BS hgs (yC _) ⟨[],by rw [DM];rfl,by simp,by simp⟩ ?_
 rintro a' w' ⟨_,m',S',k1,k2,k3,k4,k5,k6,k7⟩;have r3:=k1 3;have r6:=k1 6;have g3:af [(3,AV.bool (decide (z<0))),(6,.an 0 0 ps.length)] 3= .bool (decide (z<0)):=rfl;have g6:af [(3,AV.bool (decide (z<0))),(6,.an 0 0 ps.length)] 6= .an 0 0 ps.length:=rfl;rw [g3] at r3;rw [g6] at r6;simp only [aj] at r3 r6;obtain ⟨p,cc,hm,r6,hcc,_⟩:=r6;obtain ⟨p',arr,t,gK,_,_,_,_,_,Ds,_⟩:=k2.obj 0 _ p rfl hm;rw [hm] at gK;cases gK;obtain ⟨ts,pC,rB⟩:=Y4 Ds;have ni:ts.length=ps.length:=by rw [<-pC,List.length_map]
 have BD:=aqd pC;rw [<-AB] at BD;have UP:=aqc pC;rw [<-AB] at UP;refine ht _ a' w' (decide (z<0)) ts p.b p.o cc ?_ r3 (by rw [ni];exact r6) rB (by omega) (by omega) (by omega) ?_
 ·grind
 ·intro a2 w2 hc h1 h2 h3;have KD:=Ee k2 hc (S':=S') (fun _ h=>h) (fun _ h=> .inl h) (fun b hb=>yN (k2.slt b hb) hc.size);refine ⟨rfl,m',S',?_,KD,rfl,Nat.zero_le _,k5.trans (Co k2 hc (fun _ h=>h) (fun _ h=> .inl h)),?_,?_⟩
  ·intro i;by_cases hi:i=2
   ·subst hi;rw [h3];show aj O.ai m' S' w2 (.str (bh z)) _
    simp only [aj];refine ⟨_,rfl,?_⟩;by_cases h0:z<0
    ·rw [mR h0,xh h0];simp only [y5,List.map_append];rw [UP];rfl
    ·obtain ⟨n,rfl⟩:∃n:Nat,z=n:=⟨z.toNat,by omega⟩;rw [yR h0];simp only [Bool.false_eq_true,yO,List.nil_append];rw [UP];rfl
   ·have:af [(2,AV.str (bh z))] i= .undef:=by
     have hb:Nat.beq 2 i=false:=by
      cases hq:Nat.beq 2 i with
      | false=>rfl
      | true=>exact absurd (Nat.eq_of_beq_eq_true hq).symm hi
     simp only [af,hb,yA]
    show aj O.ai m' S' w2 (af [(2,AV.str (bh z))] i) _
    rw [this];simp only [aj]
  ·rw [h1,fa,Pp];simp
  ·rw [h2]
   exact AO k2 (Co (base:=0) k2 hc (fun _ h=>h) (fun _ h=> .inl h)) k7
end
end VE
