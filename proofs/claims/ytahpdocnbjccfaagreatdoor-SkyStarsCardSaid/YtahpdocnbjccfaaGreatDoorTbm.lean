import Derived.Test.YtahpdocnbjccfaaGreatDoorTbl
import Derived.Test.YtahpdocnbjccfaaGreatDoorTbk
set_option linter.all false
set_option maxRecDepth 100000
namespace VE
open Go
theorem zkD {fid:Nat→Nat} {m:Mp} {S:Nat→Prop} {w:World} {b:Nat}:∀{ps:List (List Nat)} {o:Nat},zZ fid m S w (ps.map .str) b o→
  ∃ts:List ByteArray,(ts.map fun t=>t.data.toList.map UInt8.toNat)=ps∧∀i (h:i<ts.length),w.cell? ⟨b,o+i,none⟩=some (.string ts[i])
 | [],o,_=>⟨[],rfl,fun i h=>absurd h (Nat.not_lt_zero i)⟩
 | p::ps,o,h=>by
  simp only [List.map_cons,zZ] at h
  obtain ⟨⟨u,h1,h2⟩,h3⟩:=h
  simp only [zp] at h2
  obtain ⟨t,rfl,ht⟩:=h2
  obtain ⟨ts,k1,k2⟩:=zkD h3
  refine ⟨t::ts,by rw [List.map_cons,ht,k1],fun i hi=>?_⟩
  cases i with
  | zero=>exact h1
  | succ i=>
   have:=k2 i (by simpa using hi)
   rw [show o+(i+1)=o+1+i by omega]
   exact this
def ziD (ts:List ByteArray):List UInt8:=(ts.map fun t=>t.data.toList).flatten
theorem zzb {ts:List ByteArray} {ps:List (List Nat)} (h:(ts.map fun t=>t.data.toList.map UInt8.toNat)=ps):(ziD ts.reverse).map UInt8.toNat=ps.reverse.flatten:=by
 subst h
 unfold ziD
 rw [List.map_flatten,List.map_map,←List.map_reverse]
 rfl
theorem zAw {ts:List ByteArray} {ps:List (List Nat)} (h:(ts.map fun t=>t.data.toList.map UInt8.toNat)=ps):(ts.map (·.size)).sum=ps.reverse.flatten.length:=by
 subst h
 rw [List.length_flatten,List.map_reverse,List.sum_reverse,List.map_map]
 congr 1
 refine List.map_congr_left fun t _=>?_
 show t.data.size=_
 simp
def StrTail (P:Program) (c:Code):Prop:=∀(Q:Exit→Act→World→Prop) (a:Act) (w:World) (neg:Bool) (ts:List ByteArray) (b o cc:Nat),a.tmps.size=69→a.tmps.getD 3 undef= .bool neg→a.tmps.getD 6 undef= .slice (some ⟨b,o,none⟩) ts.length cc→
  (∀i (h:i<ts.length),w.cell? ⟨b,o+i,none⟩=some (.string ts[i]))→(ts.map (·.size)).sum+1≤140737488355328→ts.length≤cc→ts.length<9223372036854775808→
  (∀a' w',Calm w w'→a'.tmps.size=69→a'.defers=a.defers→a'.tmps.getD 2 undef= .string ⟨((if neg then [45] else [])++ziD ts.reverse).toArray⟩→Q .ret a' w')→
  (dropC 5 c).wpIn Fence.wide 0 P Q a w
section
variable {Λ:Link}
theorem zpb {n K:Nat} (h:n<18446744073709551616^K):(zq n).length≤20*K+1:=by
 refine zco (k:=20*K) (Nat.lt_of_lt_of_le h ?_)
 have h1:(10:Nat)^(20*K)=(10^20)^K:=Nat.pow_mul ..
 exact Nat.le_trans (by rw [h1];exact Nat.pow_le_pow_left (by decide) K) (Nat.pow_le_pow_right (by decide) (Nat.le_succ _))
theorem zuD (hΛ:zav Λ) (hN:Nu Λ.prog Λ.lib) (h138:Λ.lib.pure 138=some zbD) (h139:Λ.lib.pure 139=some zet) (h99:Λ.prog 99=some c99) {fn:Func} {c:Code} (hfn:Λ.P.funcs[Λ.fid 99]? =some fn) (hbo:fn.body=some c) (hnt:fn.ntmps=69)
  (hseq:zzv 5 c) (ht:StrTail Λ.P c) {s z:Int} {e:Bool} {l:List Nat} (hn:Nok s (.vsl e l.length (l.map uc)) z) (hz0:0<z.natAbs) (hK:l.length≤4000000000) (hzK:z.natAbs<18446744073709551616^l.length):
  PureC Λ 99 [.agg [zf s,.vsl e l.length (l.map uc)]] (.str (zV z)):=by
 have hlen:=zpb hzK
 obtain ⟨ps,hne,hpb,htx,e1⟩:=zpe (P:=Λ.prog) (L:=Λ.lib) hN h138 h139 hn hz0 hzK hK (by omega)
 refine zwJ hΛ h99 hfn hbo (s:=⟨[(2,.str (zV z))],[(0,.cells true true false 1 (ps.map .str))],1,0⟩) (v:= .str (zV z)) ?_ rfl rfl
 intro hcomp m S w a htr hh hnn hsz hgs hds
 refine zux hΛ 5 c 0 0 hseq _ _ (by rw [hcomp];exact e1) m S w a (fun l hl=>by cases hl) htr hh (Nat.le_refl _) hnn hgs (Nat.le_refl _) ⟨[],by rw [hds];rfl,by simp,by simp⟩ ?_
 rintro a' w' ⟨_,m',S',k1,k2,k3,k4,k5,k6,k7⟩
 have r3:=k1 3
 have r6:=k1 6
 have g3:zd [(3,AV.bool (decide (z<0))),(6,.osl 0 0 ps.length)] 3= .bool (decide (z<0)):=rfl
 have g6:zd [(3,AV.bool (decide (z<0))),(6,.osl 0 0 ps.length)] 6= .osl 0 0 ps.length:=rfl
 rw [g3] at r3
 rw [g6] at r6
 simp only [zp] at r3 r6
 obtain ⟨p,cc,hm,r6,hcc,_⟩:=r6
 obtain ⟨p',arr,t,hm',_,_,_,_,_,hra,_⟩:=k2.obj 0 _ p rfl hm
 rw [hm] at hm'
 cases hm'
 obtain ⟨ts,hts,hcell⟩:=zkD hra
 have hl1:ts.length=ps.length:=by rw [←hts,List.length_map]
 have hsum:=zAw hts
 rw [←htx] at hsum
 have hcat:=zzb hts
 rw [←htx] at hcat
 refine ht _ a' w' (decide (z<0)) ts p.b p.o cc ?_ r3 (by rw [hl1];exact r6) hcell (by omega) (by omega) (by omega) ?_
 ·rw [k6,hsz,hnt];simp
 ·intro a2 w2 hc h1 h2 h3
  have hh2:=zd4 k2 hc (S':=S') (fun _ h=>h) (fun _ h=> .inl h) (fun b hb=>Nat.lt_of_lt_of_le (k2.slt b hb) hc.size)
  refine ⟨rfl,m',S',?_,hh2,rfl,Nat.zero_le _,k5.trans (zem k2 hc (fun _ h=>h) (fun _ h=> .inl h)),?_,?_⟩
  ·intro i
   by_cases hi:i=2
   ·subst hi
    rw [h3]
    show zp Λ.fid m' S' w2 (.str (zV z)) _
    simp only [zp]
    refine ⟨_,rfl,?_⟩
    by_cases h0:z<0
    ·rw [zbr h0,decide_eq_true h0]
     simp only [if_true,List.map_append]
     rw [hcat];rfl
    ·obtain ⟨n,rfl⟩:∃n:Nat,z=n:=⟨z.toNat,by omega⟩
     rw [decide_eq_false h0]
     simp only [Bool.false_eq_true,if_false,List.nil_append]
     rw [hcat];rfl
   ·have:zd [(2,AV.str (zV z))] i= .undef:=by
     have hb:Nat.beq 2 i=false:=by
      cases hq:Nat.beq 2 i with
      | false=>rfl
      | true=>exact absurd (Nat.eq_of_beq_eq_true hq).symm hi
     simp only [zd,hb,cond_false]
    show zp Λ.fid m' S' w2 (zd [(2,AV.str (zV z))] i) _
    rw [this]
    simp only [zp]
  ·rw [h1,hsz,hnt];simp
  ·rw [h2]
   exact zcD k2 (zem (base:=0) k2 hc (fun _ h=>h) (fun _ h=> .inl h)) k7
end
end VE
