import Derived.Test.YtahpdocnbjccfaaGreatDoorTbu
import Derived.Test.YtahpdocnbjccfaaGreatDoorTbv
import Derived.Test.YtahpdocnbjccfaaGreatDoorTba
import Derived.Test.YtahpdocnbjccfaaGreatDoorTau
set_option linter.all false
set_option maxRecDepth 100000
open Nat (reduceAdd reduceEqDiff reduceLT reduceLeDiff)
section
namespace VE
open Go (IntKind)
def IsT (v:AV) (l:List (List Nat)):Prop:=IsL v (l.map AV.str)
section
variable {v:AV} {l:List (List Nat)}
theorem IsT.len (h:IsT v l) {hp:Hp}:zcp hp 1 v=some (.int .i64 (l.length:Nat)):=by
 have:=IsL.len (hp:=hp) h
 rwa [List.length_map] at this
theorem IsT.pu (h:IsT v l):zD v=true:=IsL.pu h
theorem IsT.frz (h:IsT v l) (n:Nat) {hp:Hp}:zai (n+1) hp v=some (v,hp):=IsL.frz h n
theorem IsT.shut (h:IsT v l):VE.shut v=v:=IsL.shut h
theorem IsT.shut1 (h:IsT v l):VE.shut1 v=v:=IsL.shut1 h
theorem IsT.res (h:IsT v l) {hp:Hp}:zaR hp v=some v:=IsL.res h
theorem IsT.one (h:IsT v l):zX v=true:=IsL.one h
theorem IsT.cells (h:IsT v l):cellsOf v=[v]:=IsL.cells h
theorem IsT.ixa (h:IsT v l) {i:Nat} (hi:i<l.length):zdF 1 i v=some (.vptr (.str l[i]::(l.map AV.str).drop (i+1))):=by
 have:=IsL.ixa h (i:=i) (by simpa using hi)
 rw [this];simp
theorem zhe (e:Bool) (l:List (List Nat)):IsT (.vsl e l.length (l.map AV.str)) l:=by
 have:=zmJ e (l.map AV.str)
 rwa [List.length_map] at this
end
section
variable {P:zP} {L:Lib}
theorem zF9 (h:Rn P L) {a:Rat} {K:Nat} (ka:Hq K a) (hK:K≤4000000000):zn P L 269 [.str (RT a)] (zf (if LG a=true then 4 else 0)):=by
 have hl:=zj3 ka
 have e0:=zrY h.h272 (s:=RT a) (by omega)
 have hns:=zgy a.num
 have hli:=zd2 ka.1
 have hcut:zO (RT a)=(zV a.num).length∧(RT a).take (zV a.num).length=zV a.num:=by
  unfold RT
  by_cases hd:a.den=1
  ·rw [if_pos hd,List.append_nil]
   have:=zeE a.num []
   rw [List.append_nil] at this
   exact ⟨by rw [this];simp [zO],List.take_length⟩
  ·rw [if_neg hd]
   exact ⟨by rw [zeE];simp [zO],List.take_left⟩
 obtain ⟨hc1,hc2⟩:=hcut
 rw [hc1] at e0
 have hlen:(zV a.num).length≤(RT a).length:=by unfold RT;simp
 have e1:zx P L (D P L) 284 [.str (RT a)]=some (.str (zV a.num)):=by
  unfold zn at e0
  rw [zc h.h284]
  have:=zoj (s:=RT a) hlen
  simp only [go_sem,reduceEqDiff,zFt,e0,zaj,zaq,zaa,this,hc2]
 have hT:zV a.num=TT a.num 1:=by unfold TT;simp
 have e2:zx P L (D P L) 285 [.str (zV a.num)]=some (.str (zq a.num.natAbs)):=by
  have e:=zA3 h (n:=a.num) (d:=1) (by rw [←hT];omega) (fun _=>rfl)
  rw [←hT] at e
  unfold zn at e
  rw [zc h.h285]
  by_cases h0:a.num<0
  ·have es:sgn a.num= -1:=by unfold sgn;rw [if_pos h0]
   rw [es] at e
   rw [zbr h0] at e ⊢
   have hc:=zhh (s:=45::zq a.num.natAbs) (k:=1) (by simp)
   simp only [List.drop_succ_cons,List.drop_zero,List.length_cons] at hc
   simp only [go_sem,reduceEqDiff,zyS,e,show (-1:Int)<0 by decide,zaj,zaq,zaa,hc]
  ·have es:¬sgn a.num<0:=by unfold sgn;rw [if_neg h0];split<;>decide
   have hi:zV a.num=zq a.num.natAbs:=by
    obtain ⟨m,hm⟩:∃m:Nat,a.num=m:=⟨a.num.toNat,by omega⟩
    rw [hm,zbg,Int.natAbs_natCast]
   simp only [go_sem,reduceEqDiff,zyS,e,es]
   rw [hi]
 have e3:zx P L (D P L) 286 [.str (RT a)]=some (.str (zq a.den)):=by
  unfold zn at e0
  rw [zc h.h286]
  by_cases hd:a.den=1
  ·have hR:(RT a).length=(zV a.num).length:=by unfold RT;rw [if_pos hd];simp
   rw [hd,show zq 1=[49] by decide]
   simp only [go_sem,reduceEqDiff,zz7,e0,show ((zV a.num).length:Int)=((RT a).length:Int) by omega,decide_true]
  ·have hR:RT a=(zV a.num++[47])++zq a.den:=by unfold RT;rw [if_neg hd];simp
   have hRl:(RT a).length=(zV a.num).length+1+(zq a.den).length:=by rw [hR];simp;omega
   have hp:=zbL a.den
   have hc:=zhh (s:=RT a) (k:=(zV a.num).length+1) (by omega)
   have hdr:(RT a).drop ((zV a.num).length+1)=zq a.den:=by
    rw [hR,show (zV a.num).length+1=(zV a.num++[47]).length by simp,List.drop_left]
   rw [hdr] at hc
   simp only [go_sem,reduceEqDiff,zz7,e0,show ¬((zV a.num).length:Int)=((RT a).length:Int) by omega,show ((zV a.num).length:Int)+1=(((zV a.num).length+1:Nat):Int) from rfl,zF (n:=(zV a.num).length+1) (by omega),zaj,zaq,zaa,hc]
 have hn:=zjE ka.1
 have hd:=zjE ka.2
 rw [Int.natAbs_natCast] at hd
 unfold zn;rw [zc h.h269]
 unfold LG LN
 rw [Int.natAbs_natCast]
 by_cases h1:600<(zq a.num.natAbs).length
 ·rw [decide_eq_true h1,Bool.true_or,if_pos rfl]
  simp only [go_sem,reduceEqDiff,zuY,e1,e2,show (600:Int)<((zq a.num.natAbs).length:Int) by omega,decide_true]
 ·by_cases h2:600<(zq a.den).length
  ·rw [decide_eq_true h2,Bool.or_true,if_pos rfl]
   simp only [go_sem,reduceEqDiff,zuY,e1,e2,show ¬(600:Int)<((zq a.num.natAbs).length:Int) by omega,decide_false,e3,show (600:Int)<((zq a.den).length:Int) by omega]
  ·rw [decide_eq_false h1,decide_eq_false h2,Bool.or_self,if_neg (by decide)]
   simp only [go_sem,reduceEqDiff,zuY,e1,e2,show ¬(600:Int)<((zq a.num.natAbs).length:Int) by omega,decide_false,e3,show ¬(600:Int)<((zq a.den).length:Int) by omega]
def zez (l:List (List Nat)):Bool:=l.all fun s=>decide (s.length≤40)
theorem zqu {l:List (List Nat)} {i:Nat} (h:i<l.length):zez (l.drop i)=(decide (l[i].length≤40)&&zez (l.drop (i+1))):=by
 rw [List.drop_eq_getElem_cons h];rfl
theorem ztp {l:List (List Nat)} {i:Nat} (h:i<l.length):zG ((l.drop i).map chk)=if chk l[i]=0 then zG ((l.drop (i+1)).map chk) else chk l[i]:=by
 rw [List.drop_eq_getElem_cons h];rfl
theorem zGU (h:Has P L 305 zzT) {v:AV} {l:List (List Nat)} (hv:IsT v l) (hl:l.length≤1000000) (hs:∀s,s∈l→s.length<9223372036854775808):zn P L 305 [v] (.bool (zez l)):=by
 have key:=zM (P:=P) (L:=L) (live:=[0,3]) (a:=zin)
  (I:=fun k st=>∃i:Nat,st=⟨[(0,v),(3,zf i)],[],0,0⟩∧i+k=l.length∧zez (l.drop i)=zez l)
  (Q:=fun ex st=>∃tm ct,st=⟨tm,[],ct,0⟩∧((ex= .ret∧zd tm 2= .bool false∧zez l=false)∨(ex= .exit 0∧zez l=true))) ?_
 ·unfold zn;rw [zc h]
  simp only [go_sem,zzT]
  generalize hq:D P L (.loop [0,3] zin) _=q
  obtain ⟨ex,st,rfl,tm,ct,rfl,h2⟩:=zW hq (key l.length) ⟨0,by simp only [go_sem,reduceEqDiff,za,zb hv.pu,ze _ hv.pu]<;>rfl,by omega,by simp⟩
  rcases h2 with ⟨rfl,h2,h3⟩ | ⟨rfl,h3⟩
  ·simp only [go_sem,h2,h3]
  ·simp only [go_sem,za,h3]
 ·rintro k st ⟨i,rfl,hk,hd⟩
  by_cases hi:i<l.length
  ·rw [zqu hi] at hd
   have hb:=hs l[i] (List.getElem_mem hi)
   have ev:=hv.ixa hi
   by_cases h1:l[i].length≤40
   ·left
    rw [decide_eq_true h1,Bool.true_and] at hd
    simp only [go_sem,reduceEqDiff,zin,hv.len,show (i:Int)<l.length by omega,ev,show ¬(40:Int)<(l[i].length:Int) by omega]
    refine ⟨_,k-1,rfl,by omega,i+1,?_,by omega,hd⟩
    rw [zh (by omega) (by omega)]
    simp only [go_sem,reduceEqDiff,za,zb hv.pu,ze _ hv.pu]<;>rfl
   ·right
    rw [decide_eq_false h1,Bool.false_and] at hd
    simp only [go_sem,reduceEqDiff,zin,hv.len,show (i:Int)<l.length by omega,ev,show (40:Int)<(l[i].length:Int) by omega]
    exact ⟨_,_,rfl,by simp,_,_,rfl,.inl ⟨rfl,by simp only [go_sem],hd.symm⟩⟩
  ·right
   simp only [go_sem,reduceEqDiff,zin,hv.len,show ¬(i:Int)<l.length by omega]
   refine ⟨_,_,rfl,by simp,_,_,rfl,.inr ⟨rfl,?_⟩⟩
   rw [←hd,List.drop_eq_nil_of_le (by omega)];rfl
theorem zH7 (h:Rn P L) (h261:Has P L 261 zAN) {v:AV} {l:List (List Nat)} (hv:IsT v l) (hl:l.length≤1000000) (hs:∀s,s∈l→s.length≤1000000000):zn P L 261 [v] (zf (zG (l.map chk))):=by
 have key:=zM (P:=P) (L:=L) (live:=[0,3]) (a:=zig)
  (I:=fun k st=>∃i:Nat,st=⟨[(0,v),(3,zf i)],[],0,0⟩∧i+k=l.length∧zG ((l.drop i).map chk)=zG (l.map chk))
  (Q:=fun ex st=>∃tm ct,st=⟨tm,[],ct,0⟩∧((ex= .ret∧zd tm 2=zf (zG (l.map chk)))∨(ex= .exit 0∧zG (l.map chk)=0))) ?_
 ·unfold zn;rw [zc h261]
  simp only [go_sem,zAN]
  generalize hq:D P L (.loop [0,3] zig) _=q
  obtain ⟨ex,st,rfl,tm,ct,rfl,h2⟩:=zW hq (key l.length) ⟨0,by simp only [go_sem,reduceEqDiff,za,zb hv.pu,ze _ hv.pu]<;>rfl,by omega,by simp⟩
  rcases h2 with ⟨rfl,h2⟩ | ⟨rfl,h3⟩
  ·simp only [go_sem,h2]
  ·simp only [go_sem,za,h3]
 ·rintro k st ⟨i,rfl,hk,hd⟩
  by_cases hi:i<l.length
  ·rw [ztp hi] at hd
   have e1:=zHJ h (hs l[i] (List.getElem_mem hi))
   have ev:=hv.ixa hi
   unfold zn at e1
   by_cases h1:chk l[i]=0
   ·left
    rw [if_pos h1] at hd
    rw [h1] at e1
    simp only [go_sem,reduceEqDiff,zig,hv.len,show (i:Int)<l.length by omega,ev,e1,decide_true,Bool.not_true]
    refine ⟨_,k-1,rfl,by omega,i+1,?_,by omega,hd⟩
    rw [zh (by omega) (by omega)]
    simp only [go_sem,reduceEqDiff,za,zb hv.pu,ze _ hv.pu]<;>rfl
   ·right
    rw [if_neg h1] at hd
    simp only [go_sem,reduceEqDiff,zig,hv.len,show (i:Int)<l.length by omega,ev,e1,h1,decide_false,Bool.not_false]
    refine ⟨_,_,rfl,by simp,_,_,rfl,.inl ⟨rfl,?_⟩⟩
    rw [←hd]
    simp only [go_sem]
  ·right
   simp only [go_sem,reduceEqDiff,zig,hv.len,show ¬(i:Int)<l.length by omega]
   refine ⟨_,_,rfl,by simp,_,_,rfl,.inr ⟨rfl,?_⟩⟩
   rw [←hd,List.drop_eq_nil_of_le (by omega)];rfl
theorem zqm {l:List Rat} {i:Nat} (h:i<l.length):(l.drop i).any LG=(LG l[i]||(l.drop (i+1)).any LG):=by
 rw [List.drop_eq_getElem_cons h];rfl
theorem zCm (h:Rn P L) (h316:Has P L 316 zzz) {v:AV} {l:List Rat} (hv:IsT v (l.map RT)) (hl:l.length≤1000000) {K:Nat} (hs:∀r,r∈l→Hq K r) (hK:K≤4000000000):zn P L 316 [v] (zf (if l.any LG=true then 4 else 0)):=by
 have hlen:(l.map RT).length=l.length:=by simp
 have key:=zM (P:=P) (L:=L) (live:=[0,3]) (a:=ziy)
  (I:=fun k st=>∃i:Nat,st=⟨[(0,v),(3,zf i)],[],0,0⟩∧i+k=l.length∧(l.drop i).any LG=l.any LG)
  (Q:=fun ex st=>∃tm ct,st=⟨tm,[],ct,0⟩∧((ex= .ret∧zd tm 2=zf 4∧l.any LG=true)∨(ex= .exit 0∧l.any LG=false))) ?_
 ·unfold zn;rw [zc h316]
  simp only [go_sem,zzz]
  generalize hq:D P L (.loop [0,3] ziy) _=q
  obtain ⟨ex,st,rfl,tm,ct,rfl,h2⟩:=zW hq (key l.length) ⟨0,by simp only [go_sem,reduceEqDiff,za,zb hv.pu,ze _ hv.pu]<;>rfl,by omega,by simp⟩
  rcases h2 with ⟨rfl,h2,h3⟩ | ⟨rfl,h3⟩
  ·simp only [go_sem,h2,h3,if_true]
  ·simp only [go_sem,za,h3]
   rfl
 ·rintro k st ⟨i,rfl,hk,hd⟩
  by_cases hi:i<l.length
  ·rw [zqm hi] at hd
   have e1:=zF9 h (hs l[i] (List.getElem_mem hi)) hK
   have ev:=hv.ixa (i:=i) (by simpa using hi)
   rw [List.getElem_map] at ev
   unfold zn at e1
   cases hb:LG l[i] with
   | false=>
    left
    rw [hb,Bool.false_or] at hd
    rw [hb] at e1
    simp only [Bool.false_eq_true,if_false] at e1
    simp only [go_sem,reduceEqDiff,ziy,hv.len,hlen,show (i:Int)<l.length by omega,ev,e1,decide_true,Bool.not_true]
    refine ⟨_,k-1,rfl,by omega,i+1,?_,by omega,hd⟩
    rw [zh (by omega) (by omega)]
    simp only [go_sem,reduceEqDiff,za,zb hv.pu,ze _ hv.pu]<;>rfl
   | true=>
    right
    rw [hb,Bool.true_or] at hd
    rw [hb] at e1
    simp only [if_true] at e1
    simp only [go_sem,reduceEqDiff,ziy,hv.len,hlen,show (i:Int)<l.length by omega,ev,e1,show ¬(4:Int)=0 by decide,decide_false,Bool.not_false]
    exact ⟨_,_,rfl,by simp,_,_,rfl,.inl ⟨rfl,by simp only [go_sem],hd.symm⟩⟩
  ·right
   simp only [go_sem,reduceEqDiff,ziy,hv.len,hlen,show ¬(i:Int)<l.length by omega]
   refine ⟨_,_,rfl,by simp,_,_,rfl,.inr ⟨rfl,?_⟩⟩
   rw [←hd,List.drop_eq_nil_of_le (by omega)];rfl
end
end VE
end
section
namespace VE
open Go (IntKind)
open Classical in
noncomputable def zt (s:List Nat):Rat:=if h:chk s=0 then Classical.choose (zw5 h) else 0
theorem zaK {s:List Nat} (h:chk s=0):s=RT (zt s)∧(zq (zt s).num.natAbs).length≤600∧(zq (zt s).den).length≤600:=by
 unfold zt
 rw [dif_pos h]
 exact Classical.choose_spec (zw5 h)
theorem zlI {z:Int} {k M:Nat} (h:(zq z.natAbs).length≤k) (hM:4*k≤M):Bd M z:=by
 have h1:=zhb z.natAbs
 have h2:=zhC (zq z.natAbs).length
 have h3:(2:Nat)^(4*(zq z.natAbs).length)≤2^M:=Nat.pow_le_pow_right (by decide) (by omega)
 exact Nat.lt_of_lt_of_le h1 (Nat.le_trans h2 h3)
theorem zan {s:List Nat} (h:chk s=0) {M:Nat} (hM:2400≤M):Hq M (zt s):=by
 obtain ⟨_,h1,h2⟩:=zaK h
 exact ⟨zlI h1 (by omega),zlI (z:=((zt s).den:Int)) (by rw [Int.natAbs_natCast];exact h2) (by omega)⟩
noncomputable def zcn (s:List Nat) (least:Int):Int:=if chk s=0 then (if sgn (zt s).num<least then 3 else 0) else chk s
theorem zga {s:List Nat} {m:Int} (h:zcn s m=0):chk s=0∧m≤sgn (zt s).num:=by
 unfold zcn at h
 by_cases h0:chk s=0
 ·rw [if_pos h0] at h
  split at h
  ·exact absurd h (by decide)
  ·exact ⟨h0,by omega⟩
 ·rw [if_neg h0] at h;exact absurd h h0
abbrev plT (x y:List Nat):AV:= .agg [.str x,.str y]
abbrev plV (a b:Rat):AV:= .agg [.str (RT a),.str (RT b)]
instance (k:Nat) (z:Int):Decidable (Bd k z):=inferInstanceAs (Decidable (z.natAbs<2^k))
theorem zIe:RT 0=[48]:=by decide
theorem zG2:RT 1=[49]:=by decide
theorem zIO:RT 2=[50]:=by decide
theorem zHf:RT (-1)=[45,49]:=by decide
def zdJ:Rat:=⟨1,2,by decide,by decide⟩
theorem zKr:RT zdJ=[49,47,50]:=by decide
theorem zGn:Hq 2 0:=⟨by decide,by decide⟩
theorem Hq_1:Hq 2 1:=⟨by decide,by decide⟩
theorem Hq_2:Hq 2 2:=⟨by decide,by decide⟩
theorem Hq_m1:Hq 2 (-1):=⟨by decide,by decide⟩
theorem zzS:Hq 2 zdJ:=⟨by decide,by decide⟩
theorem zyK {a:Rat} (h:RT a=[48]):a=0:=by
 unfold RT at h
 have hp:=zbL a.den
 by_cases hd:a.den=1
 ·rw [if_pos hd,List.append_nil] at h
  by_cases h0:a.num<0
  ·rw [zbr h0] at h;simp at h
  ·obtain ⟨m,hm⟩:∃m:Nat,a.num=m:=⟨a.num.toNat,by omega⟩
   rw [hm,zbg] at h
   have hv:=zdm m
   rw [h] at hv
   have hv:some 0=some m:=hv
   have:m=0:=by injection hv with hv;exact hv.symm
   exact Rat.num_eq_zero.1 (by rw [hm,this];rfl)
 ·rw [if_neg hd] at h
  have hl:=congrArg List.length h
  have hi:0<(zV a.num).length:=by
   rw [←za7];have:=zbL a.num.natAbs;simp;omega
  simp at hl;omega
theorem zpX (a:Rat):eqL (RT a) [48]=decide (a=0):=by
 by_cases h:a=0
 ·subst h;rw [decide_eq_true rfl];exact zpJ zIe
 ·rw [decide_eq_false h];exact zdc (fun e=>h (zyK e))
structure Sr (P:zP) (L:Lib):Prop extends Rn P L where
 h11:Has P L 11 c11
 h13:Has P L 13 c13
 h42:Has P L 42 c42
 h261:Has P L 261 zAN
 h304:Has P L 304 zDt
 h305:Has P L 305 zzT
 h306:Has P L 306 zEH
 h307:Has P L 307 zDX
 h308:Has P L 308 zE0
 h309:Has P L 309 zxz
 h310:Has P L 310 zvj
 h311:Has P L 311 zAu
 h312:Has P L 312 zwM
 h313:Has P L 313 zFl
 h314:Has P L 314 zuk
 h315:Has P L 315 zDh
 h316:Has P L 316 zzz
 h317:Has P L 317 zDB
 h318:Has P L 318 zCK
 h319:Has P L 319 zFu
section
variable {P:zP} {L:Lib}
theorem zHO (h:Sr P L) {s:List Nat} (hl:s.length≤1000000000) (m:Int):zn P L 314 [.str s,zf m] (zf (zcn s m)):=by
 have e1:=zHJ h.toRn hl
 unfold zn at e1 ⊢;rw [zc h.h314]
 unfold zcn
 by_cases h0:chk s=0
 ·obtain ⟨h1,_⟩:=zaK h0
  have e2:=zuv h.toRn (zan h0 (Nat.le_refl 2400)) (by omega)
  rw [←h1] at e2
  rw [h0] at e1
  unfold zn at e2
  rw [if_pos h0]
  by_cases h2:sgn (zt s).num<m
  ·rw [if_pos h2]
   simp only [go_sem,reduceEqDiff,zuk,e1,decide_true,e2,h2]
  ·rw [if_neg h2]
   simp only [go_sem,reduceEqDiff,zuk,e1,decide_true,e2,h2]
 ·rw [if_neg h0]
  simp only [go_sem,reduceEqDiff,zuk,e1,h0,decide_false]
theorem zH8 (h:Sr P L) {s:List Nat} (hl:s.length≤1000000000):zn P L 307 [.str s] (zf (zcn s 0)):=by
 have e1:=zHO h hl 0
 unfold zn at e1 ⊢;rw [zc h.h307]
 simp only [go_sem,reduceEqDiff,zDX,e1]
theorem zz6 (h:Sr P L) {x y:List Nat} (hx:x.length≤1000000000) (hy:y.length≤1000000000):zn P L 308 [plT x y] (zf (zG [chk x,chk y])):=by
 have e1:=zH7 h.toRn h.h261 (zhe true [x,y]) (by simp) (fun s hs=>by simp at hs;rcases hs with rfl | rfl<;>assumption)
 simp only [List.length_cons,List.length_nil,Nat.zero_add,reduceAdd,List.map_cons,List.map_nil] at e1
 unfold zn at e1 ⊢;rw [zc h.h308]
 simp only [go_sem,reduceEqDiff,reduceAdd,reduceLT,reduceLeDiff,Nat.mul_one,zE0,zg,zj,Nat.zero_add,z7,e1]
theorem zJe (h:Sr P L) {x y s:List Nat} (hx:x.length≤1000000000) (hy:y.length≤1000000000) (hs:s.length≤1000000000):zn P L 306 [.agg [.str x,.str y,.str s]] (zf (zG [zG [chk x,chk y],zcn s 0])):=by
 have e1:=zz6 h hx hy
 have e2:=zH8 h hs
 have e3:=s42 h.h42 (zaY true [zG [chk x,chk y],zcn s 0]) (by simp)
 simp only [List.length_cons,List.length_nil,Nat.zero_add,reduceAdd,List.map_cons,List.map_nil] at e3
 unfold zn at e1 e2 ⊢;rw [zc h.h306]
 simp only [go_sem,reduceEqDiff,reduceAdd,reduceLT,reduceLeDiff,Nat.mul_one,zEH,zi,zg,zj,Nat.zero_add,zay,e1,e2,show List.drop 2 [AV.str x,.str y,.str s]=[.str s] from rfl,e3]
theorem zJY (h:Sr P L) {x y s:List Nat} (hx:x.length<9223372036854775808) (hy:y.length<9223372036854775808) (hs:s.length<9223372036854775808):zn P L 304 [.agg [.str x,.str y,.str s]] (.bool (zez [x,y,s])):=by
 have e1:=zGU h.h305 (zhe true [x,y,s]) (by simp) (fun t ht=>by simp at ht;rcases ht with rfl | rfl | rfl<;>omega)
 simp only [List.length_cons,List.length_nil,Nat.zero_add,reduceAdd,List.map_cons,List.map_nil] at e1
 unfold zn at e1 ⊢;rw [zc h.h304]
 simp only [go_sem,reduceEqDiff,reduceAdd,reduceLT,reduceLeDiff,Nat.mul_one,zDt,zg,zj,Nat.zero_add,z7,show List.drop 2 [AV.str x,.str y,.str s]=[.str s] from rfl,e1]
theorem zHe (h:Sr P L) {a b:Rat} {K M:Nat} (ka:Hq K a) (kb:Hq M b) (hK:K+M+1≤8000000000):zn P L 315 [.str (RT a),.str (RT b)] (zf (sgn (a-b).num)):=by
 have e1:=zry h.toRn ka kb hK
 have e2:=zuv h.toRn (ka.sub kb) hK
 unfold zn at e1 e2 ⊢;rw [zc h.h315]
 simp only [go_sem,reduceEqDiff,zDh,e1,e2]
theorem zCY (h:Sr P L) {a b t c d:Rat} {K M J:Nat} (ka:Hq K a) (kb:Hq K b) (kt:Hq M t) (kc:Hq J c) (kd:Hq J d) (hK:K+M+J+1≤8000000000):zn P L 318 [plV a b,.str (RT t),plV c d] (plV (a+t*c) (b+t*d)):=by
 have e1:=znu h.toRn kt kc (by omega)
 have e2:=zqQ h.toRn ka (kt.mul kc) (by omega)
 have e3:=znu h.toRn kt kd (by omega)
 have e4:=zqQ h.toRn kb (kt.mul kd) (by omega)
 unfold zn at e1 e2 e3 e4 ⊢;rw [zc h.h318]
 simp only [go_sem,reduceEqDiff,reduceAdd,reduceLeDiff,zCK,zg,zj,Nat.zero_add,z7,e1,e2,e3,e4,zas]
 rfl
theorem zGO (h:Sr P L) {t c d:Rat} {M J:Nat} (kt:Hq M t) (kc:Hq J c) (kd:Hq J d) (hK:M+J+3≤8000000000):zn P L 317 [.str (RT t),plV c d] (plV (t*c) (t*d)):=by
 have e1:=zCY h zGn zGn kt kc kd (by omega)
 unfold plV at e1
 rw [Rat.zero_add,Rat.zero_add,zIe] at e1
 unfold zn at e1 ⊢;rw [zc h.h317]
 simp only [go_sem,reduceEqDiff,reduceAdd,reduceLeDiff,zDB,zi,zg,Nat.zero_add,zay,e1,zk,zas]
 rfl
theorem zJN (h:Sr P L) {a:Rat} {K:Nat} (ka:Hq K a) (hK:K+2≤8000000000):zn P L 319 [.str (RT a)] (.str (RT (a*zdJ))):=by
 have e1:=znu h.toRn ka zzS hK
 rw [zKr] at e1
 unfold zn at e1 ⊢;rw [zc h.h319]
 simp only [go_sem,reduceEqDiff,zFu,e1]
end
end VE
end
section
namespace VE
open Go (IntKind)
theorem ziT (q:Rat):q.num<0↔q<0:=by
 have h:=@Rat.num_nonneg q
 constructor
 ·intro h1;exact Rat.not_le.1 (fun h2=>by have:=h.2 h2;omega)
 ·intro h1
  rcases Int.lt_or_le q.num 0 with h2 | h2
  ·exact h2
  ·exact absurd (h.1 h2) (Rat.not_le.2 h1)
theorem zq0 (a b:Rat):sgn (a-b).num=zh8 a b:=by
 unfold sgn zh8
 by_cases h1:a<b
 ·rw [if_pos ((ziT _).2 (by grind)),if_pos h1]
 ·rw [if_neg (fun e=>h1 (by have:=(ziT _).1 e;grind)),if_neg h1]
  by_cases h2:a=b
  ·subst h2;rw [if_pos (by rw [Rat.sub_self];rfl),if_pos rfl]
  ·rw [if_neg (fun e=>h2 (by have:=Rat.num_eq_zero.1 e;grind)),if_neg h2]
theorem zdD (a b:Rat):zh8 a b<0↔a<b:=by
 unfold zh8
 by_cases h1:a<b
 ·simp [h1]
 ·rw [if_neg h1];split<;>simp [h1]
abbrev stT (x y s:List Nat):AV:= .agg [.str x,.str y,.str s]
def zg3 (hs h:Rat):Bool:=decide (hs=0)||decide (h<hs)
def zaE (hs h:Rat):Rat:=if hs=0 then 1 else 1-h/hs
def zel (hs t:Rat):Rat:=(hs-t*zdJ)⁻¹-(hs+t*zdJ)⁻¹
section
variable {P:zP} {L:Lib}
theorem zJt (h:Sr P L) {x y:List Nat} {hs hh:Rat} {K M:Nat} (ks:Hq K hs) (kh:Hq M hh) (hK:K+M+1≤8000000000):zn P L 309 [stT x y (RT hs),.str (RT hh)] (.bool (zg3 hs hh)):=by
 have e1:=zHe h kh ks (by omega)
 have e0:=zpX hs
 rw [zq0] at e1
 unfold zn at e1 ⊢;rw [zc h.h309]
 unfold zg3
 by_cases h0:hs=0
 ·rw [decide_eq_true h0] at e0
  rw [decide_eq_true h0]
  simp only [go_sem,reduceEqDiff,reduceAdd,zxz,zg,zj,Nat.zero_add,show List.drop 2 [AV.str x,.str y,.str (RT hs)]=[.str (RT hs)] from rfl,zaS,e0,Bool.true_or]
 ·rw [decide_eq_false h0] at e0
  rw [decide_eq_false h0]
  by_cases h1:hh<hs
  ·rw [decide_eq_true h1]
   have:=(zdD hh hs).2 h1
   simp only [go_sem,reduceEqDiff,reduceAdd,zxz,zg,zj,Nat.zero_add,show List.drop 2 [AV.str x,.str y,.str (RT hs)]=[.str (RT hs)] from rfl,zaS,e0,e1,this,decide_true,Bool.false_or]
  ·rw [decide_eq_false h1]
   have:¬zh8 hh hs<0:=fun e=>h1 ((zdD hh hs).1 e)
   simp only [go_sem,reduceEqDiff,reduceAdd,zxz,zg,zj,Nat.zero_add,show List.drop 2 [AV.str x,.str y,.str (RT hs)]=[.str (RT hs)] from rfl,zaS,e0,e1,this,decide_false,Bool.false_or]
theorem zir {hs hh:Rat} {K M:Nat} (ks:Hq K hs) (kh:Hq M hh):Hq (K+M+3) (zaE hs hh):=by
 unfold zaE
 split
 ·exact Hq_1.mono (by omega)
 ·exact (Hq_1.sub (kh.div ks)).mono (by omega)
theorem zJh (h:Sr P L) {dx dy hs hh x y:Rat} {K:Nat} (kdx:Hq K dx) (kdy:Hq K dy) (ks:Hq K hs) (kh:Hq K hh) (kx:Hq K x) (ky:Hq K y) (hK:K≤100000000):
  zn P L 311 [stT (RT dx) (RT dy) (RT hs),.str (RT hh),plV x y] (plV (zaE hs hh*x+hh*dx) (zaE hs hh*y+hh*dy)):=by
 have ksh:=zir ks kh
 have e0:=zpX hs
 have e3:=zGO h ksh kx ky (by omega)
 have e4:=zCY h (ksh.mul kx) (ksh.mul ky) kh kdx kdy (by omega)
 unfold zn at e3 e4 ⊢;rw [zc h.h311]
 by_cases h0:hs=0
 ·rw [decide_eq_true h0] at e0
  have hsh:zaE hs hh=1:=by unfold zaE;rw [if_pos h0]
  rw [hsh] at e3 e4 ⊢
  rw [zG2] at e3
  simp only [go_sem,reduceEqDiff,reduceAdd,zAu,zi,zg,zj,Nat.zero_add,show List.drop 2 [AV.str (RT dx),.str (RT dy),.str (RT hs)]=[.str (RT hs)] from rfl,zdY,e0,Bool.not_true,zay,e3,e4,zk,zas]
  rfl
 ·rw [decide_eq_false h0] at e0
  have hsh:zaE hs hh=1-hh/hs:=by unfold zaE;rw [if_neg h0]
  have e1:=zGw h.toRn kh ks (by omega) h0
  have e2:=zry h.toRn Hq_1 (kh.div ks) (by omega)
  rw [←hsh,zG2] at e2
  unfold zn at e1 e2
  simp only [go_sem,reduceEqDiff,reduceAdd,zAu,zi,zg,zj,Nat.zero_add,show List.drop 2 [AV.str (RT dx),.str (RT dy),.str (RT hs)]=[.str (RT hs)] from rfl,zdY,e0,Bool.not_false,e1,e2,zay,e3,e4,zk,zas]
  rfl
theorem zJc (h:Sr P L) {x y s:List Nat} {hs:Rat} {K:Nat} (hl:s.length≤1000000000) (ks:Hq K hs) (hK:K≤100000000):
  zn P L 312 [stT x y (RT hs),.str s] (zf (if zcn s 0=0 then (if zt s<2*hs then 0 else 3) else zcn s 0)):=by
 have e1:=zHO h hl 0
 unfold zn at e1 ⊢;rw [zc h.h312]
 by_cases h0:zcn s 0=0
 ·obtain ⟨hc,_⟩:=zga h0
  obtain ⟨hR,_⟩:=zaK hc
  have kr:=zan hc (Nat.le_refl 2400)
  have e2:=znu h.toRn Hq_2 ks (by omega)
  have e3:=zHe h kr (Hq_2.mul ks) (by omega)
  rw [zq0,←hR] at e3
  rw [zIO] at e2
  rw [h0] at e1
  unfold zn at e2 e3
  rw [if_pos h0]
  by_cases h1:zt s<2*hs
  ·rw [if_pos h1]
   have:=(zdD (zt s) (2*hs)).2 h1
   simp only [go_sem,reduceEqDiff,reduceAdd,zwM,zg,e1,decide_true,zj,Nat.zero_add,show List.drop 2 [AV.str x,.str y,.str (RT hs)]=[.str (RT hs)] from rfl,e2,e3,show ¬(0:Int)≤zh8 (zt s) (2*hs) by omega]
  ·rw [if_neg h1]
   have:¬zh8 (zt s) (2*hs)<0:=fun e=>h1 ((zdD _ _).1 e)
   simp only [go_sem,reduceEqDiff,reduceAdd,zwM,zg,e1,decide_true,zj,Nat.zero_add,show List.drop 2 [AV.str x,.str y,.str (RT hs)]=[.str (RT hs)] from rfl,e2,e3,show (0:Int)≤zh8 (zt s) (2*hs) by omega]
 ·rw [if_neg h0]
  simp only [go_sem,reduceEqDiff,reduceAdd,zwM,zg,e1,h0,decide_false]
theorem zJK (h:Sr P L) {dx dy:List Nat} {hs t lx ly x y:Rat} {K:Nat} (ks:Hq K hs) (kt:Hq K t) (klx:Hq K lx) (kly:Hq K ly) (kx:Hq K x) (ky:Hq K y) (hK:K≤100000000) (h1:hs-t*zdJ≠0) (h2:hs+t*zdJ≠0):
  zn P L 313 [stT dx dy (RT hs),.str (RT t),plV lx ly,plV x y] (plV (zel hs t*(x+ -1*lx)) (zel hs t*(y+ -1*ly))):=by
 have kh:=kt.mul zzS
 have e1:=zJN h kt (by omega)
 have e2:=zry h.toRn ks kh (by omega)
 have e3:=zw3 h.toRn (ks.sub kh) (by omega) h1
 have e4:=zqQ h.toRn ks kh (by omega)
 have e5:=zw3 h.toRn (ks.add kh) (by omega) h2
 have ke:=(ks.sub kh).inv.sub (ks.add kh).inv
 have e6:=zry h.toRn (ks.sub kh).inv (ks.add kh).inv (by omega)
 have kpx:=kx.add (Hq_m1.mul klx)
 have kpy:=ky.add (Hq_m1.mul kly)
 have e7:=zCY h kx ky Hq_m1 klx kly (by omega)
 have e8:=zGO h ke kpx kpy (by omega)
 rw [zHf] at e7
 unfold zel
 unfold zn at e1 e2 e3 e4 e5 e6 e7 e8 ⊢;rw [zc h.h313]
 simp only [go_sem,reduceEqDiff,reduceAdd,zFl,zi,zg,zj,Nat.zero_add,show List.drop 2 [AV.str dx,.str dy,.str (RT hs)]=[.str (RT hs)] from rfl,e1,e2,e3,e4,e5,e6,zay,e7,e8,zk,zas]
 rfl
end
end VE
end
section
namespace VE
open Go (IntKind)
theorem zwA (a b c d:List Nat):zeo (.ag [2,2]) (plT a b) (plT c d)=some (eqL a c&&eqL b d):=by
 show z6 [2,2] [.str a,.str b] [.str c,.str d]=_
 simp only [z6]
 cases eqL a c<;>cases eqL b d<;>rfl
section
variable {P:zP} {L:Lib}
theorem zeS (h:Sr P L) {bad:Int} (h0:bad≠0) (x y:List Nat):zn P L 310 [plT [] [],zf bad,zf bad,plT x y] (.bool true):=by
 unfold zn;rw [zc h.h310]
 simp only [go_sem,reduceEqDiff,reduceAdd,zvj,zg,h0,decide_false,Bool.not_false,zay,zwA,zaf,show eqL [] []=true from rfl,Bool.and_self,decide_true]
theorem zqN (h:Sr P L) {a b:Rat} {K:Nat} (ka:Hq K a) (kb:Hq K b) (hK:K≤4000000000) (hg:(LG a||LG b)=false):zn P L 310 [plV a b,zf 0,zf 0,plV a b] (.bool true):=by
 have e1:=zCm h.toRn h.h316 (l:=[a,b]) (zhe true [RT a,RT b]) (by simp) (K:=K) (fun r hr=>by simp at hr;rcases hr with rfl | rfl<;>assumption) hK
 have:[a,b].any LG=false:=by simpa using hg
 rw [this] at e1
 simp only [List.length_cons,List.length_nil,Nat.zero_add,reduceAdd,List.map_cons,List.map_nil,Bool.false_eq_true,if_false] at e1
 have e2:=zhs (RT a)
 have e3:=zhs (RT b)
 unfold zn at e1 ⊢;rw [zc h.h310]
 simp only [go_sem,reduceEqDiff,reduceAdd,reduceLT,reduceLeDiff,Nat.mul_one,zvj,zg,decide_true,Bool.not_true,zj,Nat.zero_add,z7,e1,zay,zwA,zaf,e2,e3,Bool.and_self]
theorem znS (h:Sr P L) {a b:Rat} {K:Nat} (ka:Hq K a) (kb:Hq K b) (hK:K≤4000000000) (hg:(LG a||LG b)=true):zn P L 310 [plT [] [],zf 4,zf 0,plV a b] (.bool true):=by
 have e1:=zCm h.toRn h.h316 (l:=[a,b]) (zhe true [RT a,RT b]) (by simp) (K:=K) (fun r hr=>by simp at hr;rcases hr with rfl | rfl<;>assumption) hK
 have:[a,b].any LG=true:=by simpa using hg
 rw [this] at e1
 simp only [List.length_cons,List.length_nil,Nat.zero_add,reduceAdd,List.map_cons,List.map_nil,if_true] at e1
 unfold zn at e1 ⊢;rw [zc h.h310]
 simp only [go_sem,reduceEqDiff,reduceAdd,reduceLT,reduceLeDiff,Nat.mul_one,zvj,zg,decide_true,zj,Nat.zero_add,z7,e1,show ¬(4:Int)=0 by decide,decide_false,Bool.not_false,zay,zwA,zaf,show eqL [] []=true from rfl,Bool.and_self]
end
end VE
end
