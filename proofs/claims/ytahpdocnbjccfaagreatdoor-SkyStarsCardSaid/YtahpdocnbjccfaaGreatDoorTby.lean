import Derived.Test.YtahpdocnbjccfaaGreatDoorTbw
import Derived.Test.YtahpdocnbjccfaaGreatDoorTbx
import Derived.Test.YtahpdocnbjccfaaGreatDoorTbl
import Derived.Test.YtahpdocnbjccfaaGreatDoorTbo
import Derived.Test.YtahpdocnbjccfaaGreatDoorTax
import Derived.Test.YtahpdocnbjccfaaGreatDoorTbn
set_option linter.all false
set_option maxRecDepth 100000
open Nat (reduceAdd reduceEqDiff reduceLT reduceLeDiff)
section
namespace VE
open Go (IntKind)
structure zjs (P:zP) (L:Lib):Prop where
 r:Sr P L
 p:Ss P L
 h303:Has P L 303 c303
 awake:zn P L 1 [] (.bool true)
section
variable {P:zP} {L:Lib}
theorem zz2 (h:zjs P L) {dx dy s x y gh gt lx ly:List Nat} {fr:Int} (l1:dx.length≤40) (l2:dy.length≤40) (l3:s.length≤40) (l4:x.length≤40) (l5:y.length≤40) (l6:gh.length≤40) (l7:gt.length≤40) (l8:lx.length≤40) (l9:ly.length≤40)
  {tm:Env} {a b:AV} {o2 o5:Obj} (t2:zd tm 2= .ptr 0 0) (t3:zd tm 3= .ptr 1 0) (t5:zd tm 5= .ptr 3 0) (t6:zd tm 6=zf (zdM dx dy s)):
  zdl [.t 4] (D P L (zo (zo (zo (zo (zo (zo (zo (zo (zo c303.body))))))))) ⟨tm,[(5,o5),(4,.cells true true true 2 [a,b]),(3,.cells true true true 3 [.str dx,.str dy,.str s]),(2,o2),(1,.cells true true true 4 [.str gh,.str gt,.str lx,.str ly]),(0,.cells true true true 6 [.str dx,.str dy,.str s,.str x,.str y,zf fr])],6,0⟩)=some (.bool true):=by
 have e1:=m25 h.p (dx:=dx) (dy:=dy) (s:=s) (t:=gt) (lx:=lx) (ly:=ly) (x:=x) (y:=y) (by omega) (by omega) (by omega) (by omega) (by omega) (by omega) (by omega) (by omega)
 have w1:=fun b=>s13 h.r.h13 b 13
 unfold zvO at e1
 have dr3:List.drop 3 [AV.str dx,.str dy,.str s,.str x,.str y,zf fr]=[.str x,.str y,zf fr]:=rfl
 have dr2:List.drop 2 [AV.str gh,.str gt,.str lx,.str ly]=[.str lx,.str ly]:=rfl
 have dr4:List.drop 4 [AV.str dx,.str dy,.str s,.str x,.str y,zf fr]=[.str y,zf fr]:=rfl
 have dr3':List.drop 3 [AV.str gh,.str gt,.str lx,.str ly]=[.str ly]:=rfl
 by_cases h0:zdM dx dy s=0
 ·obtain ⟨a1,a2,a3,a3'⟩:=zhR h0
  rw [h0] at t6
  cases hnat:eqL s [48] with
  | true=>
   have hE:zee dx dy s gt=13:=by
    unfold zee;rw [hnat];simp only [zG];rw [if_pos h0];simp
   rw [hE,if_pos (by decide)] at e1
   have w2:=w1 true
   simp only [if_true] at w2
   have e2:=zeS h.r (bad:=13) (by decide) [] []
   unfold zn at e1 e2 w2
   simp only [go_sem,reduceEqDiff,reduceAdd,c303,zo,t2,t3,t5,t6,zj,Nat.zero_add,z7,zay,za5,dr3,dr2,zcs,zi,zg,zas,decide_true,decide_false,Bool.not_false,e1,zaS,hnat,w2,show ¬(13:Int)=0 by decide,e2]
  | false=>
   have w2:=w1 false
   simp only [Bool.false_eq_true,if_false] at w2
   have ks:=zan a3 (Nat.le_refl 2400)
   have e3:=zJc h.r (x:=dx) (y:=dy) (s:=gt) (hs:=zt s) (by omega) ks (by omega)
   rw [←(zaK a3).1] at e3
   have e4:=zz6 h.r (x:=lx) (y:=ly) (by omega) (by omega)
   have e5:=zz6 h.r (x:=x) (y:=y) (by omega) (by omega)
   have e6:=fun n:Int=>s11 h.r.h11 h.r.h42 (zaY true [n,zG [chk lx,chk ly],zG [chk x,chk y]]) (by simp)
   simp only [List.length_cons,List.length_nil,Nat.zero_add,reduceAdd,List.map_cons,List.map_nil] at e6
   have hE:zee dx dy s gt=zcn gt 0:=by
    unfold zee;rw [hnat];simp only [zG]
    rw [if_pos h0,if_pos (by simp)]
    by_cases hq:zcn gt 0=0
    ·rw [if_pos hq,hq]
    ·rw [if_neg hq]
   rw [hE] at e1
   by_cases h1:zcn gt 0=0
   ·rw [if_neg (by simp [h1])] at e1
    rw [if_pos h1] at e3
    obtain ⟨a4,a4'⟩:=zga h1
    have e7:=e6 (if zt gt<2*zt s then 0 else 3)
    rw [show zG [if zt gt<2*zt s then 0 else 3,zG [chk lx,chk ly],zG [chk x,chk y]]=ziB s gt lx ly x y from rfl] at e7
    by_cases h2:ziB s gt lx ly x y=0
    ·rw [if_neg (by simp [h2])] at e1
     rw [h2] at e7
     obtain ⟨i1,i2,i3⟩:=firstI3.1 h2
     obtain ⟨j1,j2⟩:=firstI2.1 i2
     obtain ⟨j3,j4⟩:=firstI2.1 i3
     have hlt:zt gt<2*zt s:=by
      by_cases hl:zt gt<2*zt s
      ·exact hl
      ·rw [if_neg hl] at i1;exact absurd i1 (by decide)
     have hs0:zt s≠0:=by
      have:=zmR a3
      rw [hnat] at this
      exact of_decide_eq_false this.symm
     obtain ⟨n1,n2⟩:=zrS hs0 (zfy a3') (zfy a4') hlt
     have kt:=zan a4 (Nat.le_refl 2400)
     have klx:=zan j1 (Nat.le_refl 2400)
     have kly:=zan j2 (Nat.le_refl 2400)
     have kx:=zan j3 (Nat.le_refl 2400)
     have ky:=zan j4 (Nat.le_refl 2400)
     have e8:=zJK h.r (dx:=dx) (dy:=dy) ks kt klx kly kx ky (by omega) n1 n2
     unfold plV at e8
     rw [←(zaK a3).1,←(zaK a4).1,←(zaK j1).1,←(zaK j2).1,←(zaK j3).1,←(zaK j4).1] at e8
     rw [i1,i2,i3] at e7
     rw [i1] at e3
     rw [i2] at e4
     rw [i3] at e5
     have kel:=zoS ks kt
     have kX:=kel.mul (zgg kx klx)
     have kY:=kel.mul (zgg ky kly)
     unfold ztA at e1
     unfold zn at e3 e4 e5 e7 e8 w2
     cases hL:(LG (zel (zt s) (zt gt)*(zt x+ -1*zt lx))||LG (zel (zt s) (zt gt)*(zt y+ -1*zt ly))) with
     | true=>
      rw [hL,if_pos rfl] at e1
      have e9:=znS h.r kX kY (by omega) hL
      unfold zn at e1 e9
      simp only [go_sem,reduceEqDiff,reduceAdd,reduceLT,reduceLeDiff,Nat.mul_one,c303,zo,t2,t3,t5,t6,zj,Nat.zero_add,z7,zay,za5,dr3,dr2,zcs,zi,zg,zas,decide_true,Bool.not_true,e1,zaS,hnat,w2,e3,e4,e5,e7,e8,zk,e9]
     | false=>
      rw [hL,if_neg (by decide)] at e1
      have e9:=zqN h.r kX kY (by omega) hL
      unfold zn at e1 e9
      simp only [go_sem,reduceEqDiff,reduceAdd,reduceLT,reduceLeDiff,Nat.mul_one,c303,zo,t2,t3,t5,t6,zj,Nat.zero_add,z7,zay,za5,dr3,dr2,zcs,zi,zg,zas,decide_true,Bool.not_true,e1,zaS,hnat,w2,e3,e4,e5,e7,e8,zk,e9]
    ·rw [if_pos h2] at e1
     have e2:=zeS h.r h2 [] []
     unfold zn at e1 e2 e3 e4 e5 e7 w2
     simp only [go_sem,reduceEqDiff,reduceAdd,reduceLT,reduceLeDiff,Nat.mul_one,c303,zo,t2,t3,t5,t6,zj,Nat.zero_add,z7,zay,za5,dr3,dr2,zcs,zi,zg,zas,decide_true,decide_false,Bool.not_false,e1,zaS,hnat,w2,e3,e4,e5,e7,h2,e2]
   ·rw [if_pos h1] at e1
    rw [if_neg h1] at e3
    have e7:=e6 (zcn gt 0)
    rw [show zG [zcn gt 0,zG [chk lx,chk ly],zG [chk x,chk y]]=zcn gt 0 by simp only [zG];rw [if_neg h1]] at e7
    have e2:=zeS h.r h1 [] []
    unfold zn at e1 e2 e3 e4 e5 e7 w2
    simp only [go_sem,reduceEqDiff,reduceAdd,reduceLT,reduceLeDiff,Nat.mul_one,c303,zo,t2,t3,t5,t6,zj,Nat.zero_add,z7,zay,za5,dr3,dr2,zcs,zi,zg,zas,decide_true,decide_false,Bool.not_false,e1,zaS,hnat,w2,e3,e4,e5,e7,h1,e2]
 ·have hE:zee dx dy s gt=zdM dx dy s:=by
   unfold zee;simp only [zG];rw [if_neg h0]
  rw [hE,if_pos h0] at e1
  have e2:=zeS h.r h0 [] []
  unfold zn at e1 e2
  simp only [go_sem,reduceEqDiff,reduceAdd,c303,zo,t2,t3,t6,zj,Nat.zero_add,z7,zay,za5,dr3,dr2,zi,e1,zg,zas,h0,decide_false,Bool.not_false,e2]
theorem zq8 (hp:Hp) (ct id:Nat) (a b c:List Nat) (x y z:AV):stC hp ct id 0 3 [.str a,.str b,.str c] (some (.cells true true true 3 [x,y,z]))=some (.tup [],zac hp id (.cells true true true 3 [.str a,.str b,.str c]),ct):=by
 rw [zlZ (by rfl) (by simp) (by rfl)];rfl
theorem zEM {a b c:List Nat} (h:zez [a,b,c]=true):a.length≤40∧b.length≤40∧c.length≤40:=by
 simp only [zez,List.all_cons,List.all_nil,Bool.and_true,Bool.and_eq_true,decide_eq_true_eq] at h
 exact h
theorem zEY {a b c d e f:List Nat} (h:zez [a,b,c,d,e,f]=true):a.length≤40∧b.length≤40∧c.length≤40∧d.length≤40∧e.length≤40∧f.length≤40:=by
 simp only [zez,List.all_cons,List.all_nil,Bool.and_true,Bool.and_eq_true,decide_eq_true_eq] at h
 exact h
theorem zs4 (h:zjs P L) {dx dy s x y gh gt lx ly:List Nat} {fr:Int} (b1:dx.length<9223372036854775808) (b2:dy.length<9223372036854775808) (b3:s.length<9223372036854775808) (b4:x.length<9223372036854775808) (b5:y.length<9223372036854775808) (b6:gh.length<9223372036854775808) (b7:gt.length<9223372036854775808) (b8:lx.length<9223372036854775808) (b9:ly.length<9223372036854775808):
  zn P L 303 [.agg [.str dx,.str dy,.str s,.str x,.str y,zf fr],.agg [.str gh,.str gt,.str lx,.str ly]] (.bool true):=by
 have ea:=h.awake
 have eg1:=zJY h.r b1 b2 b3
 have eg2:=zGU h.r.h305 (zhe true [x,y,gh,gt,lx,ly]) (by simp) (fun t ht=>by
  simp at ht
  rcases ht with rfl | rfl | rfl | rfl | rfl | rfl<;>omega)
 simp only [List.length_cons,List.length_nil,Nat.zero_add,reduceAdd,List.map_cons,List.map_nil] at eg2
 have dr3:List.drop 3 [AV.str dx,.str dy,.str s,.str x,.str y,zf fr]=[.str x,.str y,zf fr]:=rfl
 have dr2:List.drop 2 [AV.str gh,.str gt,.str lx,.str ly]=[.str lx,.str ly]:=rfl
 have dr4:List.drop 4 [AV.str dx,.str dy,.str s,.str x,.str y,zf fr]=[.str y,zf fr]:=rfl
 have dr3':List.drop 3 [AV.str gh,.str gt,.str lx,.str ly]=[.str ly]:=rfl
 unfold zn at ea eg1 eg2
 cases hb1:zez [dx,dy,s] with
 | false=>
  rw [hb1] at eg1
  unfold zn;rw [zc h.h303]
  simp only [go_sem,reduceEqDiff,reduceAdd,c303,zj,Nat.zero_add,za5,zi,zg,ea,Bool.not_true,eg1,Bool.not_false]
 | true=>
  rw [hb1] at eg1
  cases hb2:zez [x,y,gh,gt,lx,ly] with
  | false=>
   rw [hb2] at eg2
   unfold zn;rw [zc h.h303]
   simp only [go_sem,reduceEqDiff,reduceAdd,reduceLT,reduceLeDiff,Nat.mul_one,c303,zj,Nat.zero_add,z7,za5,dr3,dr2,dr4,dr3',zi,zg,ea,Bool.not_true,eg1,eg2,Bool.not_false]
  | true=>
   rw [hb2] at eg2
   obtain ⟨l1,l2,l3⟩:=zEM hb1
   obtain ⟨l4,l5,l6,l7,l8,l9⟩:=zEY hb2
   have eb:=zJe h.r (x:=dx) (y:=dy) (s:=s) (by omega) (by omega) (by omega)
   have ep:=m60 h.p.toSp (x:=dx) (y:=dy) (s:=s) (by omega) (by omega) (by omega)
   rw [show zG [zG [chk dx,chk dy],zcn s 0]=zdM dx dy s from rfl] at eb ep
   have e1:=m22 h.p (dx:=dx) (dy:=dy) (s:=s) (hh:=gh) (x:=x) (y:=y) (by omega) (by omega) (by omega) (by omega) (by omega) (by omega)
   have e2:=zH8 h.r (s:=gh) (by omega)
   have e3:=zz6 h.r (x:=x) (y:=y) (by omega) (by omega)
   have e4:=s11 h.r.h11 h.r.h42 (zaY true [zdM dx dy s,zcn gh 0,zG [chk x,chk y]]) (by simp)
   simp only [List.length_cons,List.length_nil,Nat.zero_add,reduceAdd,List.map_cons,List.map_nil] at e4
   rw [show zG [zdM dx dy s,zcn gh 0,zG [chk x,chk y]]=zl4 dx dy s gh x y from rfl] at e4
   have fin:∀(tm:Env) (a b:AV) (o2 o5:Obj),zd tm 2= .ptr 0 0→zd tm 3= .ptr 1 0→zd tm 5= .ptr 3 0→zd tm 6=zf (zdM dx dy s)→
     D P L (zjc 8 c303.body) ⟨[(0,.agg [.str dx,.str dy,.str s,.str x,.str y,zf fr]),(1,.agg [.str gh,.str gt,.str lx,.str ly])],[],0,0⟩=some (.normal,⟨tm,[(5,o5),(4,.cells true true true 2 [a,b]),(3,.cells true true true 3 [.str dx,.str dy,.str s]),(2,o2),(1,.cells true true true 4 [.str gh,.str gt,.str lx,.str ly]),(0,.cells true true true 6 [.str dx,.str dy,.str s,.str x,.str y,zf fr])],6,0⟩)→
     zn P L 303 [.agg [.str dx,.str dy,.str s,.str x,.str y,zf fr],.agg [.str gh,.str gt,.str lx,.str ly]] (.bool true):=fun tm a b o2 o5 t2 t3 t5 t6 e=>by
    unfold zn;rw [zc h.h303]
    show zdl [.t 4] (D P L c303.body ⟨[(0,.agg [.str dx,.str dy,.str s,.str x,.str y,zf fr]),(1,.agg [.str gh,.str gt,.str lx,.str ly])],[],0,0⟩)=_
    rw [zrk 8 (c:=c303.body) (by refine ⟨rfl,rfl,rfl,rfl,rfl,rfl,rfl,rfl,?_⟩;show _=_;rfl),e,zaB]
    exact zz2 h l1 l2 l3 l4 l5 l6 l7 l8 l9 t2 t3 t5 t6
   unfold zuf at e1
   unfold zn at eb ep
   by_cases h0:zl4 dx dy s gh x y=0
   ·rw [if_neg (by simp [h0])] at e1
    rw [h0] at e4
    obtain ⟨f1,f2,f3⟩:=firstI3.1 h0
    obtain ⟨a1,a2,a3,_⟩:=zhR f1
    obtain ⟨a4,_⟩:=zga f2
    obtain ⟨a5,a6⟩:=firstI2.1 f3
    have kh:=zan a4 (Nat.le_refl 2400)
    have ks:=zan a3 (Nat.le_refl 2400)
    have kdx:=zan a1 (Nat.le_refl 2400)
    have kdy:=zan a2 (Nat.le_refl 2400)
    have kx:=zan a5 (Nat.le_refl 2400)
    have ky:=zan a6 (Nat.le_refl 2400)
    have e5:=zJt h.r (x:=dx) (y:=dy) ks kh (by omega)
    rw [←(zaK a3).1,←(zaK a4).1] at e5
    rw [f1] at eb ep
    rw [f2] at e2
    rw [f3] at e3
    rw [f1,f2,f3] at e4
    cases hbl:zg3 (zt s) (zt gh) with
    | false=>
     rw [hbl,if_pos rfl] at e1
     rw [hbl] at e5
     have e6:=zeS h.r (bad:=31) (by decide) [] []
     unfold zn at e1 e2 e3 e4 e5 e6
     refine fin _ _ _ _ _ ?_ ?_ ?_ ?_ (by simp only [go_sem,reduceEqDiff,reduceAdd,reduceLT,reduceLeDiff,Nat.mul_one,c303,zjc,zag,zo,zj,Nat.zero_add,z7,zay,za5,dr3,dr2,dr4,dr3',zi,zg,zas,zq8,decide_true,decide_false,Bool.not_false,Bool.not_true,ea,eg1,eg2,eb,ep,e1,e2,e3,e4,e5,show ¬(31:Int)=0 by decide,e6]<;>rfl)<;>simp only [go_sem,reduceEqDiff,f1]
    | true=>
     rw [hbl,if_neg (by decide)] at e1
     rw [hbl] at e5
     have e6:=zJh h.r kdx kdy ks kh kx ky (by omega)
     unfold plV at e6
     rw [←(zaK a1).1,←(zaK a2).1,←(zaK a3).1,←(zaK a4).1,←(zaK a5).1,←(zaK a6).1] at e6
     have kX:=zjq ks kh kx kdx
     have kY:=zjq ks kh ky kdy
     unfold ztA at e1
     unfold zn at e2 e3 e4 e5 e6
     cases hL:(LG (zaE (zt s) (zt gh)*zt x+zt gh*zt dx)||LG (zaE (zt s) (zt gh)*zt y+zt gh*zt dy)) with
     | true=>
      rw [hL,if_pos rfl] at e1
      have e9:=znS h.r kX kY (by omega) hL
      unfold zn at e1 e9
      refine fin _ _ _ _ _ ?_ ?_ ?_ ?_ (by simp only [go_sem,reduceEqDiff,reduceAdd,reduceLT,reduceLeDiff,Nat.mul_one,c303,zjc,zag,zo,zj,Nat.zero_add,z7,zay,za5,dr3,dr2,dr4,dr3',zi,zg,zas,zq8,decide_true,Bool.not_true,ea,eg1,eg2,eb,ep,e1,e2,e3,e4,e5,e6,zk,e9]<;>rfl)<;>simp only [go_sem,reduceEqDiff,f1]
     | false=>
      rw [hL,if_neg (by decide)] at e1
      have e9:=zqN h.r kX kY (by omega) hL
      unfold zn at e1 e9
      refine fin _ _ _ _ _ ?_ ?_ ?_ ?_ (by simp only [go_sem,reduceEqDiff,reduceAdd,reduceLT,reduceLeDiff,Nat.mul_one,c303,zjc,zag,zo,zj,Nat.zero_add,z7,zay,za5,dr3,dr2,dr4,dr3',zi,zg,zas,zq8,decide_true,Bool.not_true,ea,eg1,eg2,eb,ep,e1,e2,e3,e4,e5,e6,zk,e9]<;>rfl)<;>simp only [go_sem,reduceEqDiff,f1]
   ·rw [if_pos h0] at e1
    have e5:=zeS h.r h0 [] []
    unfold zn at e1 e2 e3 e4 e5
    refine fin _ _ _ _ _ ?_ ?_ ?_ ?_ (by simp only [go_sem,reduceEqDiff,reduceAdd,reduceLT,reduceLeDiff,Nat.mul_one,c303,zjc,zag,zo,zj,Nat.zero_add,z7,zay,za5,dr3,dr2,dr4,dr3',zi,zg,zas,zq8,decide_true,decide_false,Bool.not_false,Bool.not_true,ea,eg1,eg2,eb,ep,e1,e2,e3,e4,h0,e5]<;>rfl)<;>simp only [go_sem,reduceEqDiff]
end
end VE
end
section
namespace VE
open Go (IntKind)
abbrev zng:Ty:= .cat .str (.cat .str .nil)
abbrev zCl:Ty:= .cat zng (.cat .str .nil)
abbrev zJO:Ty:= .cat zCl (.cat zng (.cat (.int .i64) .nil))
abbrev zHo:Ty:= .cat .str (.cat .str (.cat zng .nil))
theorem zif {l:List AV} (h:Shp zng l):∃x y:List Nat,l=[.str x,.str y]∧x.length<9223372036854775808∧y.length<9223372036854775808:=by
 obtain ⟨_,_,rfl,⟨x,rfl,hx,_⟩,_,_,rfl,⟨y,rfl,hy,_⟩,rfl⟩:=h
 exact ⟨x,y,rfl,hx,hy⟩
theorem zuK {l:List AV} (h:Shp zCl l):∃x y s:List Nat,l=[.str x,.str y,.str s]∧x.length<9223372036854775808∧y.length<9223372036854775808∧s.length<9223372036854775808:=by
 obtain ⟨_,_,rfl,h1,_,_,rfl,⟨s,rfl,hs,_⟩,rfl⟩:=h
 obtain ⟨x,y,rfl,hx,hy⟩:=zif h1
 exact ⟨x,y,s,rfl,hx,hy,hs⟩
abbrev starsT:List Ty:=[zJO,zHo]
theorem zpI {P:zP} {L:Lib} (h:zjs P L) {ls:List (List AV)} (hs:All2 Shp starsT ls):zn P L 303 (zon starsT ls) (.bool true):=by
 obtain ⟨_,_,rfl,ha,hb⟩:=zEJ hs
 obtain ⟨_,_,rfl,h1,_,_,rfl,h2,_,_,rfl,⟨fr,rfl,_⟩,rfl⟩:=ha
 obtain ⟨dx,dy,s,rfl,b1,b2,b3⟩:=zuK h1
 obtain ⟨x,y,rfl,b4,b5⟩:=zif h2
 obtain ⟨_,_,rfl,⟨gh,rfl,b6,_⟩,_,_,rfl,⟨gt,rfl,b7,_⟩,_,_,rfl,h3,rfl⟩:=hb
 obtain ⟨lx,ly,rfl,b8,b9⟩:=zif h3
 exact zs4 h b1 b2 b3 b4 b5 b6 b7 b8 b9
end VE
end
section
namespace VE
namespace J2
open Go Go.Proofs
def T:List (Tr Ent):=[.n 1 [.o 7 [] (.bool true)] .l .l]
def L0:VE.Lib:=zpK VE.lib 99 zjG
def L1:VE.Lib:=zyT L0 T 1000
theorem nu:Nu VE.prog VE.lib:=by
 repeat' (first | rfl | constructor)
theorem lw:zjs VE.prog L1:=by
 repeat' (first | rfl | constructor)
section
variable {W:World} {m:Int} (hm:W.cell? ⟨0,0,none⟩=some (.int .i64 m)) (ht:Go.Lib.TabIs Tryz.prog W "internal/strconv.uint64pow10" .u64 Go.Lib.pow10Tab)
include hm ht
theorem zEr:zav ((J1.Λ W).withLib L1):=by
 have hΛ:=J1.link_ok hm ht
 have hs:=ztx hΛ nu rfl rfl rfl ⟨rfl,rfl,rfl⟩ (fn:=Tryz.f137) (c:=znX) Tryz.func137 rfl rfl trivial zwU
 have hT:AllT (J1.Λ W) T:=AllT.cons (Tr.all_n (AllC.one (VK1.holds hΛ rfl rfl)) Tr.all_l Tr.all_l) AllT.nil
 exact zqL (zrX hΛ hs) hT 1000
theorem law {ls:List (List AV)} (hs:All2 Shp starsT ls):PureC (J1.Λ W) 303 (zon starsT ls) (.bool true):=by
 obtain ⟨k,hk⟩:=zxD (zpI lw hs)
 exact zxa (zEr hm ht) hk
end
end J2
end VE
end
