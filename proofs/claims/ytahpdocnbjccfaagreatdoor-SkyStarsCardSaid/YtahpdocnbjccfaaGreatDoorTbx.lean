import Derived.Test.YtahpdocnbjccfaaGreatDoorTbv
import Derived.Test.YtahpdocnbjccfaaGreatDoorTbw
set_option linter.all false
set_option maxRecDepth 100000
open Nat (reduceAdd reduceEqDiff reduceLT reduceLeDiff)
section
namespace VE
open Go (IntKind)
def IsP (v:AV) (a b:Rat):Prop:=∃s1 w1 s2 w2 s3 w3 s4 w4,v= .agg [zf s1,w1,zf s2,w2,zf s3,w3,zf s4,w4]∧Nok s1 w1 a.num∧Nok s2 w2 (a.den:Int)∧Nok s3 w3 b.num∧Nok s4 w4 (b.den:Int)
section
variable {s1 s2 s3 s4:Int} {w1 w2 w3 w4:AV} {l1 l2 l3 l4:List Nat}
theorem zo4 (h1:IsU w1 l1) (h2:IsU w2 l2) (h3:IsU w3 l3) (h4:IsU w4 l4) (hp:Hp) (ct id:Nat) (a b c d e f g h:AV):stC hp ct id 0 8 [.int .i64 s1,w1,.int .i64 s2,w2,.int .i64 s3,w3,.int .i64 s4,w4] (some (.cells true true true 8 [a,b,c,d,e,f,g,h]))=some (.tup [],zac hp id (.cells true true true 8 [.int .i64 s1,w1,.int .i64 s2,w2,.int .i64 s3,w3,.int .i64 s4,w4]),ct):=by
 rw [zlZ (by rfl) (by simp) (by simp [zL,h1.one,h2.one,h3.one,h4.one,znd])]
 simp [zu,h1.pu,h2.pu,h3.pu,h4.pu,zck,zpv]
theorem zor (h1:IsU w1 l1) (h2:IsU w2 l2) (h3:IsU w3 l3) (h4:IsU w4 l4) (hp:Hp):zaR hp (.agg [zf s1,w1,zf s2,w2,zf s3,w3,zf s4,w4])=some (.agg [zf s1,w1,zf s2,w2,zf s3,w3,zf s4,w4]):=by
 rcases h1 with ⟨rfl,_⟩ | ⟨e,rfl⟩<;>rcases h2 with ⟨rfl,_⟩ | ⟨e',rfl⟩<;>rcases h3 with ⟨rfl,_⟩ | ⟨e,rfl⟩<;>rcases h4 with ⟨rfl,_⟩ | ⟨e',rfl⟩<;>rfl
theorem zjm {tm:Env} {a b c d x y z w:AV} {x' y' z' w':AV} {r:List (Nat×Nat×X)} (h1:zX a=true) (h2:zX b=true) (h3:zX c=true) (h4:zX d=true):ze0 tm [x',y',z',w',x,y,z,w] 0 4 [a,b,c,d] r=fill tm [a,b,c,d,x,y,z,w] r:=by
 rw [zhG (by rfl) (by simp) (by simp [zL,h1,h2,h3,h4])];rfl
theorem zjl {tm:Env} {a b c d x y z w:AV} {x' y' z' w':AV} {r:List (Nat×Nat×X)} (h1:zX a=true) (h2:zX b=true) (h3:zX c=true) (h4:zX d=true):ze0 tm [x,y,z,w,x',y',z',w'] 4 4 [a,b,c,d] r=fill tm [x,y,z,w,a,b,c,d] r:=by
 rw [zhG (by rfl) (by simp) (by simp [zL,h1,h2,h3,h4])];rfl
theorem zyU {tm:Env} {a b x y z:AV} {r:List (Nat×Nat×X)} (h1:zX a=true) (h2:zX b=true):ze0 tm [x,y,z] 0 2 [a,b] r=fill tm [a,b,z] r:=by
 rw [zhG (by rfl) (by simp) (by simp [zL,h1,h2])];rfl
theorem ziH (a b c d e f g h:AV):ld1 8 true [a,b,c,d,e,f,g,h]=some (.agg [a,b,c,d,e,f,g,h]):=rfl
theorem zcj (a b c d:AV) (r:List AV):ld1 4 true (a::b::c::d::r)=some (.agg [a,b,c,d]):=rfl
theorem za5 (a b c:AV) (r:List AV):ld1 3 true (a::b::c::r)=some (.agg [a,b,c]):=rfl
theorem zhE (a b c d e f g h:AV):List.drop 4 [a,b,c,d,e,f,g,h]=[e,f,g,h]:=rfl
theorem zcs (a b c:AV):List.drop 2 [a,b,c]=[c]:=rfl
end
structure Sp (P:zP) (L:Lib):Prop extends Ck P L where
 h31:Has P L 31 c31
 h33:Has P L 33 c33
 h53:Has P L 53 c53
 h54:Has P L 54 c54
 h60:Has P L 60 c60
 h61:Has P L 61 c61
 h63:Has P L 63 c63
 h64:Has P L 64 c64
 h65:Has P L 65 c65
 h68:Has P L 68 c68
 h72:Has P L 72 c72
 h75:Has P L 75 c75
 h112:Has P L 112 zCJ
 h113:Has P L 113 zy7
 h114:Has P L 114 zEe
section
variable {P:zP} {L:Lib}
theorem m53 (h:Sp P L) {x y:List Nat} (hx:x.length≤1000000000) (hy:y.length≤1000000000):zn P L 53 [plT x y] (zf (zG [chk x,chk y])):=by
 have e1:=m86 h.toCk hx
 have e2:=m86 h.toCk hy
 have e3:=s33 h.h33 (zaY true [chk x,chk y]) (by simp)
 simp only [List.length_cons,List.length_nil,Nat.zero_add,reduceAdd,List.map_cons,List.map_nil] at e3
 unfold zn at e1 e2 ⊢;rw [zc h.h53]
 simp only [go_sem,reduceEqDiff,reduceAdd,reduceLT,reduceLeDiff,Nat.mul_one,c53,zg,zj,Nat.zero_add,z7,e1,e2,e3]
theorem zoZ (h:Sp P L) {s:List Nat} (h0:chk s=0):∃r,zn P L 62 [.str s] r∧IsQ r (zt s):=by
 obtain ⟨hR,_⟩:=zaK h0
 have kr:=zan h0 (Nat.le_refl 2400)
 have hl:=zj3 kr
 obtain ⟨r,e,hr⟩:=m62 h.toTx (a:=zt s) (by omega)
 rw [←hR] at e
 exact ⟨r,e,hr⟩
theorem m61 (h:Sp P L) {s:List Nat} (hl:s.length≤1000000000) (m:Int):zn P L 61 [.str s,zf m] (zf (zcn s m)):=by
 have e1:=m86 h.toCk hl
 unfold zn at e1 ⊢;rw [zc h.h61]
 unfold zcn
 by_cases h0:chk s=0
 ·obtain ⟨r,e2,hr⟩:=zoZ h h0
  have e3:=zIY h.toFr' hr
  obtain ⟨s1,w1,s2,w2,rfl,h1,h2⟩:=hr
  obtain ⟨l1,u1⟩:=h1.isU
  obtain ⟨l2,u2⟩:=h2.isU
  rw [h0] at e1
  rw [if_pos h0]
  have e4:=fun b=>s31 h.h31 b 3
  unfold zn at e2 e3 e4
  by_cases hm:sgn (zt s).num<m
  ·rw [if_pos hm]
   have e5:=e4 true
   simp only [if_true] at e5
   simp only [go_sem,reduceEqDiff,c61,e1,decide_true,Bool.not_true,e2,zk,zi,u1.frz,u2.frz,e3,hm,e5]
  ·rw [if_neg hm]
   have e5:=e4 false
   simp only [Bool.false_eq_true,if_false] at e5
   simp only [go_sem,reduceEqDiff,c61,e1,decide_true,Bool.not_true,e2,zk,zi,u1.frz,u2.frz,e3,hm,decide_false,e5]
 ·rw [if_neg h0]
  simp only [go_sem,reduceEqDiff,c61,e1,h0,decide_false,Bool.not_false]
theorem m60 (h:Sp P L) {x y s:List Nat} (hx:x.length≤1000000000) (hy:y.length≤1000000000) (hs:s.length≤1000000000):zn P L 60 [stT x y s] (zf (zG [zG [chk x,chk y],zcn s 0])):=by
 have e1:=m53 h hx hy
 have e2:=m61 h hs 0
 have e3:=s33 h.h33 (zaY true [zG [chk x,chk y],zcn s 0]) (by simp)
 simp only [List.length_cons,List.length_nil,Nat.zero_add,reduceAdd,List.map_cons,List.map_nil] at e3
 unfold zn at e1 e2 ⊢;rw [zc h.h60]
 simp only [go_sem,reduceEqDiff,reduceAdd,reduceLT,reduceLeDiff,Nat.mul_one,c60,zi,zg,zj,Nat.zero_add,zay,e1,e2,zcs,e3]
theorem zIf (a b c d e f:List Nat):zeo (.ag [2,2,2]) (stT a b c) (stT d e f)=some (eqL a d&&(eqL b e&&eqL c f)):=by
 show z6 [2,2,2] [.str a,.str b,.str c] [.str d,.str e,.str f]=_
 simp only [z6]
 cases eqL a d<;>cases eqL b e<;>cases eqL c f<;>rfl
theorem ztK (a:List Nat):eqL a a=true:=zjr rfl
theorem m68 (h:Sp P L) (x y s:List Nat):zn P L 68 [stT x y s] (.bool (eqL s [48])):=by
 unfold zn;rw [zc h.h68]
 simp only [go_sem,reduceEqDiff,reduceAdd,reduceLeDiff,c68,zg,zj,Nat.zero_add,zay,za5,zyU,zIf,zaf,ztK,Bool.true_and]
theorem m54 (h:Sp P L) {x y:List Nat} (hx:chk x=0) (hy:chk y=0):∃r,zn P L 54 [plT x y] r∧IsP r (zt x) (zt y):=by
 obtain ⟨p,e1,hp⟩:=zoZ h hx
 obtain ⟨q,e2,hq⟩:=zoZ h hy
 obtain ⟨s1,w1,s2,w2,rfl,h1,h2⟩:=hp
 obtain ⟨s3,w3,s4,w4,rfl,h3,h4⟩:=hq
 obtain ⟨l1,u1⟩:=h1.isU
 obtain ⟨l2,u2⟩:=h2.isU
 obtain ⟨l3,u3⟩:=h3.isU
 obtain ⟨l4,u4⟩:=h4.isU
 refine ⟨_,?_,s1,w1,s2,w2,s3,w3,s4,w4,rfl,h1,h2,h3,h4⟩
 unfold zn at e1 e2 ⊢;rw [zc h.h54]
 simp only [go_sem,reduceEqDiff,reduceAdd,c54,zg,zj,Nat.zero_add,z7,e1,e2,zk,u1.one,u2.one,u3.one,u4.one,zjm,zjl,zo4 u1 u2 u3 u4,zB,zad,List.drop_zero,ziH,zor u1 u2 u3 u4]
theorem m75 (h:Sp P L) {v w:AV} {a b t:Rat} {K:Nat} (hv:IsP v a b) (hw:IsQ w t) (ka:Hq K a) (kb:Hq K b) (kt:Hq K t) (hK:K≤10000000000):∃r,zn P L 75 [v,w] r∧IsP r (a*t) (b*t):=by
 obtain ⟨s1,w1,s2,w2,s3,w3,s4,w4,rfl,h1,h2,h3,h4⟩:=hv
 obtain ⟨p,e1,hp⟩:=m49 h.toFr' ⟨s1,w1,s2,w2,rfl,h1,h2⟩ hw ka kt hK
 obtain ⟨q,e2,hq⟩:=m49 h.toFr' ⟨s3,w3,s4,w4,rfl,h3,h4⟩ hw kb kt hK
 obtain ⟨s5,w5,s6,w6,rfl,h5,h6⟩:=hw
 obtain ⟨x1,y1,x2,y2,rfl,g1,g2⟩:=hp
 obtain ⟨x3,y3,x4,y4,rfl,g3,g4⟩:=hq
 obtain ⟨l1,u1⟩:=h1.isU
 obtain ⟨l2,u2⟩:=h2.isU
 obtain ⟨l3,u3⟩:=h3.isU
 obtain ⟨l4,u4⟩:=h4.isU
 obtain ⟨l5,u5⟩:=h5.isU
 obtain ⟨l6,u6⟩:=h6.isU
 obtain ⟨m1,v1⟩:=g1.isU
 obtain ⟨m2,v2⟩:=g2.isU
 obtain ⟨m3,v3⟩:=g3.isU
 obtain ⟨m4,v4⟩:=g4.isU
 refine ⟨_,?_,x1,y1,x2,y2,x3,y3,x4,y4,rfl,g1,g2,g3,g4⟩
 unfold zn at e1 e2 ⊢;rw [zc h.h75]
 simp only [go_sem,reduceEqDiff,reduceAdd,c75,zg,zj,Nat.zero_add,zhE,zcj,zi,u1.pu,u1.frz,u1.one,u2.pu,u2.frz,u2.one,u3.pu,u3.frz,u3.one,u4.pu,u4.frz,u4.one,u5.pu,u5.frz,u5.one,u6.pu,u6.frz,u6.one,v1.one,v2.one,v3.one,v4.one,e1,e2,zk,zjm,zjl,zo4 v1 v2 v3 v4,zB,zad,List.drop_zero,ziH,zor v1 v2 v3 v4]
theorem zJw (h:Sp P L) {v w:AV} {a b c d:Rat} {K:Nat} (hv:IsP v a b) (hw:IsP w c d) (ka:Hq K a) (kb:Hq K b) (kc:Hq K c) (kd:Hq K d) (hK:K≤10000000000):∃r,zn P L 112 [v,w] r∧IsP r (a+c) (b+d):=by
 obtain ⟨s1,w1,s2,w2,s3,w3,s4,w4,rfl,h1,h2,h3,h4⟩:=hv
 obtain ⟨s5,w5,s6,w6,s7,w7,s8,w8,rfl,h5,h6,h7,h8⟩:=hw
 obtain ⟨p,e1,hp⟩:=m74 h.toFr' ⟨s1,w1,s2,w2,rfl,h1,h2⟩ ⟨s5,w5,s6,w6,rfl,h5,h6⟩ ka kc hK
 obtain ⟨q,e2,hq⟩:=m74 h.toFr' ⟨s3,w3,s4,w4,rfl,h3,h4⟩ ⟨s7,w7,s8,w8,rfl,h7,h8⟩ kb kd hK
 obtain ⟨x1,y1,x2,y2,rfl,g1,g2⟩:=hp
 obtain ⟨x3,y3,x4,y4,rfl,g3,g4⟩:=hq
 obtain ⟨l1,u1⟩:=h1.isU
 obtain ⟨l2,u2⟩:=h2.isU
 obtain ⟨l3,u3⟩:=h3.isU
 obtain ⟨l4,u4⟩:=h4.isU
 obtain ⟨l5,u5⟩:=h5.isU
 obtain ⟨l6,u6⟩:=h6.isU
 obtain ⟨l7,u7⟩:=h7.isU
 obtain ⟨l8,u8⟩:=h8.isU
 obtain ⟨m1,v1⟩:=g1.isU
 obtain ⟨m2,v2⟩:=g2.isU
 obtain ⟨m3,v3⟩:=g3.isU
 obtain ⟨m4,v4⟩:=g4.isU
 refine ⟨_,?_,x1,y1,x2,y2,x3,y3,x4,y4,rfl,g1,g2,g3,g4⟩
 unfold zn at e1 e2 ⊢;rw [zc h.h112]
 simp only [go_sem,reduceEqDiff,reduceAdd,zCJ,zg,zj,Nat.zero_add,zhE,zcj,zi,u1.pu,u1.frz,u1.one,u2.pu,u2.frz,u2.one,u3.pu,u3.frz,u3.one,u4.pu,u4.frz,u4.one,u5.pu,u5.frz,u5.one,u6.pu,u6.frz,u6.one,u7.pu,u7.frz,u7.one,u8.pu,u8.frz,u8.one,v1.one,v2.one,v3.one,v4.one,e1,e2,zk,zjm,zjl,zo4 v1 v2 v3 v4,zB,zad,List.drop_zero,ziH,zor v1 v2 v3 v4]
theorem m72 (h:Sp P L) {v w:AV} {a b c d:Rat} {K:Nat} (hv:IsP v a b) (hw:IsP w c d) (ka:Hq K a) (kb:Hq K b) (kc:Hq K c) (kd:Hq K d) (hK:K≤10000000000):∃r,zn P L 72 [v,w] r∧IsP r (a-c) (b-d):=by
 obtain ⟨s1,w1,s2,w2,s3,w3,s4,w4,rfl,h1,h2,h3,h4⟩:=hv
 obtain ⟨s5,w5,s6,w6,s7,w7,s8,w8,rfl,h5,h6,h7,h8⟩:=hw
 obtain ⟨p,e1,hp⟩:=m50 h.toFr' ⟨s1,w1,s2,w2,rfl,h1,h2⟩ ⟨s5,w5,s6,w6,rfl,h5,h6⟩ ka kc hK
 obtain ⟨q,e2,hq⟩:=m50 h.toFr' ⟨s3,w3,s4,w4,rfl,h3,h4⟩ ⟨s7,w7,s8,w8,rfl,h7,h8⟩ kb kd hK
 obtain ⟨x1,y1,x2,y2,rfl,g1,g2⟩:=hp
 obtain ⟨x3,y3,x4,y4,rfl,g3,g4⟩:=hq
 obtain ⟨l1,u1⟩:=h1.isU
 obtain ⟨l2,u2⟩:=h2.isU
 obtain ⟨l3,u3⟩:=h3.isU
 obtain ⟨l4,u4⟩:=h4.isU
 obtain ⟨l5,u5⟩:=h5.isU
 obtain ⟨l6,u6⟩:=h6.isU
 obtain ⟨l7,u7⟩:=h7.isU
 obtain ⟨l8,u8⟩:=h8.isU
 obtain ⟨m1,v1⟩:=g1.isU
 obtain ⟨m2,v2⟩:=g2.isU
 obtain ⟨m3,v3⟩:=g3.isU
 obtain ⟨m4,v4⟩:=g4.isU
 refine ⟨_,?_,x1,y1,x2,y2,x3,y3,x4,y4,rfl,g1,g2,g3,g4⟩
 unfold zn at e1 e2 ⊢;rw [zc h.h72]
 simp only [go_sem,reduceEqDiff,reduceAdd,c72,zg,zj,Nat.zero_add,zhE,zcj,zi,u1.pu,u1.frz,u1.one,u2.pu,u2.frz,u2.one,u3.pu,u3.frz,u3.one,u4.pu,u4.frz,u4.one,u5.pu,u5.frz,u5.one,u6.pu,u6.frz,u6.one,u7.pu,u7.frz,u7.one,u8.pu,u8.frz,u8.one,v1.one,v2.one,v3.one,v4.one,e1,e2,zk,zjm,zjl,zo4 v1 v2 v3 v4,zB,zad,List.drop_zero,ziH,zor v1 v2 v3 v4]
theorem zJW (h:Sp P L) {v:AV} {a b:Rat} {K:Nat} (hv:IsP v a b) (ka:Hq K a) (kb:Hq K b) (hK:K≤4000000000):zn P L 113 [v] (.bool (LG a||LG b)):=by
 obtain ⟨s1,w1,s2,w2,s3,w3,s4,w4,rfl,h1,h2,h3,h4⟩:=hv
 have e1:=zHr h.toTx ⟨s1,w1,s2,w2,rfl,h1,h2⟩ ka hK
 have e2:=zHr h.toTx ⟨s3,w3,s4,w4,rfl,h3,h4⟩ kb hK
 obtain ⟨l1,u1⟩:=h1.isU
 obtain ⟨l2,u2⟩:=h2.isU
 obtain ⟨l3,u3⟩:=h3.isU
 obtain ⟨l4,u4⟩:=h4.isU
 unfold zn at e1 e2 ⊢;rw [zc h.h113]
 cases hb:LG a with
 | true=>
  rw [hb] at e1
  simp only [go_sem,reduceEqDiff,reduceAdd,zy7,zg,zj,Nat.zero_add,zcj,zi,u1.pu,u1.frz,u1.one,u2.pu,u2.frz,u2.one,u3.pu,u3.one,u4.pu,u4.one,e1]
  rfl
 | false=>
  rw [hb] at e1
  simp only [go_sem,reduceEqDiff,reduceAdd,zy7,zg,zj,Nat.zero_add,zhE,zcj,zi,u1.pu,u1.frz,u1.one,u2.pu,u2.frz,u2.one,u3.pu,u3.frz,u3.one,u4.pu,u4.frz,u4.one,e1,e2]
  rfl
theorem zIW (h:Sp P L) {v:AV} {a b:Rat} {K:Nat} (hv:IsP v a b) (ka:Hq K a) (kb:Hq K b) (hK:K≤4000000000):zn P L 114 [v] (plV a b):=by
 obtain ⟨s1,w1,s2,w2,s3,w3,s4,w4,rfl,h1,h2,h3,h4⟩:=hv
 have e1:=m46 h.toTx ⟨s1,w1,s2,w2,rfl,h1,h2⟩ ka hK
 have e2:=m46 h.toTx ⟨s3,w3,s4,w4,rfl,h3,h4⟩ kb hK
 obtain ⟨l1,u1⟩:=h1.isU
 obtain ⟨l2,u2⟩:=h2.isU
 obtain ⟨l3,u3⟩:=h3.isU
 obtain ⟨l4,u4⟩:=h4.isU
 unfold zn at e1 e2 ⊢;rw [zc h.h114]
 simp only [go_sem,reduceEqDiff,reduceAdd,reduceLeDiff,zEe,zg,zj,Nat.zero_add,zhE,zcj,zi,u1.pu,u1.frz,u1.one,u2.pu,u2.frz,u2.one,u3.pu,u3.frz,u3.one,u4.pu,u4.frz,u4.one,e1,e2,zas]
 rfl
theorem m65 (h:Sp P L) {v:AV} {a b:Rat} {K:Nat} (hv:IsP v a b) (ka:Hq K a) (kb:Hq K b) (hK:K≤4000000000):zn P L 65 [v] (if (LG a||LG b)=true then .tup [plT [] [],zf 4] else .tup [plV a b,zf 0]):=by
 have e1:=zJW h hv ka kb hK
 have e2:=zIW h hv ka kb hK
 obtain ⟨s1,w1,s2,w2,s3,w3,s4,w4,rfl,h1,h2,h3,h4⟩:=hv
 obtain ⟨l1,u1⟩:=h1.isU
 obtain ⟨l2,u2⟩:=h2.isU
 obtain ⟨l3,u3⟩:=h3.isU
 obtain ⟨l4,u4⟩:=h4.isU
 unfold zn at e1 e2 ⊢;rw [zc h.h65]
 cases hb:(LG a||LG b) with
 | true=>
  rw [hb] at e1
  rw [if_pos rfl]
  simp only [go_sem,reduceEqDiff,reduceAdd,c65,zg,Nat.zero_add,ziH,zi,u1.pu,u1.frz,u1.one,u2.pu,u2.frz,u2.one,u3.pu,u3.frz,u3.one,u4.pu,u4.frz,u4.one,e1,zas]
  rfl
 | false=>
  rw [hb] at e1
  rw [if_neg (by decide)]
  simp only [go_sem,reduceEqDiff,reduceAdd,c65,zg,Nat.zero_add,ziH,zi,u1.pu,u1.frz,u1.one,u2.pu,u2.frz,u2.one,u3.pu,u3.frz,u3.one,u4.pu,u4.frz,u4.one,e1,e2,zk,zas]
  rfl
end
end VE
end
section
namespace VE
open Go (IntKind)
structure F4 (c1 c2 c3 c4:AV):Prop where
 frz:∀(n:Nat) (hp:Hp),zai (n+20) hp (.agg [c1,c2,c3,c4])=some (.agg [c1,c2,c3,c4],hp)
 res:∀hp:Hp,zaR hp (.agg [c1,c2,c3,c4])=some (.agg [c1,c2,c3,c4])
 st:∀(hp:Hp) (ct id:Nat) (a b c d:AV),stC hp ct id 0 4 [c1,c2,c3,c4] (some (.cells true true true 4 [a,b,c,d]))=some (.tup [],zac hp id (.cells true true true 4 [c1,c2,c3,c4]),ct)
 bx:∀ct:Nat,zpd ct 4 [c1,c2,c3,c4]=some (.ptr ct 0,.cells true true true 4 [c1,c2,c3,c4])
 o1:zX c1=true
 o2:zX c2=true
 o3:zX c3=true
 o4:zX c4=true
 pu:zD (.agg [c1,c2,c3,c4])=true
 z1:∀(n:Nat) (hp:Hp),zai (n+1) hp c1=some (c1,hp)
 z2:∀(n:Nat) (hp:Hp),zai (n+1) hp c2=some (c2,hp)
 z3:∀(n:Nat) (hp:Hp),zai (n+1) hp c3=some (c3,hp)
 z4:∀(n:Nat) (hp:Hp),zai (n+1) hp c4=some (c4,hp)
structure F8 (c1 c2 c3 c4 c5 c6 c7 c8:AV):Prop where
 frz:∀(n:Nat) (hp:Hp),zai (n+20) hp (.agg [c1,c2,c3,c4,c5,c6,c7,c8])=some (.agg [c1,c2,c3,c4,c5,c6,c7,c8],hp)
 res:∀hp:Hp,zaR hp (.agg [c1,c2,c3,c4,c5,c6,c7,c8])=some (.agg [c1,c2,c3,c4,c5,c6,c7,c8])
 st:∀(hp:Hp) (ct id:Nat) (a b c d e f g h:AV),stC hp ct id 0 8 [c1,c2,c3,c4,c5,c6,c7,c8] (some (.cells true true true 8 [a,b,c,d,e,f,g,h]))=some (.tup [],zac hp id (.cells true true true 8 [c1,c2,c3,c4,c5,c6,c7,c8]),ct)
 bx:∀ct:Nat,zpd ct 8 [c1,c2,c3,c4,c5,c6,c7,c8]=some (.ptr ct 0,.cells true true true 8 [c1,c2,c3,c4,c5,c6,c7,c8])
theorem IsQ.gen {v:AV} {a:Rat} (h:IsQ v a):∃c1 c2 c3 c4,v= .agg [c1,c2,c3,c4]∧F4 c1 c2 c3 c4:=by
 obtain ⟨s1,w1,s2,w2,rfl,h1,h2⟩:=h
 obtain ⟨l1,u1⟩:=h1.isU
 obtain ⟨l2,u2⟩:=h2.isU
 refine ⟨_,_,_,_,rfl,fun n hp=>?_,zdK u1 u2,fun hp ct id a b c d=>zdO u1 u2 hp ct id a b c d,fun ct=>by simp only [go_sem,reduceAdd,zg,u1.pu,u1.one,u2.pu,u2.one],rfl,u1.one,rfl,u2.one,by simp [zD,zu,u1.pu,u2.pu],fun _ _=>rfl,fun n _=>u1.frz n,fun _ _=>rfl,fun n _=>u2.frz n⟩
 exact zi _ _ (by simp only [go_sem,u1.frz,u2.frz])
theorem IsP.gen {v:AV} {a b:Rat} (h:IsP v a b):∃c1 c2 c3 c4 c5 c6 c7 c8,v= .agg [c1,c2,c3,c4,c5,c6,c7,c8]∧F8 c1 c2 c3 c4 c5 c6 c7 c8:=by
 obtain ⟨s1,w1,s2,w2,s3,w3,s4,w4,rfl,h1,h2,h3,h4⟩:=h
 obtain ⟨l1,u1⟩:=h1.isU
 obtain ⟨l2,u2⟩:=h2.isU
 obtain ⟨l3,u3⟩:=h3.isU
 obtain ⟨l4,u4⟩:=h4.isU
 refine ⟨_,_,_,_,_,_,_,_,rfl,fun n hp=>?_,zor u1 u2 u3 u4,fun hp ct id a b c d e f g h=>zo4 u1 u2 u3 u4 hp ct id a b c d e f g h,fun ct=>by simp only [go_sem,reduceAdd,zg,u1.pu,u1.one,u2.pu,u2.one,u3.pu,u3.one,u4.pu,u4.one]⟩
 exact zi _ _ (by simp only [go_sem,u1.frz,u2.frz,u3.frz,u4.frz])
theorem firstI2 {a b:Int}:zG [a,b]=0↔a=0∧b=0:=by
 simp only [zG]
 by_cases h:a=0<;>by_cases h2:b=0<;>simp [h,h2]
theorem firstI3 {a b c:Int}:zG [a,b,c]=0↔a=0∧b=0∧c=0:=by
 simp only [zG]
 by_cases h:a=0<;>by_cases h2:b=0<;>by_cases h3:c=0<;>simp [h,h2,h3]
noncomputable def zdM (x y s:List Nat):Int:=zG [zG [chk x,chk y],zcn s 0]
theorem zhR {x y s:List Nat} (h:zdM x y s=0):chk x=0∧chk y=0∧chk s=0∧0≤sgn (zt s).num:=by
 obtain ⟨h1,h2⟩:=firstI2.1 h
 obtain ⟨h3,h4⟩:=firstI2.1 h1
 obtain ⟨h5,h6⟩:=zga h2
 exact ⟨h3,h4,h5,h6⟩
section
variable {P:zP} {L:Lib}
theorem zmR {s:List Nat} (h:chk s=0):eqL s [48]=decide (zt s=0):=by
 have:=zpX (zt s)
 rwa [←(zaK h).1] at this
theorem m63 (h:Sp P L) {x y s:List Nat} {w:AV} {hh:Rat} (hs:chk s=0) (hw:IsQ w hh) {K:Nat} (kh:Hq K hh) (hK:K≤1000000000):zn P L 63 [stT x y s,w] (.bool (zg3 (zt s) hh)):=by
 have e1:=m68 h x y s
 rw [zmR hs] at e1
 obtain ⟨r,e2,hr⟩:=zoZ h hs
 have e3:=m71 h.toFr' hw hr (kh.mono (show K≤K+2400 by omega)) ((zan hs (Nat.le_refl 2400)).mono (show 2400≤K+2400 by omega)) (by omega)
 obtain ⟨s1,w1,s2,w2,rfl,h1,h2⟩:=hw
 obtain ⟨s3,w3,s4,w4,rfl,h3,h4⟩:=hr
 obtain ⟨l1,u1⟩:=h1.isU
 obtain ⟨l2,u2⟩:=h2.isU
 obtain ⟨l3,u3⟩:=h3.isU
 obtain ⟨l4,u4⟩:=h4.isU
 unfold zg3
 unfold zn at e1 e2 e3 ⊢;rw [zc h.h63]
 by_cases h0:zt s=0
 ·rw [decide_eq_true h0] at e1 ⊢
  simp only [go_sem,reduceEqDiff,reduceAdd,c63,zi,zg,za5,u1.pu,u1.one,u2.pu,u2.one,e1,Bool.true_or]
 ·rw [decide_eq_false h0] at e1 ⊢
  by_cases hb:hh<zt s
  ·have:=(zdD _ _).2 hb
   rw [decide_eq_true hb]
   simp only [go_sem,reduceEqDiff,reduceAdd,c63,zi,zg,za5,u1.pu,u1.frz,u1.one,u2.pu,u2.frz,u2.one,u3.frz,u4.frz,e1,zcj,zj,Nat.zero_add,zcs,e2,zk,e3,this,decide_true,Bool.false_or]
  ·have:¬zh8 hh (zt s)<0:=fun e=>hb ((zdD _ _).1 e)
   rw [decide_eq_false hb]
   simp only [go_sem,reduceEqDiff,reduceAdd,c63,zi,zg,za5,u1.pu,u1.frz,u1.one,u2.pu,u2.frz,u2.one,u3.frz,u4.frz,e1,zcj,zj,Nat.zero_add,zcs,e2,zk,e3,this,decide_false,Bool.or_self]
theorem m64 (h:Sp P L) {dx dy s x y:List Nat} {w:AV} {hh:Rat} (hdx:chk dx=0) (hdy:chk dy=0) (hs:chk s=0) (hx:chk x=0) (hy:chk y=0) (hw:IsQ w hh) {K:Nat} (kh:Hq K hh) (hK:K≤100000000):
  ∃r,zn P L 64 [stT dx dy s,w,plT x y] r∧IsP r (zaE (zt s) hh*zt x+hh*zt dx) (zaE (zt s) hh*zt y+hh*zt dy):=by
 have e1:=m68 h dx dy s
 rw [zmR hs] at e1
 have kx:=(zan hx (Nat.le_refl 2400))
 have ky:=(zan hy (Nat.le_refl 2400))
 have kdx:=(zan hdx (Nat.le_refl 2400))
 have kdy:=(zan hdy (Nat.le_refl 2400))
 have ks:=(zan hs (Nat.le_refl 2400))
 obtain ⟨M,hM⟩:∃M,M=2*K+8000:=⟨_,rfl⟩
 obtain ⟨p,e2,hp⟩:=m54 h hx hy
 obtain ⟨d,e3,hd⟩:=m54 h hdx hdy
 have hw':=hw
 obtain ⟨d2,e4,hd2⟩:=m75 h hd hw (kdx.mono (show 2400≤M by omega)) (kdy.mono (by omega)) (kh.mono (by omega)) (by omega)
 have ksh:=zir ks kh
 have sum:∀{q:AV},IsP q (zaE (zt s) hh*zt x) (zaE (zt s) hh*zt y)→∃r,zn P L 112 [q,d2] r∧IsP r (zaE (zt s) hh*zt x+hh*zt dx) (zaE (zt s) hh*zt y+hh*zt dy):=fun {q} hq=>by
  obtain ⟨r,e,hr⟩:=zJw h hq hd2 ((ksh.mul kx).mono (show 2400+K+3+2400≤M by omega)) ((ksh.mul ky).mono (by omega)) ((kdx.mul kh).mono (by omega)) ((kdy.mul kh).mono (by omega)) (by omega)
  rw [Rat.mul_comm (zt dx),Rat.mul_comm (zt dy)] at hr
  exact ⟨r,e,hr⟩
 by_cases h0:zt s=0
 ·rw [decide_eq_true h0] at e1
  have hsh:zaE (zt s) hh=1:=by unfold zaE;rw [if_pos h0]
  obtain ⟨r,e5,hr⟩:=sum (q:=p) (by rw [hsh,Rat.one_mul,Rat.one_mul];exact hp)
  refine ⟨r,?_,hr⟩
  obtain ⟨w1,w2,w3,w4,rfl,gw⟩:=hw.gen
  obtain ⟨p1,p2,p3,p4,p5,p6,p7,p8,rfl,gp⟩:=hp.gen
  obtain ⟨d1,d2',d3,d4,d5,d6,d7,d8,rfl,gd⟩:=hd.gen
  obtain ⟨f1,f2,f3,f4,f5,f6,f7,f8,rfl,gf⟩:=hd2.gen
  obtain ⟨r1,r2,r3,r4,r5,r6,r7,r8,rfl,gr⟩:=hr.gen
  unfold zn at e1 e2 e3 e4 e5 ⊢;rw [zc h.h64]
  simp only [go_sem,reduceEqDiff,reduceAdd,c64,zi,zg,zay,za5,zcj,ziH,zj,Nat.zero_add,gw.bx,gw.frz,gp.frz,gd.frz,gf.frz,e1,e2,e3,e4,e5,Bool.not_true,zk,gp.st,gr.st,zB,zad,List.drop_zero,gr.res]
 ·rw [decide_eq_false h0] at e1
  have hsh:zaE (zt s) hh=1-hh/zt s:=by unfold zaE;rw [if_neg h0]
  obtain ⟨o,e6,ho⟩:=m69 h.toFr' (z:=1) (by decide) (by decide)
  obtain ⟨f,e7,hf⟩:=zoZ h hs
  obtain ⟨g,e8,hg⟩:=m70 h.toFr' hw hf h0 (kh.mono (show K≤M by omega)) (ks.mono (by omega)) (by omega)
  have k1:Hq M ((1:Int):Rat):=Hq_1.mono (by omega)
  obtain ⟨i,e9,hi⟩:=m50 h.toFr' ho hg k1 ((kh.div ks).mono (by omega)) (by omega)
  rw [show ((1:Int):Rat)-hh/zt s=zaE (zt s) hh from hsh.symm] at hi
  obtain ⟨q,eA,hq⟩:=m75 h hp hi (kx.mono (show 2400≤M by omega)) (ky.mono (by omega)) (ksh.mono (by omega)) (by omega)
  rw [Rat.mul_comm (zt x),Rat.mul_comm (zt y)] at hq
  obtain ⟨r,e5,hr⟩:=sum hq
  refine ⟨r,?_,hr⟩
  obtain ⟨w1,w2,w3,w4,rfl,gw⟩:=hw.gen
  obtain ⟨p1,p2,p3,p4,p5,p6,p7,p8,rfl,gp⟩:=hp.gen
  obtain ⟨d1,d2',d3,d4,d5,d6,d7,d8,rfl,gd⟩:=hd.gen
  obtain ⟨f1,f2,f3,f4,f5,f6,f7,f8,rfl,gf⟩:=hd2.gen
  obtain ⟨r1,r2,r3,r4,r5,r6,r7,r8,rfl,gr⟩:=hr.gen
  obtain ⟨q1,q2,q3,q4,q5,q6,q7,q8,rfl,gq⟩:=hq.gen
  obtain ⟨o1,o2,o3,o4,rfl,go⟩:=ho.gen
  obtain ⟨x1,x2,x3,x4,rfl,gx⟩:=hf.gen
  obtain ⟨y1,y2,y3,y4,rfl,gy⟩:=hg.gen
  obtain ⟨z1,z2,z3,z4,rfl,gz⟩:=hi.gen
  unfold zn at e1 e2 e3 e4 e5 e6 e7 e8 e9 eA ⊢;rw [zc h.h64]
  simp only [go_sem,reduceEqDiff,reduceAdd,c64,zi,zg,zay,za5,zcj,ziH,zj,Nat.zero_add,zcs,gw.bx,gw.frz,gp.frz,gd.frz,gf.frz,go.frz,gx.frz,gy.frz,gz.frz,gq.frz,e1,e2,e3,e4,e5,e6,e7,e8,e9,eA,Bool.not_false,zk,gp.st,gq.st,gr.st,zB,zad,List.drop_zero,gr.res]
end
end VE
end
section
namespace VE
open Go (IntKind)
structure Ss (P:zP) (L:Lib):Prop extends Sp P L where
 h22:Has P L 22 c22
 h25:Has P L 25 c25
def ztA (a b:Rat):AV:=if (LG a||LG b)=true then .tup [plT [] [],zf 4] else .tup [plV a b,zf 0]
section
variable {P:zP} {L:Lib}
noncomputable def zl4 (dx dy s hh x y:List Nat):Int:=zG [zdM dx dy s,zcn hh 0,zG [chk x,chk y]]
noncomputable def zuf (dx dy s hh x y:List Nat):AV:=
 if zl4 dx dy s hh x y≠0 then .tup [plT [] [],zf (zl4 dx dy s hh x y)]
 else if zg3 (zt s) (zt hh)=false then .tup [plT [] [],zf 31]
 else ztA (zaE (zt s) (zt hh)*zt x+zt hh*zt dx) (zaE (zt s) (zt hh)*zt y+zt hh*zt dy)
theorem zjq {hs hh x dx:Rat} {K:Nat} (ks:Hq K hs) (kh:Hq K hh) (kx:Hq K x) (kd:Hq K dx):Hq (5*K+10) (zaE hs hh*x+hh*dx):=
 (((zir ks kh).mul kx).add (kh.mul kd)).mono (by omega)
theorem m22 (h:Ss P L) {dx dy s hh x y:List Nat} (ldx:dx.length≤1000000000) (ldy:dy.length≤1000000000) (ls:s.length≤1000000000) (lh:hh.length≤1000000000) (lx:x.length≤1000000000) (ly:y.length≤1000000000):
  zn P L 22 [stT dx dy s,.str hh,plT x y] (zuf dx dy s hh x y):=by
 have e1:=m60 h.toSp ldx ldy ls
 have e2:=m61 h.toSp lh 0
 have e3:=m53 h.toSp lx ly
 have e4:=s33 h.h33 (zaY true [zdM dx dy s,zcn hh 0,zG [chk x,chk y]]) (by simp)
 simp only [List.length_cons,List.length_nil,Nat.zero_add,reduceAdd,List.map_cons,List.map_nil] at e4
 unfold zuf
 rw [show zG [zG [chk dx,chk dy],zcn s 0]=zdM dx dy s from rfl] at e1
 rw [show zG [zdM dx dy s,zcn hh 0,zG [chk x,chk y]]=zl4 dx dy s hh x y from rfl] at e4
 unfold zn at e1 e2 e3 ⊢;rw [zc h.h22]
 by_cases h0:zl4 dx dy s hh x y=0
 ·rw [h0] at e4
  rw [if_neg (by simp [h0])]
  obtain ⟨f1,f2,f3⟩:=firstI3.1 h0
  obtain ⟨a1,a2,a3,_⟩:=zhR f1
  obtain ⟨a4,_⟩:=zga f2
  obtain ⟨a5,a6⟩:=firstI2.1 f3
  obtain ⟨w,e5,hw⟩:=zoZ h.toSp a4
  have kh:=zan a4 (Nat.le_refl 2400)
  have ks:=zan a3 (Nat.le_refl 2400)
  have e6:=m63 h.toSp (x:=dx) (y:=dy) a3 hw kh (by omega)
  obtain ⟨r,e7,hr⟩:=m64 h.toSp a1 a2 a3 a5 a6 hw kh (by omega)
  have e8:=m65 h.toSp hr (zjq ks kh (zan a5 (Nat.le_refl 2400)) (zan a1 (Nat.le_refl 2400))) (zjq ks kh (zan a6 (Nat.le_refl 2400)) (zan a2 (Nat.le_refl 2400))) (by omega)
  obtain ⟨w1,w2,w3,w4,rfl,gw⟩:=hw.gen
  obtain ⟨r1,r2,r3,r4,r5,r6,r7,r8,rfl,gr⟩:=hr.gen
  rw [f1] at e1
  rw [f2] at e2
  rw [f3] at e3
  rw [f1,f2,f3] at e4
  unfold ztA
  unfold zn at e5 e6 e7 e8
  cases hb:zg3 (zt s) (zt hh) with
  | false=>
   rw [hb] at e6
   rw [if_pos rfl]
   simp only [go_sem,reduceEqDiff,reduceAdd,reduceLT,reduceLeDiff,Nat.mul_one,c22,zi,zg,zay,za5,zcj,Nat.zero_add,e1,e2,e3,e4,decide_true,Bool.not_true,e5,zk,gw.st,gw.frz,e6,Bool.not_false,zas,zB,zad,List.drop_zero]
   rfl
  | true=>
   rw [hb] at e6
   rw [if_neg (by decide)]
   cases hg:(LG (zaE (zt s) (zt hh)*zt x+zt hh*zt dx)||LG (zaE (zt s) (zt hh)*zt y+zt hh*zt dy)) with
   | true=>
    rw [hg,if_pos rfl] at e8
    rw [if_pos rfl]
    simp only [go_sem,reduceEqDiff,reduceAdd,reduceLT,reduceLeDiff,Nat.mul_one,c22,zi,zg,zay,za5,zcj,Nat.zero_add,e1,e2,e3,e4,decide_true,Bool.not_true,e5,zk,gw.st,gw.frz,e6,e7,gr.frz,e8,zas]
    rfl
   | false=>
    rw [hg,if_neg (by decide)] at e8
    rw [if_neg (by decide)]
    simp only [go_sem,reduceEqDiff,reduceAdd,reduceLT,reduceLeDiff,Nat.mul_one,c22,zi,zg,zay,za5,zcj,Nat.zero_add,e1,e2,e3,e4,decide_true,Bool.not_true,e5,zk,gw.st,gw.frz,e6,e7,gr.frz,e8,zas]
    rfl
 ·rw [if_pos h0]
  simp only [go_sem,reduceEqDiff,reduceAdd,reduceLT,reduceLeDiff,Nat.mul_one,c22,zi,zg,zay,za5,Nat.zero_add,e1,e2,e3,e4,h0,decide_false,Bool.not_false,zas]
  rfl
theorem zjV:zdJ=1/2:=by
 have h:zdJ=Rat.divInt 1 2:=Rat.mk_eq_divInt ..
 rw [h,Rat.divInt_eq_div];rfl
theorem half_lt {a b:Rat}:a*zdJ<b↔a<2*b:=by
 rw [zjV];constructor<;>intro h<;>grind
theorem zAj (a:Rat):a/((2:Int):Rat)=a*zdJ:=by rw [zjV];grind
theorem zrS {s t:Rat} (h0:s≠0) (h1:0≤s) (h2:0≤t) (h3:t<2*s):s-t*zdJ≠0∧s+t*zdJ≠0:=by
 rw [zjV]
 constructor<;>intro e<;>grind
noncomputable def zee (dx dy s t:List Nat):Int:=zG [zdM dx dy s,if eqL s [48]=true then 13 else 0,zcn t 0]
noncomputable def ziB (s t lx ly x y:List Nat):Int:=zG [if zt t<2*zt s then 0 else 3,zG [chk lx,chk ly],zG [chk x,chk y]]
noncomputable def zvO (dx dy s t lx ly x y:List Nat):AV:=
 if zee dx dy s t≠0 then .tup [plT [] [],zf (zee dx dy s t)]
 else if ziB s t lx ly x y≠0 then .tup [plT [] [],zf (ziB s t lx ly x y)]
 else ztA (zel (zt s) (zt t)*(zt x+ -1*zt lx)) (zel (zt s) (zt t)*(zt y+ -1*zt ly))
theorem zfy {q:Rat} (h:0≤sgn q.num):0≤q:=by
 refine Rat.num_nonneg.1 ?_
 unfold sgn at h
 split at h
 ·exact absurd h (by decide)
 ·omega
theorem zoS {s t:Rat} {K:Nat} (ks:Hq K s) (kt:Hq K t):Hq (4*K+20) (zel s t):=by
 have kh:=kt.mul zzS
 exact ((ks.sub kh).inv.sub (ks.add kh).inv).mono (by omega)
theorem zgg {x lx:Rat} {K:Nat} (kx:Hq K x) (kl:Hq K lx):Hq (2*K+10) (x+ -1*lx):=(kx.add (Hq_m1.mul kl)).mono (by omega)
theorem zrF (x l:Rat):x-l=x+ -1*l:=by grind
theorem m25 (h:Ss P L) {dx dy s t lx ly x y:List Nat} (ldx:dx.length≤1000000000) (ldy:dy.length≤1000000000) (ls:s.length≤1000000000) (lt:t.length≤1000000000) (llx:lx.length≤1000000000) (lly:ly.length≤1000000000) (lx':x.length≤1000000000) (ly':y.length≤1000000000):
  zn P L 25 [stT dx dy s,.str t,plT lx ly,plT x y] (zvO dx dy s t lx ly x y):=by
 have e1:=m60 h.toSp ldx ldy ls
 have e2:=m68 h.toSp dx dy s
 have e3:=s31 h.h31 (eqL s [48]) 13
 have e4:=m61 h.toSp lt 0
 have e5:=s33 h.h33 (zaY true [zdM dx dy s,if eqL s [48]=true then 13 else 0,zcn t 0]) (by simp)
 simp only [List.length_cons,List.length_nil,Nat.zero_add,reduceAdd,List.map_cons,List.map_nil] at e5
 rw [show zG [zG [chk dx,chk dy],zcn s 0]=zdM dx dy s from rfl] at e1
 rw [show zG [zdM dx dy s,if eqL s [48]=true then 13 else 0,zcn t 0]=zee dx dy s t from rfl] at e5
 unfold zvO
 unfold zn at e1 e2 e3 e4 ⊢;rw [zc h.h25]
 by_cases h0:zee dx dy s t=0
 ·have h0':¬zee dx dy s t≠0:=by simp [h0]
  rw [if_neg h0']
  obtain ⟨f1,f2,f3⟩:=firstI3.1 h0
  obtain ⟨a1,a2,a3,a3'⟩:=zhR f1
  obtain ⟨a4,a4'⟩:=zga f3
  have hnat:eqL s [48]=false:=by
   cases hb:eqL s [48] with
   | false=>rfl
   | true=>rw [hb] at f2;exact absurd f2 (by decide)
  have hs0:zt s≠0:=by
   have:=zmR a3
   rw [hnat] at this
   exact of_decide_eq_false this.symm
  have hsn:=zfy a3'
  have htn:=zfy a4'
  have ks:=zan a3 (Nat.le_refl 2400)
  have kt:=zan a4 (Nat.le_refl 2400)
  obtain ⟨w,g1,hw⟩:=zoZ h.toSp a4
  obtain ⟨o,g2,ho⟩:=m69 h.toFr' (z:=2) (by decide) (by decide)
  have k2:Hq 2400 ((2:Int):Rat):=Hq_2.mono (by omega)
  obtain ⟨f,g3,hf⟩:=m70 h.toFr' hw ho (by decide) kt k2 (by omega)
  rw [zAj] at hf
  obtain ⟨z,g4,hz⟩:=zoZ h.toSp a3
  have kh:=kt.mul zzS
  obtain ⟨M,hM⟩:∃M,M=20000:=⟨_,rfl⟩
  have g5:=m71 h.toFr' hf hz (kh.mono (show 2400+2≤M by omega)) (ks.mono (by omega)) (by omega)
  have g7:=m53 h.toSp llx lly
  have g8:=m53 h.toSp lx' ly'
  have g9:=s33 h.h33 (zaY true [if zt t<2*zt s then 0 else 3,zG [chk lx,chk ly],zG [chk x,chk y]]) (by simp)
  simp only [List.length_cons,List.length_nil,Nat.zero_add,reduceAdd,List.map_cons,List.map_nil] at g9
  rw [show zG [if zt t<2*zt s then 0 else 3,zG [chk lx,chk ly],zG [chk x,chk y]]=ziB s t lx ly x y from rfl] at g9
  have g6:∃c:Int,zx P L (D P L) 71 [f,z]=some (zf c)∧zx P L (D P L) 31 [.bool (decide (0≤c)),zf 3]=some (zf (if zt t<2*zt s then 0 else 3)):=by
   refine ⟨_,g5,?_⟩
   by_cases hlt:zt t<2*zt s
   ·have h1:=(zdD _ _).2 (half_lt.2 hlt)
    rw [if_pos hlt,decide_eq_false (by omega)]
    exact s31 h.h31 false 3
   ·have h1:¬zh8 (zt t*zdJ) (zt s)<0:=fun e=>hlt (half_lt.1 ((zdD _ _).1 e))
    rw [if_neg hlt,decide_eq_true (by omega)]
    exact s31 h.h31 true 3
  obtain ⟨c,g5,g6⟩:=g6
  have hf':=hf
  have hz':=hz
  obtain ⟨w1,w2,w3,w4,rfl,gw⟩:=hw.gen
  obtain ⟨o1,o2,o3,o4,rfl,go⟩:=ho.gen
  obtain ⟨f1',f2',f3',f4',rfl,gf⟩:=hf.gen
  obtain ⟨z1,z2,z3,z4,rfl,gz⟩:=hz.gen
  rw [hnat] at e2 e3
  simp only [Bool.false_eq_true,if_false] at e3
  rw [f1] at e1
  rw [f3] at e4
  rw [h0,f1,hnat,f3] at e5
  simp only [Bool.false_eq_true,if_false] at e5
  unfold zn at g1 g2 g3 g4 g7 g8
  by_cases h1:ziB s t lx ly x y=0
  ·rw [if_neg (by simp [h1])]
   rw [h1] at g9
   obtain ⟨i1,i2,i3⟩:=firstI3.1 h1
   obtain ⟨j1,j2⟩:=firstI2.1 i2
   obtain ⟨j3,j4⟩:=firstI2.1 i3
   have hlt:zt t<2*zt s:=by
    by_cases hl:zt t<2*zt s
    ·exact hl
    ·rw [if_neg hl] at i1;exact absurd i1 (by decide)
   obtain ⟨n1,n2⟩:=zrS hs0 hsn htn hlt
   rw [i1] at g6 g9
   rw [i2] at g7 g9
   rw [i3] at g8 g9
   have klx:=zan j1 (Nat.le_refl 2400)
   have kly:=zan j2 (Nat.le_refl 2400)
   have kx:=zan j3 (Nat.le_refl 2400)
   have ky:=zan j4 (Nat.le_refl 2400)
   obtain ⟨p,q1,hp⟩:=m54 h.toSp j3 j4
   obtain ⟨l,q2,hl⟩:=m54 h.toSp j1 j2
   obtain ⟨d,q3,hd⟩:=m72 h.toSp hp hl (kx.mono (show 2400≤M by omega)) (ky.mono (by omega)) (klx.mono (by omega)) (kly.mono (by omega)) (by omega)
   obtain ⟨a,q4,ha⟩:=m50 h.toFr' hz' hf' (ks.mono (show 2400≤M by omega)) (kh.mono (by omega)) (by omega)
   obtain ⟨b,q5,hb⟩:=m73 h.toFr' ha n1 ((ks.sub kh).mono (show 2400+(2400+2)+1≤M by omega)) (by omega)
   obtain ⟨c',q6,hc⟩:=m74 h.toFr' hz' hf' (ks.mono (show 2400≤M by omega)) (kh.mono (by omega)) (by omega)
   obtain ⟨e,q7,he⟩:=m73 h.toFr' hc n2 ((ks.add kh).mono (show 2400+(2400+2)+1≤M by omega)) (by omega)
   obtain ⟨g,q8,hg⟩:=m50 h.toFr' hb he ((ks.sub kh).inv.mono (show 2400+(2400+2)+1≤M by omega)) ((ks.add kh).inv.mono (by omega)) (by omega)
   rw [show (zt s-zt t*zdJ)⁻¹-(zt s+zt t*zdJ)⁻¹=zel (zt s) (zt t) from rfl] at hg
   rw [zrF,zrF] at hd
   have kel:=zoS ks kt
   obtain ⟨r,q9,hr⟩:=m75 h.toSp hd hg ((zgg kx klx).mono (show 2*2400+10≤M by omega)) ((zgg ky kly).mono (by omega)) (kel.mono (by omega)) (by omega)
   rw [Rat.mul_comm (zt x+ -1*zt lx),Rat.mul_comm (zt y+ -1*zt ly)] at hr
   have qA:=m65 h.toSp hr ((kel.mul (zgg kx klx)).mono (show 4*2400+20+(2*2400+10)≤M by omega)) ((kel.mul (zgg ky kly)).mono (by omega)) (by omega)
   obtain ⟨p1,p2,p3,p4,p5,p6,p7,p8,rfl,gp⟩:=hp.gen
   obtain ⟨l1,l2,l3,l4,l5,l6,l7,l8,rfl,gl⟩:=hl.gen
   obtain ⟨d1,d2,d3,d4,d5,d6,d7,d8,rfl,gd⟩:=hd.gen
   obtain ⟨r1,r2,r3,r4,r5,r6,r7,r8,rfl,gr⟩:=hr.gen
   obtain ⟨a1',a2',a3',a4',rfl,ga⟩:=ha.gen
   obtain ⟨b1,b2,b3,b4,rfl,gb⟩:=hb.gen
   obtain ⟨c1,c2,c3,c4,rfl,gc⟩:=hc.gen
   obtain ⟨y1,y2,y3,y4,rfl,ge⟩:=he.gen
   obtain ⟨x1,x2,x3,x4,rfl,gg⟩:=hg.gen
   unfold ztA
   unfold zn at q1 q2 q3 q4 q5 q6 q7 q8 q9 qA
   cases hL:(LG (zel (zt s) (zt t)*(zt x+ -1*zt lx))||LG (zel (zt s) (zt t)*(zt y+ -1*zt ly))) with
   | true=>
    rw [hL,if_pos rfl] at qA
    rw [if_pos rfl]
    simp only [go_sem,reduceEqDiff,reduceAdd,reduceLT,reduceLeDiff,Nat.mul_one,c25,zi,zg,zay,za5,zcj,zj,Nat.zero_add,e1,e2,e3,e4,e5,decide_true,Bool.not_true,g1,g2,g3,g4,zcs,zk,gw.frz,go.frz,gf.st,gz.st,gf.frz,gz.frz,g5,g6,g7,g8,q1,q2,gp.frz,gl.frz,q3,q4,ga.frz,q5,q6,gc.frz,q7,gb.frz,ge.frz,q8,gd.frz,gg.frz,q9,gr.frz,qA,zas]
    rfl
   | false=>
    rw [hL,if_neg (by decide)] at qA
    rw [if_neg (by decide)]
    simp only [go_sem,reduceEqDiff,reduceAdd,reduceLT,reduceLeDiff,Nat.mul_one,c25,zi,zg,zay,za5,zcj,zj,Nat.zero_add,e1,e2,e3,e4,e5,decide_true,Bool.not_true,g1,g2,g3,g4,zcs,zk,gw.frz,go.frz,gf.st,gz.st,gf.frz,gz.frz,g5,g6,g7,g8,q1,q2,gp.frz,gl.frz,q3,q4,ga.frz,q5,q6,gc.frz,q7,gb.frz,ge.frz,q8,gd.frz,gg.frz,q9,gr.frz,qA,zas]
    rfl
  ·rw [if_pos h1]
   simp only [go_sem,reduceEqDiff,reduceAdd,reduceLT,reduceLeDiff,Nat.mul_one,c25,zi,zg,zay,za5,zcj,zj,Nat.zero_add,e1,e2,e3,e4,e5,decide_true,Bool.not_true,g1,g2,g3,g4,zcs,zk,gw.frz,go.frz,gf.st,gz.st,gf.frz,gz.frz,g5,g6,g7,g8,g9,h1,decide_false,Bool.not_false,zas]
   rfl
 ·rw [if_pos h0]
  simp only [go_sem,reduceEqDiff,reduceAdd,reduceLT,reduceLeDiff,Nat.mul_one,c25,zi,zg,za5,Nat.zero_add,e1,e2,e3,e4,e5,h0,decide_false,Bool.not_false,zas]
  rfl
end
end VE
end
