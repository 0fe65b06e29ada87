import Derived.Test.YtmedhadbdofioaaGreatDoorTax
import Derived.Test.YtmedhadbdofioaaGreatDoorTba
import Derived.Test.YtmedhadbdofioaaGreatDoorTal
set_option linter.all false
set_option maxRecDepth 100000
open Bool renaming and_eq_true→yg,and_self→wp,and_true→uF,false_eq_true→yD,not_false→yF,not_true→yH
open Int renaming emod_lt_of_pos→we,emod_nonneg→xM,mul_neg→yaU,natAbs_ediv_le_natAbs→uY,natCast_mul→wE,tmod_eq_emod_of_nonneg→xn
open List renaming drop→xm,drop_zero→yj,length_cons→yr,length_nil→yE,map_cons→yU,map_nil→xU
open Nat renaming add_zero→yX,eq_zero_or_pos→xo,le_refl→yC,le_trans→xj,lt_of_lt_of_le→yN,mul_one→yh,one_lt_two_pow→wB,pow_le_pow_right→xP,reduceAdd→yb,reduceEqDiff→ya,reduceLT→yt,reduceLeDiff→ye,zero_add→yd
open Rat renaming den_intCast→wt,floor_def→vO,mul_comm→wL,num_intCast→xY,one_mul→uI
namespace VE
section
open Go (IntKind)
def mc (v:AV) (a b:Rat):Prop:=∃s1 w1 s2 w2 s3 w3 s4 w4,v= .agg [aa s1,w1,aa s2,w2,aa s3,w3,aa s4,w4]/\cN s1 w1 a.num/\cN s2 w2 (a.den:Int)/\cN s3 w3 b.num/\cN s4 w4 (b.den:Int)
section
variable {s1 s2 s3 s4:Int} {w1 w2 w3 w4:AV} {l1 l2 l3 l4:List Nat}
def NN (h1:bJ w1 l1) (h2:bJ w2 l2) (h3:bJ w3 l3) (h4:bJ w4 l4) (hp:Hp) (ct id:Nat) (a b c d e f g h:AV):eM hp ct id 0 8 [.int .i64 s1,w1,.int .i64 s2,w2,.int .i64 s3,w3,.int .i64 s4,w4] (some (.cells true true true 8 [a,b,c,d,e,f,g,h]))=some (.ap [],aW hp id (.cells true true true 8 [.int .i64 s1,w1,.int .i64 s2,w2,.int .i64 s3,w3,.int .i64 s4,w4]),ct):=by
 rw [jb (by rfl) (by simp) (by simp [bK,h1.one,h2.one,h3.one,h4.one,Ep])];simp [aH,h1.pu,h2.pu,h3.pu,h4.pu,over,CM]
def NO (h1:bJ w1 l1) (h2:bJ w2 l2) (h3:bJ w3 l3) (h4:bJ w4 l4) (hp:Hp):result hp (.agg [aa s1,w1,aa s2,w2,aa s3,w3,aa s4,w4])=some (.agg [aa s1,w1,aa s2,w2,aa s3,w3,aa s4,w4]):=by
 rcases h1 with ⟨rfl,_⟩ | ⟨e,rfl⟩<;>rcases h2 with ⟨rfl,_⟩ | ⟨e',rfl⟩<;>rcases h3 with ⟨rfl,_⟩ | ⟨e,rfl⟩<;>rcases h4 with ⟨rfl,_⟩ | ⟨e',rfl⟩<;>rfl
def Sv {tm:Env} {a b c d x y z w:AV} {x' y' z' w':AV} {r:List (Nat×Nat×X)} (h1:bm a=true) (h2:bm b=true) (h3:bm c=true) (h4:bm d=true):gB tm [x',y',z',w',x,y,z,w] 0 4 [a,b,c,d] r=fill tm [a,b,c,d,x,y,z,w] r:=by
 rw [j9 (by rfl) (by simp) (by simp [bK,h1,h2,h3,h4])];rfl
def Sw {tm:Env} {a b c d x y z w:AV} {x' y' z' w':AV} {r:List (Nat×Nat×X)} (h1:bm a=true) (h2:bm b=true) (h3:bm c=true) (h4:bm d=true):gB tm [x,y,z,w,x',y',z',w'] 4 4 [a,b,c,d] r=fill tm [x,y,z,w,a,b,c,d] r:=by
 rw [j9 (by rfl) (by simp) (by simp [bK,h1,h2,h3,h4])];rfl
def aqy {tm:Env} {a b x y z:AV} {r:List (Nat×Nat×X)} (h1:bm a=true) (h2:bm b=true):gB tm [x,y,z] 0 2 [a,b] r=fill tm [a,b,z] r:=by
 rw [j9 (by rfl) (by simp) (by simp [bK,h1,h2])];rfl
def Bn (a b c d e f g h:AV):dO 8 true [a,b,c,d,e,f,g,h]=some (.agg [a,b,c,d,e,f,g,h]):=rfl
def kA (a b c d:AV) (r:List AV):dO 4 true (a::b::c::d::r)=some (.agg [a,b,c,d]):=rfl
def fU (a b c:AV) (r:List AV):dO 3 true (a::b::c::r)=some (.agg [a,b,c]):=rfl
def jE (a b c d e f g h:AV):xm 4 [a,b,c,d,e,f,g,h]=[e,f,g,h]:=rfl
def MY (a b c:AV):xm 2 [a,b,c]=[c]:=rfl
end
structure Sp (P:aG) (L:Lib):Prop extends Ck P L where
 fK:Has P L 31 Al
 og:Has P L 33 KH
 W4:Has P L 53 V3
 W5:Has P L 54 V4
 W8:Has P L 60 V6
 W9:Has P L 61 KM
 Pm:Has P L 63 KN
 Ql:Has P L 64 PI
 Xa:Has P L 65 PJ
 Xd:Has P L 68 V8
 h72:Has P L 72 c72
 h75:Has P L 75 We
 aw2:Has P L 112 TS
 aw3:Has P L 113 N6
 aw4:Has P L 114 TU
section
variable {P:aG} {L:Lib}
def Qp (h:Sp P L) {x y:List Nat} (hx:x.length<=1000000000) (hy:y.length<=1000000000):ae P L 53 [dI x y] (aa (bj [aY x,aY y])):=by
 have e1:=Qn h.toCk hx;have e2:=Qn h.toCk hy;have e3:=sC h.og (fm true [aY x,aY y]) (by simp);simp only [yr,yE,yd,yb,yU,xU] at e3;unfold ae at e1 e2 ⊢;rw [av h.W4];simp only [go_sem,ya,yb,yt,ye,yh,V3,aB,aV,yd,bU,e1,e2,e3]
def zZ (h:Sp P L) {s:List Nat} (h0:aY s=0):∃r,ae P L 62 [.str s] r/\cE r (aM s):=by
 obtain ⟨hR,_⟩:=sR h0;have kr:=iG h0 (yC 2400);have hl:=ES kr;obtain ⟨r,e,hr⟩:=m62 h.toTx (a:=aM s) (by omega)
 grind
def Xr (h:Sp P L) {s:List Nat} (hl:s.length<=1000000000) (m:Int):ae P L 61 [.str s,aa m] (aa (jg s m)):=by
 have e1:=Qn h.toCk hl;unfold ae at e1 ⊢;rw [av h.W9];unfold jg;by_cases h0:aY s=0
 ·obtain ⟨r,e2,hr⟩:=zZ h h0;have e3:=av1 h.toFr' hr;obtain ⟨s1,w1,s2,w2,rfl,h1,h2⟩:=hr;obtain ⟨l1,u1⟩:=h1.az;obtain ⟨l2,u2⟩:=h2.az;rw [h0] at e1;rw [yI h0];have e4:=fun b=>mO h.fK b 3
  by_cases hm:cf (aM s).num<m
  ·rw [yI hm];have e5:=e4 true;simp only [y5] at e5;simp only [go_sem,ya,KM,e1,yq,yH,e2,bl,aZ,u1.ah,u2.ah,e3,hm,e5]
  ·rw [yB hm];have e5:=e4 false;simp only [yD,yO] at e5;simp only [go_sem,ya,KM,e1,yq,yH,e2,bl,aZ,u1.ah,u2.ah,e3,hm,yo,e5]
 ·rw [yB h0];simp only [go_sem,ya,KM,e1,h0,yo,yF]
def m60 (h:Sp P L) {x y s:List Nat} (hx:x.length<=1000000000) (hy:y.length<=1000000000) (hs:s.length<=1000000000):ae P L 60 [fj x y s] (aa (bj [bj [aY x,aY y],jg s 0])):=by
 have e1:=Qp h hx hy;have e2:=Xr h hs 0;have e3:=sC h.og (fm true [bj [aY x,aY y],jg s 0]) (by simp);simp only [yr,yE,yd,yb,yU,xU] at e3;unfold ae at e1 e2 ⊢;rw [av h.W8];simp only [go_sem,ya,yb,yt,ye,yh,V6,aZ,aB,aV,yd,dl,e1,e2,MY,e3]
def auK (a b c d e f:List Nat):gH (.ag [2,2,2]) (fj a b c) (fj d e f)=some (cA a d&&(cA b e&&cA c f)):=by
 show dJ [2,2,2] [.str a,.str b,.str c] [.str d,.str e,.str f]=_
 simp only [dJ]
 grind
def HV (a:List Nat):cA a a=true:=MW rfl
def m68 (h:Sp P L) (x y s:List Nat):ae P L 68 [fj x y s] (.bool (cA s [48])):=by
 unfold ae;rw [av h.Xd];simp only [go_sem,ya,yb,ye,V8,aB,aV,yd,dl,fU,aqy,auK,cQ,HV,Bool.true_and]
def Hg (h:Sp P L) {x y:List Nat} (hx:aY x=0) (hy:aY y=0):∃r,ae P L 54 [dI x y] r/\mc r (aM x) (aM y):=by
 obtain ⟨p,e1,hp⟩:=zZ h hx;obtain ⟨q,e2,hq⟩:=zZ h hy;obtain ⟨s1,w1,s2,w2,rfl,h1,h2⟩:=hp;obtain ⟨s3,w3,s4,w4,rfl,h3,h4⟩:=hq;obtain ⟨l1,u1⟩:=h1.az;obtain ⟨l2,u2⟩:=h2.az;obtain ⟨l3,u3⟩:=h3.az;obtain ⟨l4,u4⟩:=h4.az;refine ⟨_,?_,s1,w1,s2,w2,s3,w3,s4,w4,rfl,h1,h2,h3,h4⟩;unfold ae at e1 e2 ⊢;rw [av h.W5];simp only [go_sem,ya,yb,V4,aB,aV,yd,bU,e1,e2,bl,u1.one,u2.one,u3.one,u4.one,Sv,Sw,NN u1 u2 u3 u4,dc,dd,yj,Bn,NO u1 u2 u3 u4]
def Lk (h:Sp P L) {v w:AV} {a b t:Rat} {K:Nat} (hv:mc v a b) (hw:cE w t) (ka:Hq K a) (kb:Hq K b) (kt:Hq K t) (hK:K<=10000000000):∃r,ae P L 75 [v,w] r/\mc r (a*t) (b*t):=by
 obtain ⟨s1,w1,s2,w2,s3,w3,s4,w4,rfl,h1,h2,h3,h4⟩:=hv;obtain ⟨p,e1,hp⟩:=sK h.toFr' ⟨s1,w1,s2,w2,rfl,h1,h2⟩ hw ka kt hK;obtain ⟨q,e2,hq⟩:=sK h.toFr' ⟨s3,w3,s4,w4,rfl,h3,h4⟩ hw kb kt hK;obtain ⟨s5,w5,s6,w6,rfl,h5,h6⟩:=hw;obtain ⟨x1,y1,x2,y2,rfl,g1,g2⟩:=hp;obtain ⟨x3,y3,x4,y4,rfl,g3,g4⟩:=hq;obtain ⟨l1,u1⟩:=h1.az;obtain ⟨l2,u2⟩:=h2.az;obtain ⟨l3,u3⟩:=h3.az;obtain ⟨l4,u4⟩:=h4.az;obtain ⟨l5,u5⟩:=h5.az;obtain ⟨l6,u6⟩:=h6.az;obtain ⟨m1,v1⟩:=g1.az;obtain ⟨m2,v2⟩:=g2.az;obtain ⟨m3,v3⟩:=g3.az;obtain ⟨m4,v4⟩:=g4.az;refine ⟨_,?_,x1,y1,x2,y2,x3,y3,x4,y4,rfl,g1,g2,g3,g4⟩;unfold ae at e1 e2 ⊢;rw [av h.h75]
 simp only [go_sem,ya,yb,We,aB,aV,yd,jE,kA,aZ,u1.pu,u1.ah,u1.one,u2.pu,u2.ah,u2.one,u3.pu,u3.ah,u3.one,u4.pu,u4.ah,u4.one,u5.pu,u5.ah,u5.one,u6.pu,u6.ah,u6.one,v1.one,v2.one,v3.one,v4.one,e1,e2,bl,Sv,Sw,NN v1 v2 v3 v4,dc,dd,yj,Bn,NO v1 v2 v3 v4]
def O4 (h:Sp P L) {v w:AV} {a b c d:Rat} {K:Nat} (hv:mc v a b) (hw:mc w c d) (ka:Hq K a) (kb:Hq K b) (kc:Hq K c) (kd:Hq K d) (hK:K<=10000000000):∃r,ae P L 112 [v,w] r/\mc r (a+c) (b+d):=by
 obtain ⟨s1,w1,s2,w2,s3,w3,s4,w4,rfl,h1,h2,h3,h4⟩:=hv;obtain ⟨s5,w5,s6,w6,s7,w7,s8,w8,rfl,h5,h6,h7,h8⟩:=hw;obtain ⟨p,e1,hp⟩:=Qc h.toFr' ⟨s1,w1,s2,w2,rfl,h1,h2⟩ ⟨s5,w5,s6,w6,rfl,h5,h6⟩ ka kc hK;obtain ⟨q,e2,hq⟩:=Qc h.toFr' ⟨s3,w3,s4,w4,rfl,h3,h4⟩ ⟨s7,w7,s8,w8,rfl,h7,h8⟩ kb kd hK;obtain ⟨x1,y1,x2,y2,rfl,g1,g2⟩:=hp;obtain ⟨x3,y3,x4,y4,rfl,g3,g4⟩:=hq;obtain ⟨l1,u1⟩:=h1.az;obtain ⟨l2,u2⟩:=h2.az;obtain ⟨l3,u3⟩:=h3.az;obtain ⟨l4,u4⟩:=h4.az;obtain ⟨l5,u5⟩:=h5.az;obtain ⟨l6,u6⟩:=h6.az;obtain ⟨l7,u7⟩:=h7.az;obtain ⟨l8,u8⟩:=h8.az;obtain ⟨m1,v1⟩:=g1.az;obtain ⟨m2,v2⟩:=g2.az;obtain ⟨m3,v3⟩:=g3.az;obtain ⟨m4,v4⟩:=g4.az;refine ⟨_,?_,x1,y1,x2,y2,x3,y3,x4,y4,rfl,g1,g2,g3,g4⟩;unfold ae at e1 e2 ⊢;rw [av h.aw2]
 simp only [go_sem,ya,yb,TS,aB,aV,yd,jE,kA,aZ,u1.pu,u1.ah,u1.one,u2.pu,u2.ah,u2.one,u3.pu,u3.ah,u3.one,u4.pu,u4.ah,u4.one,u5.pu,u5.ah,u5.one,u6.pu,u6.ah,u6.one,u7.pu,u7.ah,u7.one,u8.pu,u8.ah,u8.one,v1.one,v2.one,v3.one,v4.one,e1,e2,bl,Sv,Sw,NN v1 v2 v3 v4,dc,dd,yj,Bn,NO v1 v2 v3 v4]
def aw5 (h:Sp P L) {v:AV} {a b:Rat} {K:Nat} (hv:mc v a b) (ka:Hq K a) (kb:Hq K b) (hK:K<=4000000000):ae P L 113 [v] (.bool (LG a||LG b)):=by
 obtain ⟨s1,w1,s2,w2,s3,w3,s4,w4,rfl,h1,h2,h3,h4⟩:=hv;have e1:=OW h.toTx ⟨s1,w1,s2,w2,rfl,h1,h2⟩ ka hK;have e2:=OW h.toTx ⟨s3,w3,s4,w4,rfl,h3,h4⟩ kb hK;obtain ⟨l1,u1⟩:=h1.az;obtain ⟨l2,u2⟩:=h2.az;obtain ⟨l3,u3⟩:=h3.az;obtain ⟨l4,u4⟩:=h4.az;unfold ae at e1 e2 ⊢;rw [av h.aw3]
 cases hb:LG a with
 | true=>
  rw [hb] at e1;simp only [go_sem,ya,yb,N6,aB,aV,yd,kA,aZ,u1.pu,u1.ah,u1.one,u2.pu,u2.ah,u2.one,u3.pu,u3.one,u4.pu,u4.one,e1];rfl
 | false=>
  rw [hb] at e1;simp only [go_sem,ya,yb,N6,aB,aV,yd,jE,kA,aZ,u1.pu,u1.ah,u1.one,u2.pu,u2.ah,u2.one,u3.pu,u3.ah,u3.one,u4.pu,u4.ah,u4.one,e1,e2];rfl
def aw6 (h:Sp P L) {v:AV} {a b:Rat} {K:Nat} (hv:mc v a b) (ka:Hq K a) (kb:Hq K b) (hK:K<=4000000000):ae P L 114 [v] (gh a b):=by
 obtain ⟨s1,w1,s2,w2,s3,w3,s4,w4,rfl,h1,h2,h3,h4⟩:=hv;have e1:=Qf h.toTx ⟨s1,w1,s2,w2,rfl,h1,h2⟩ ka hK;have e2:=Qf h.toTx ⟨s3,w3,s4,w4,rfl,h3,h4⟩ kb hK;obtain ⟨l1,u1⟩:=h1.az;obtain ⟨l2,u2⟩:=h2.az;obtain ⟨l3,u3⟩:=h3.az;obtain ⟨l4,u4⟩:=h4.az;unfold ae at e1 e2 ⊢;rw [av h.aw4];simp only [go_sem,ya,yb,ye,TU,aB,aV,yd,jE,kA,aZ,u1.pu,u1.ah,u1.one,u2.pu,u2.ah,u2.one,u3.pu,u3.ah,u3.one,u4.pu,u4.ah,u4.one,e1,e2,de];rfl
def m65 (h:Sp P L) {v:AV} {a b:Rat} {K:Nat} (hv:mc v a b) (ka:Hq K a) (kb:Hq K b) (hK:K<=4000000000):ae P L 65 [v] (if (LG a||LG b)=true then .ap [dI [] [],aa 4] else .ap [gh a b,aa 0]):=by
 have e1:=aw5 h hv ka kb hK;have e2:=aw6 h hv ka kb hK;obtain ⟨s1,w1,s2,w2,s3,w3,s4,w4,rfl,h1,h2,h3,h4⟩:=hv;obtain ⟨l1,u1⟩:=h1.az;obtain ⟨l2,u2⟩:=h2.az;obtain ⟨l3,u3⟩:=h3.az;obtain ⟨l4,u4⟩:=h4.az;unfold ae at e1 e2 ⊢;rw [av h.Xa]
 cases hb:(LG a||LG b) with
 | true=>
  rw [hb] at e1;simp only [go_sem,ya,yb,PJ,aB,yd,Bn,aZ,u1.pu,u1.ah,u1.one,u2.pu,u2.ah,u2.one,u3.pu,u3.ah,u3.one,u4.pu,u4.ah,u4.one,e1,de];rfl
 | false=>
  rw [hb] at e1;simp only [go_sem,ya,yb,PJ,aB,yd,Bn,aZ,u1.pu,u1.ah,u1.one,u2.pu,u2.ah,u2.one,u3.pu,u3.ah,u3.one,u4.pu,u4.ah,u4.one,e1,e2,bl,de];rfl
end
end
section
open Go (IntKind)
structure F4 (c1 c2 c3 c4:AV):Prop where
 ah:∀(n:Nat) (hp:Hp),freeze (n+20) hp (.agg [c1,c2,c3,c4])=some (.agg [c1,c2,c3,c4],hp)
 dT:∀hp:Hp,result hp (.agg [c1,c2,c3,c4])=some (.agg [c1,c2,c3,c4])
 st:∀(hp:Hp) (ct id:Nat) (a b c d:AV),eM hp ct id 0 4 [c1,c2,c3,c4] (some (.cells true true true 4 [a,b,c,d]))=some (.ap [],aW hp id (.cells true true true 4 [c1,c2,c3,c4]),ct)
 bx:∀ct:Nat,By ct 4 [c1,c2,c3,c4]=some (.ptr ct 0,.cells true true true 4 [c1,c2,c3,c4])
 o1:bm c1=true
 o2:bm c2=true
 o3:bm c3=true
 o4:bm c4=true
 pu:aR (.agg [c1,c2,c3,c4])=true
 z1:∀(n:Nat) (hp:Hp),freeze (n+1) hp c1=some (c1,hp)
 z2:∀(n:Nat) (hp:Hp),freeze (n+1) hp c2=some (c2,hp)
 z3:∀(n:Nat) (hp:Hp),freeze (n+1) hp c3=some (c3,hp)
 z4:∀(n:Nat) (hp:Hp),freeze (n+1) hp c4=some (c4,hp)
structure F8 (c1 c2 c3 c4 c5 c6 c7 c8:AV):Prop where
 ah:∀(n:Nat) (hp:Hp),freeze (n+20) hp (.agg [c1,c2,c3,c4,c5,c6,c7,c8])=some (.agg [c1,c2,c3,c4,c5,c6,c7,c8],hp)
 dT:∀hp:Hp,result hp (.agg [c1,c2,c3,c4,c5,c6,c7,c8])=some (.agg [c1,c2,c3,c4,c5,c6,c7,c8])
 st:∀(hp:Hp) (ct id:Nat) (a b c d e f g h:AV),eM hp ct id 0 8 [c1,c2,c3,c4,c5,c6,c7,c8] (some (.cells true true true 8 [a,b,c,d,e,f,g,h]))=some (.ap [],aW hp id (.cells true true true 8 [c1,c2,c3,c4,c5,c6,c7,c8]),ct)
 bx:∀ct:Nat,By ct 8 [c1,c2,c3,c4,c5,c6,c7,c8]=some (.ptr ct 0,.cells true true true 8 [c1,c2,c3,c4,c5,c6,c7,c8])
def cE.gen {v:AV} {a:Rat} (h:cE v a):∃c1 c2 c3 c4,v= .agg [c1,c2,c3,c4]/\F4 c1 c2 c3 c4:=by
 obtain ⟨s1,w1,s2,w2,rfl,h1,h2⟩:=h;obtain ⟨l1,u1⟩:=h1.az;obtain ⟨l2,u2⟩:=h2.az;refine ⟨_,_,_,_,rfl,fun n hp=>?_,lO u1 u2,fun hp ct id a b c d=>kU u1 u2 hp ct id a b c d,fun ct=>by simp only [go_sem,yb,aB,u1.pu,u1.one,u2.pu,u2.one],rfl,u1.one,rfl,u2.one,by simp [aR,aH,u1.pu,u2.pu],fun _ _=>rfl,fun n _=>u1.ah n,fun _ _=>rfl,fun n _=>u2.ah n⟩;exact aZ _ _ (by simp only [go_sem,u1.ah,u2.ah])
def mc.gen {v:AV} {a b:Rat} (h:mc v a b):∃c1 c2 c3 c4 c5 c6 c7 c8,v= .agg [c1,c2,c3,c4,c5,c6,c7,c8]/\F8 c1 c2 c3 c4 c5 c6 c7 c8:=by
 obtain ⟨s1,w1,s2,w2,s3,w3,s4,w4,rfl,h1,h2,h3,h4⟩:=h;obtain ⟨l1,u1⟩:=h1.az;obtain ⟨l2,u2⟩:=h2.az;obtain ⟨l3,u3⟩:=h3.az;obtain ⟨l4,u4⟩:=h4.az;refine ⟨_,_,_,_,_,_,_,_,rfl,fun n hp=>?_,NO u1 u2 u3 u4,fun hp ct id a b c d e f g h=>NN u1 u2 u3 u4 hp ct id a b c d e f g h,fun ct=>by simp only [go_sem,yb,aB,u1.pu,u1.one,u2.pu,u2.one,u3.pu,u3.one,u4.pu,u4.one]⟩;exact aZ _ _ (by simp only [go_sem,u1.ah,u2.ah,u3.ah,u4.ah])
def Eu {a b:Int}:bj [a,b]=0↔a=0/\b=0:=by
 simp only [bj];by_cases h:a=0<;>by_cases h2:b=0<;>simp [h,h2]
noncomputable def qw (x y s:List Nat):Int:=bj [bj [aY x,aY y],jg s 0]
def aa2 {x y s:List Nat} (h:qw x y s=0):aY x=0/\aY y=0/\aY s=0/\0<=cf (aM s).num:=by
 obtain ⟨h1,h2⟩:=Eu.1 h;obtain ⟨h3,h4⟩:=Eu.1 h1;obtain ⟨h5,h6⟩:=Su h2;exact ⟨h3,h4,h5,h6⟩
section
variable {P:aG} {L:Lib}
def nat_eq {s:List Nat} (h:aY s=0):cA s [48]=decide (aM s=0):=by
 have:=SX (aM s)
 rwa [<-(sR h).1] at this
def m63 (h:Sp P L) {x y s:List Nat} {w:AV} {hh:Rat} (hs:aY s=0) (hw:cE w hh) {K:Nat} (kh:Hq K hh) (hK:K<=1000000000):ae P L 63 [fj x y s,w] (.bool (zn (aM s) hh)):=by
 have e1:=m68 h x y s;rw [nat_eq hs] at e1;obtain ⟨r,e2,hr⟩:=zZ h hs;have e3:=m71 h.toFr' hw hr (kh.mono (show K<=K+2400 by omega)) ((iG hs (yC 2400)).mono (show 2400<=K+2400 by omega)) (by omega);obtain ⟨s1,w1,s2,w2,rfl,h1,h2⟩:=hw;obtain ⟨s3,w3,s4,w4,rfl,h3,h4⟩:=hr;obtain ⟨l1,u1⟩:=h1.az;obtain ⟨l2,u2⟩:=h2.az;obtain ⟨l3,u3⟩:=h3.az;obtain ⟨l4,u4⟩:=h4.az;unfold zn;unfold ae at e1 e2 e3 ⊢;rw [av h.Pm];by_cases h0:aM s=0
 ·rw [xh h0] at e1 ⊢;simp only [go_sem,ya,yb,KN,aZ,aB,fU,u1.pu,u1.one,u2.pu,u2.one,e1,Bool.true_or]
 ·rw [yR h0] at e1 ⊢;by_cases hb:hh<aM s
  ·have:=(MC _ _).2 hb
   rw [xh hb];simp only [go_sem,ya,yb,KN,aZ,aB,fU,u1.pu,u1.ah,u1.one,u2.pu,u2.ah,u2.one,u3.ah,u4.ah,e1,kA,aV,yd,MY,e2,bl,e3,this,yq,Bool.false_or]
  ·have:¬zV hh (aM s)<0:=fun e=>hb ((MC _ _).1 e)
   rw [yR hb];simp only [go_sem,ya,yb,KN,aZ,aB,fU,u1.pu,u1.ah,u1.one,u2.pu,u2.ah,u2.one,u3.ah,u4.ah,e1,kA,aV,yd,MY,e2,bl,e3,this,yo,Bool.or_self]
def m64 (h:Sp P L) {dx dy s x y:List Nat} {w:AV} {hh:Rat} (F9:aY dx=0) (hdy:aY dy=0) (hs:aY s=0) (hx:aY x=0) (hy:aY y=0) (hw:cE w hh) {K:Nat} (kh:Hq K hh) (hK:K<=100000000):
  ∃r,ae P L 64 [fj dx dy s,w,dI x y] r/\mc r (fw (aM s) hh*aM x+hh*aM dx) (fw (aM s) hh*aM y+hh*aM dy):=by
 have e1:=m68 h dx dy s;rw [nat_eq hs] at e1;have kx:=(iG hx (yC 2400));have ky:=(iG hy (yC 2400));have DU:=(iG F9 (yC 2400));have DV:=(iG hdy (yC 2400));have ks:=(iG hs (yC 2400));obtain ⟨M,hM⟩:∃M,M=2*K+8000:=⟨_,rfl⟩;obtain ⟨p,e2,hp⟩:=Hg h hx hy;obtain ⟨d,e3,hd⟩:=Hg h F9 hdy;have AA:=hw;obtain ⟨d2,e4,dU⟩:=Lk h hd hw (DU.mono (show 2400<=M by omega)) (DV.mono (by omega)) (kh.mono (by omega)) (by omega);have DW:=HU ks kh;have sum:∀{q:AV},mc q (fw (aM s) hh*aM x) (fw (aM s) hh*aM y)->∃r,ae P L 112 [q,d2] r/\mc r (fw (aM s) hh*aM x+hh*aM dx) (fw (aM s) hh*aM y+hh*aM dy):=fun {q} hq=>by
  obtain ⟨r,e,hr⟩:=O4 h hq dU ((DW.mul kx).mono (show 2400+K+3+2400<=M by omega)) ((DW.mul ky).mono (by omega)) ((DU.mul kh).mono (by omega)) ((DV.mul kh).mono (by omega)) (by omega);rw [wL (aM dx),wL (aM dy)] at hr;exact ⟨r,e,hr⟩
 by_cases h0:aM s=0
 ·rw [xh h0] at e1;have fS:fw (aM s) hh=1:=by unfold fw;rw [yI h0]
  obtain ⟨r,e5,hr⟩:=sum (q:=p) (by rw [fS,uI,uI];exact hp)
  refine ⟨r,?_,hr⟩;obtain ⟨w1,w2,w3,w4,rfl,gw⟩:=hw.gen;obtain ⟨p1,p2,p3,p4,p5,p6,p7,p8,rfl,gp⟩:=hp.gen;obtain ⟨d1,d2',d3,d4,d5,d6,d7,d8,rfl,gd⟩:=hd.gen;obtain ⟨f1,f2,f3,f4,f5,f6,f7,f8,rfl,gf⟩:=dU.gen;obtain ⟨r1,r2,r3,r4,r5,r6,r7,r8,rfl,gr⟩:=hr.gen;unfold ae at e1 e2 e3 e4 e5 ⊢;rw [av h.Ql];simp only [go_sem,ya,yb,PI,aZ,aB,dl,fU,kA,Bn,aV,yd,gw.bx,gw.ah,gp.ah,gd.ah,gf.ah,e1,e2,e3,e4,e5,yH,bl,gp.st,gr.st,dc,dd,yj,gr.dT]
 ·rw [yR h0] at e1;have fS:fw (aM s) hh=1-hh/aM s:=by unfold fw;rw [yB h0]
  obtain ⟨o,e6,ho⟩:=DL h.toFr' (z:=1) (by decide) (by decide);obtain ⟨f,e7,hf⟩:=zZ h hs;obtain ⟨g,e8,hg⟩:=m70 h.toFr' hw hf h0 (kh.mono (show K<=M by omega)) (ks.mono (by omega)) (by omega);have k1:Hq M ((1:Int):Rat):=lm.mono (by omega);obtain ⟨i,e9,hi⟩:=Lc h.toFr' ho hg k1 ((kh.div ks).mono (by omega)) (by omega);rw [show ((1:Int):Rat)-hh/aM s=fw (aM s) hh from fS.symm] at hi;obtain ⟨q,eA,hq⟩:=Lk h hp hi (kx.mono (show 2400<=M by omega)) (ky.mono (by omega)) (DW.mono (by omega)) (by omega);rw [wL (aM x),wL (aM y)] at hq;obtain ⟨r,e5,hr⟩:=sum hq;refine ⟨r,?_,hr⟩;obtain ⟨w1,w2,w3,w4,rfl,gw⟩:=hw.gen;obtain ⟨p1,p2,p3,p4,p5,p6,p7,p8,rfl,gp⟩:=hp.gen;obtain ⟨d1,d2',d3,d4,d5,d6,d7,d8,rfl,gd⟩:=hd.gen;obtain ⟨f1,f2,f3,f4,f5,f6,f7,f8,rfl,gf⟩:=dU.gen;obtain ⟨r1,r2,r3,r4,r5,r6,r7,r8,rfl,gr⟩:=hr.gen;obtain ⟨q1,q2,q3,q4,q5,q6,q7,q8,rfl,gq⟩:=hq.gen
  obtain ⟨o1,o2,o3,o4,rfl,go⟩:=ho.gen;obtain ⟨x1,x2,x3,x4,rfl,gx⟩:=hf.gen;obtain ⟨y1,y2,y3,y4,rfl,gy⟩:=hg.gen;obtain ⟨z1,z2,z3,z4,rfl,gz⟩:=hi.gen;unfold ae at e1 e2 e3 e4 e5 e6 e7 e8 e9 eA ⊢;rw [av h.Ql];simp only [go_sem,ya,yb,PI,aZ,aB,dl,fU,kA,Bn,aV,yd,MY,gw.bx,gw.ah,gp.ah,gd.ah,gf.ah,go.ah,gx.ah,gy.ah,gz.ah,gq.ah,e1,e2,e3,e4,e5,e6,e7,e8,e9,eA,yF,bl,gp.st,gq.st,gr.st,dc,dd,yj,gr.dT]
end
end
section
open Go (IntKind)
def QL:List AV->List Rat->Prop
 | [],[]=>True
 | a::b::c::d::r,x::l=>cE (.agg [a,b,c,d]) x/\QL r l
 | _,_=>False
def QL.nil:QL [] []:=trivial
def QL.cons {a b c d:AV} {r:List AV} {x:Rat} {l:List Rat} (h1:cE (.agg [a,b,c,d]) x) (h2:QL r l):QL (a::b::c::d::r) (x::l):=⟨h1,h2⟩
def QL.inv {cs:List AV} {x:Rat} {l:List Rat} (h:QL cs (x::l)):∃a b c d r,cs=a::b::c::d::r/\cE (.agg [a,b,c,d]) x/\QL r l:=by
 match cs,h with
 | a::b::c::d::r,h=>exact ⟨a,b,c,d,r,rfl,h.1,h.2⟩
def QL.Kh {cs:List AV} (h:QL cs []):cs=[]:=by
 match cs,h with
 | [],_=>rfl
 | [_],h=>exact h.elim
 | [_,_],h=>exact h.elim
 | [_,_,_],h=>exact h.elim
 | _::_::_::_::_,h=>exact h.elim
def QL.len:∀{l:List Rat} {cs:List AV},QL cs l->cs.length=l.length*4
 | [],_,h=>by rw [h.Kh];rfl
 | x::l,cs,h=>by
  obtain ⟨a,b,c,d,r,rfl,_,h2⟩:=h.inv
  have:=h2.len
  grind
def F4.Hh {c1 c2 c3 c4:AV} (g:F4 c1 c2 c3 c4):aR c1=true/\aR c2=true/\aR c3=true/\aR c4=true:=by
 have:=g.pu
 simpa only [aR,aH,uF,yg] using this
def cE.f4 {a b c d:AV} {x:Rat} (h:cE (.agg [a,b,c,d]) x):F4 a b c d:=by
 obtain ⟨_,_,_,_,e,g⟩:=h.gen
 grind
def QL.pu:∀{l:List Rat} {cs:List AV},QL cs l->aH cs=true
 | [],_,h=>by rw [h.Kh];rfl
 | x::l,cs,h=>by
  obtain ⟨a,b,c,d,r,rfl,h1,h2⟩:=h.inv;obtain ⟨p1,p2,p3,p4⟩:=h1.f4.Hh;simp only [aH,p1,p2,p3,p4,h2.pu,wp]
def QL.one:∀{l:List Rat} {cs:List AV},QL cs l->bK cs=true
 | [],_,h=>by rw [h.Kh];rfl
 | x::l,cs,h=>by
  obtain ⟨a,b,c,d,r,rfl,h1,h2⟩:=h.inv;have g:=h1.f4;simp only [bK,g.o1,g.o2,g.o3,g.o4,h2.one,wp]
def QL.dL:∀{l m:List Rat} {cs ds:List AV},QL cs l->QL ds m->QL (cs++ds) (l++m)
 | [],m,cs,ds,h,k=>by rw [h.Kh];exact k
 | x::l,m,cs,ds,h,k=>by
  obtain ⟨a,b,c,d,r,rfl,h1,h2⟩:=h.inv;exact ⟨h1,h2.dL k⟩
def QL.snoc {l:List Rat} {x:Rat} {cs:List AV} {a b c d:AV} (h:QL cs l) (k:cE (.agg [a,b,c,d]) x):QL (cs++[a,b,c,d]) (l++[x]):=h.dL ⟨k,trivial⟩
def QL.get:∀{l:List Rat} {cs:List AV} {i:Nat},QL cs l->∀(hi:i<l.length),∃a b c d r,cs.drop (i*4)=a::b::c::d::r/\cE (.agg [a,b,c,d]) l[i]
 | [],_,i,_,hi=>absurd hi (Nat.not_lt_zero i)
 | x::l,cs,0,h,hi=>by
  obtain ⟨a,b,c,d,r,rfl,h1,_⟩:=h.inv
  grind
 | x::l,cs,i+1,h,hi=>by
  obtain ⟨a,b,c,d,r,rfl,_,h2⟩:=h.inv;obtain ⟨a',b',c',d',r',e,k⟩:=h2.get (i:=i) (by simpa using hi)
  grind
def jz (v:AV) (l:List Rat):Prop:=(v= .ab/\l=[])\/∃e cs,v= .aE e l.length cs/\QL cs l
section
variable {v:AV} {l:List Rat} {hp:Hp}
def jz.len (h:jz v l) {hp:Hp}:iI hp 1 v=some (.int .i64 (l.length:Nat)):=by
 rcases h with ⟨rfl,rfl⟩ | ⟨e,cs,rfl,h⟩<;>rfl
def jz.pu (h:jz v l):aR v=true:=by
 rcases h with ⟨rfl,rfl⟩ | ⟨e,cs,rfl,h⟩<;>rfl
def jz.ah (h:jz v l) (n:Nat) {hp:Hp}:freeze (n+1) hp v=some (v,hp):=by
 rcases h with ⟨rfl,rfl⟩ | ⟨e,cs,rfl,h⟩<;>rfl
def jz.shut (h:jz v l):shut v=v:=by
 rcases h with ⟨rfl,rfl⟩ | ⟨e,cs,rfl,h⟩<;>rfl
def jz.bT (h:jz v l):bT v=v:=by
 rcases h with ⟨rfl,rfl⟩ | ⟨e,cs,rfl,h⟩<;>rfl
def jz.dT (h:jz v l) {hp:Hp}:result hp v=some v:=by
 rcases h with ⟨rfl,rfl⟩ | ⟨e,cs,rfl,h⟩<;>rfl
def jz.one (h:jz v l):bm v=true:=by
 rcases h with ⟨rfl,rfl⟩ | ⟨e,cs,rfl,h⟩<;>rfl
def jz.cells (h:jz v l):cellsOf v=[v]:=by
 rcases h with ⟨rfl,rfl⟩ | ⟨e,cs,rfl,h⟩<;>rfl
def jz.bk (h:jz v l) {i:Nat} (hi:i<l.length):∃a b c d r,jx 4 i v=some (.aI (a::b::c::d::r))/\cE (.agg [a,b,c,d]) l[i]:=by
 rcases h with ⟨rfl,rfl⟩ | ⟨e,cs,rfl,h⟩
 ·grind
 ·obtain ⟨a,b,c,d,r,e1,e2⟩:=h.get hi;refine ⟨a,b,c,d,r,?_,e2⟩;rw [Se e _ hi,e1]
def aoa {cs:List AV} (e:Bool) (h:QL cs l):jz (.aE e l.length cs) l:= .inr ⟨e,cs,rfl,h⟩
end
def as8 {tm:Env} {a b c d x0 x1 x2 x3:AV} {r:List (Nat×Nat×X)} (h1:bm a=true) (h2:bm b=true) (h3:bm c=true) (h4:bm d=true):gB tm [x0,x1,x2,x3] 0 4 [a,b,c,d] r=fill tm [a,b,c,d] r:=by
 rw [j9 (by rfl) (by simp) (by simp [bK,h1,h2,h3,h4])];rfl
def afo (fc pu ex:Bool) (a b c d:AV):Wr 0 1 4 (some (.cells fc pu ex 4 [a,b,c,d]))=some (1,[a,b,c,d]):=rfl
def aw7 (hp:Hp) (cs:List AV):jd hp 4 true (.aI cs)=dO 4 true cs:=rfl
def mL (s:Rat) (l:List Rat):Rat:=l.foldl (·+·) s
def ZW {s:Rat} {l:List Rat} {i:Nat} (h:i<l.length):mL s (l.take (i+1))=mL s (l.take i)+l[i]:=by
 rw [List.take_succ_eq_append_getElem h];simp only [mL,List.foldl_append,List.foldl_cons,List.foldl_nil]
def SY {K:Nat}:∀{l:List Rat} {s:Rat} {M:Nat},Hq M s->(∀x,x∈l->Hq K x)->Hq (M+l.length*(K+1)) (mL s l)
 | [],s,M,hs,_=>by simpa [mL] using hs
 | x::l,s,M,hs,hl=>by
  have:=SY (l:=l) (hs.add (hl x List.mem_cons_self)) (fun y hy=>hl y (List.mem_cons_of_mem _ hy))
  refine Hq.mono (m:=M+(x::l).length*(K+1)) this ?_;simp only [yr,Nat.add_mul];omega
def ab1 {K M:Nat} {l:List Rat} {s:Rat} (hs:Hq M s) (hl:∀x,x∈l->Hq K x) (i:Nat):Hq (M+l.length*(K+1)) (mL s (l.take i)):=
 (SY hs (fun x hx=>hl x (List.mem_of_mem_take hx))).mono (by rw [List.length_take];have:=Nat.mul_le_mul_right (K+1) (Nat.min_le_right i l.length);omega)
end
section
open Go (IntKind)
section
variable {P:aG} {L:Lib}
def aw8 (z6:Has P L 150 Fi) {v:AV} {z:Int} (hv:cL v z) (h1: -9223372036854775808<z) (h2:z<9223372036854775808):ae P L 150 [v] (.ap [aa z,.bool true]):=by
 obtain ⟨s,w,rfl,hn⟩:=hv;rcases hn with ⟨rfl,rfl,_,_⟩ | ⟨e,l,rfl,g,n,hb,hs,h3⟩
 ·unfold ae;rw [av z6];simp only [go_sem,ya,yb,Fi,aB,aV,yd,bU,gS,cQ];rfl
 ·omega
def Ek {a:Rat} {K:Nat} (h:Hq K a) (hK:1<=K):Hq K ((a.floor:Int):Rat):=by
 refine ⟨?_,?_⟩
 ·exact h.1.le (by
   rw [xY,vO]
   exact uY _ _)
 ·rw [wt];unfold Bd;exact wB (by omega)
def ZX (n:Int) {s:Int} (hs:0<s):((n:Rat)-(s:Rat)*(((n:Rat)/(s:Rat)).floor:Int))=((n%s:Int):Rat):=by
 have h1:(n:Rat)/(s:Rat)=Rat.divInt n s:=(Rat.divInt_eq_div n s).symm;have h2:((n:Rat)/(s:Rat)).floor=n/s:=by
  rw [h1];obtain ⟨p1,p2⟩:=LA (a:=n) hs;have hg:=Ip (a:=n) hs;rw [vO,p1,p2];have e1:=ady n s;have e2:=adz n s;show dt n s/dC n s=n/s
  have e3:=Int.mul_ediv_mul_of_pos (dt n s) (dC n s) hg;rw [<-e1,<-e2] at e3;exact e3.symm
 rw [h2,Int.emod_def];rw [Rat.intCast_sub,Rat.intCast_mul]
def agF (h:Fr' P L) (Dm:Has P L 103 Jp) (z6:Has P L 150 Fi) {v:AV} {a:Rat} {s:Int} {K:Nat} (hv:cE v a) (ka:Hq K a) (nv:100<=K) (hK:K<=1000000000) (ji:0<s) (hs:s<1000000):
  ∃f,ae P L 103 [v,aa s] (.ap [aa (a.floor%s),f])/\cE f (a-(a.floor:Int)):=by
 obtain ⟨p,e1,hp⟩:=af8 h hv ka (by omega);obtain ⟨w,e2,hw⟩:=J5 h hp;obtain ⟨n,e3,hn⟩:=DL h (z:=s) (by omega) (by omega);have kf:=Ek ka (by omega);have Kv:s.natAbs<2^64:=by omega
 have ks:Hq K (s:Rat):=⟨by rw [xY];exact yN Kv (xP (by decide) (by omega)),by rw [wt];unfold Bd;exact wB (by omega)⟩
 have U7:(s:Rat)≠0:=fun e=>by
  have:=congrArg Rat.num e
  rw [xY] at this
  have:s=0:=this
  omega
 obtain ⟨d,e4,hd⟩:=m70 h hw hn U7 kf ks (by omega);have kd:=kf.div ks;obtain ⟨g,e5,hg⟩:=af8 h hd kd (by omega);obtain ⟨gw,e6,hgw⟩:=J5 h hg;have kg:=Ek kd (by omega);obtain ⟨mu,e7,hmu⟩:=sK h hn hgw (ks.mono (show K<=K+K by omega)) kg (by omega);obtain ⟨r,e8,hr⟩:=Lc h hw hmu (kf.mono (show K<=K+(K+K) by omega)) (ks.mul kg) (by omega);rw [ZX _ ji] at hr;obtain ⟨f,e9,hf⟩:=Lc h hv hw ka kf (by omega);have pc:=xM a.floor (show s≠0 by omega);have auL:=we a.floor ji;refine ⟨f,?_,hf⟩;obtain ⟨v1,v2,v3,v4,rfl,gv⟩:=hv.gen;obtain ⟨w1,w2,w3,w4,rfl,gw'⟩:=hw.gen;obtain ⟨n1,n2,n3,n4,rfl,gn⟩:=hn.gen;obtain ⟨d1,d2,d3,d4,rfl,gd⟩:=hd.gen;obtain ⟨x1,x2,x3,x4,rfl,gx⟩:=hgw.gen;obtain ⟨y1,y2,y3,y4,rfl,gy⟩:=hmu.gen;obtain ⟨f1,f2,f3,f4,rfl,gf⟩:=hf.gen;obtain ⟨ps,pw,rfl,ao⟩:=hp;obtain ⟨gs,gw2,rfl,DR⟩:=hg;obtain ⟨lp,up⟩:=ao.az;obtain ⟨lg,ug⟩:=DR.az
 have gr:=hr;obtain ⟨r1,r2,r3,r4,BU,cp,fe⟩:=hr;subst BU;obtain ⟨l1,u1⟩:=cp.az;obtain ⟨l2,u2⟩:=fe.az;rw [xY] at cp;have AD:=aw8 (P:=P) (L:=L) z6 ⟨r1,r2,rfl,cp⟩ (by omega) (by omega);unfold ae at e1 e2 e3 e4 e5 e6 e7 e8 e9 AD ⊢;rw [av Dm];simp only [go_sem,ya,yb,Jp,gv.bx,gv.ah,gw'.ah,gn.ah,gd.ah,gx.ah,gy.ah,aZ,up.ah,ug.ah,u1.ah,aB,aV,yd,kA,dl,e1,e2,e3,e4,e5,e6,e7,e8,e9,AD,bl,gw'.st,kU u1 u2,gf.st,dc,dd,yj];have aw9:∀i:Int,A2 [aa i,AV.agg [f1,f2,f3,f4]]=some []:=fun i=>by
  simp only [A2,gf.pu,CM,ym]
 have gZ:∀(hp:Hp) (i:Int),rk deep hp [aa i,AV.agg [f1,f2,f3,f4]]=some ([aa i,AV.agg [f1,f2,f3,f4]],hp):=fun hp i=>by
  have e1:oJ deep hp (aa i)=some (aa i,hp):=rfl;have e2:oJ deep hp (.agg [f1,f2,f3,f4])=some (.agg [f1,f2,f3,f4],hp):=gf.ah 980 hp;simp only [rk,e1,e2]
 show result _ (.ap [aa (a.floor%s),.agg [f1,f2,f3,f4]])=_
 simp only [result,aw9,gZ]
end
end
section
open Go (IntKind)
def FE (a b:Rat):AV:=if (LG a||LG b)=true then .ap [dI [] [],aa 4] else .ap [gh a b,aa 0]
section
variable {P:aG} {L:Lib}
def Sx {hs hh x dx:Rat} {K:Nat} (ks:Hq K hs) (kh:Hq K hh) (kx:Hq K x) (kd:Hq K dx):Hq (5*K+10) (fw hs hh*x+hh*dx):=
 (((HU ks kh).mul kx).add (kh.mul kd)).mono (by omega)
end
end
section
open Go (IntKind)
def NP (a b c d:List Nat):gH (.ag [2,2]) (dI a b) (dI c d)=some (cA a c&&cA b d):=by
 show dJ [2,2] [.str a,.str b] [.str c,.str d]=_
 simp only [dJ];cases cA a c<;>cases cA b d<;>rfl
section
variable {P:aG} {L:Lib}
def R4 (nW:Has P L 310 zO) {bad:Int} (h0:bad≠0) (x y:List Nat):ae P L 310 [dI [] [],aa bad,aa bad,dI x y] (.bool true):=by
 unfold ae;rw [av nW];simp only [go_sem,ya,yb,zO,aB,h0,yo,yF,dl,NP,cQ,show cA [] []=true from rfl,wp,yq]
def aqz (h:Rl P L) (nW:Has P L 310 zO) (qH:Has P L 316 C9) {a b:Rat} {K:Nat} (ka:Hq K a) (kb:Hq K b) (hK:K<=4000000000) (hg:(LG a||LG b)=false):ae P L 310 [gh a b,aa 0,aa 0,gh a b] (.bool true):=by
 have e1:=Tv h qH (l:=[a,b]) (Cx true [RT a,RT b]) (by simp) (K:=K) (fun r hr=>by simp at hr;rcases hr with rfl | rfl<;>assumption) hK
 have:[a,b].any LG=false:=by simpa using hg
 rw [this] at e1;simp only [yr,yE,yd,yb,yU,xU,yD,yO] at e1;have e2:=MA (RT a);have e3:=MA (RT b);unfold ae at e1 ⊢;rw [av nW];simp only [go_sem,ya,yb,yt,ye,yh,zO,aB,yq,yH,aV,yd,bU,e1,dl,NP,cQ,e2,e3,wp]
def aob (h:Rl P L) (nW:Has P L 310 zO) (qH:Has P L 316 C9) {a b:Rat} {K:Nat} (ka:Hq K a) (kb:Hq K b) (hK:K<=4000000000) (hg:(LG a||LG b)=true):ae P L 310 [dI [] [],aa 4,aa 0,gh a b] (.bool true):=by
 have e1:=Tv h qH (l:=[a,b]) (Cx true [RT a,RT b]) (by simp) (K:=K) (fun r hr=>by simp at hr;rcases hr with rfl | rfl<;>assumption) hK
 have:[a,b].any LG=true:=by simpa using hg
 rw [this] at e1;simp only [yr,yE,yd,yb,yU,xU,y5] at e1;unfold ae at e1 ⊢;rw [av nW];simp only [go_sem,ya,yb,yt,ye,yh,zO,aB,yq,aV,yd,bU,e1,show ¬(4:Int)=0 by decide,yo,yF,dl,NP,cQ,show cA [] []=true from rfl,wp]
end
end
section
open Go (IntKind)
def alT {n:Int} {d:Nat} (hd:0<d):n/(d:Int)=if n<0/\0<n.natAbs%d then -((n.natAbs/d:Nat)+1:Int) else ck (decide (n<0)) (n.natAbs/d):=by
 have eO:=Nat.div_add_mod n.natAbs d;have hm:=Nat.mod_lt n.natAbs hd;generalize n.natAbs/d=q at*
 generalize hr:n.natAbs%d=r at*
 by_cases h0:n<0
 ·have hn:n= -((d*q+r:Nat):Int):=by omega
  by_cases h1:0<r
  ·rw [yI ⟨h0,h1⟩];rw [hn]
   refine (Int.ediv_emod_unique (a:= -((d*q+r:Nat):Int)) (b:=(d:Int)) (r:=(d:Int)-r) (q:= -((q:Int)+1)) (by omega)).2 ⟨?_,by omega,by omega⟩ |>.1;rw [yaU,Int.mul_add,Int.mul_one,Int.natCast_add,wE];omega
  ·have:r=0:=by omega
   subst this;rw [yB (by omega)];unfold ck;rw [yI (by simpa using h0),hn,yX,wE,<-yaU,Int.mul_ediv_cancel_left _ (by omega)]
 ·rw [yB (by omega)];unfold ck;rw [yB (by simpa using h0)];have hn:n=((d*q+r:Nat):Int):=by omega
  rw [hn];rw [<-Int.natCast_ediv,Nat.mul_add_div hd,Nat.div_eq_of_lt hm,yX]
section
variable {P:aG} {L:Lib}
def agG (h:Rm P L) (nX:Has P L 338 Bw) {a:Rat} {K:Nat} (ka:Hq K a) (hK:K<=8000000000):ae P L 338 [.str (RT a)] (.bool (decide (a.den=1))):=by
 have hl:=ES ka;have e0:=Dd h.zR (s:=RT a) (by omega);unfold ae at e0 ⊢;rw [av nX];by_cases hd:a.den=1
 ·have hs:bS (RT a)=(RT a).length:=by
   unfold RT;rw [yI hd]
   have:=D7 a.num []
   rw [List.append_nil] at this ⊢;rw [this];simp [bS]
  rw [hs] at e0;simp only [go_sem,ya,Bw,e0,hd,yq]
 ·have hs:bS (RT a)<(RT a).length:=by
   unfold RT;rw [yB hd,D7];simp [bS]
  rw [yR hd];simp only [go_sem,ya,Bw,e0,show ¬((bS (RT a):Nat):Int)=((RT a).length:Int) by omega,yo]
def axa (h:Rm P L) (qI:Has P L 339 Bx) {v w:AV} {n d:Int} {K:Nat} (hK:K<=7000000000) (hv:iW v n) (hw:iW w d) (kn:Bd K n) (kd:Bd K d) (hd:0<d):∃r,ae P L 339 [v,w] r/\iW r (n/d):=by
 obtain ⟨x,a,rfl,hx,ha,na,va⟩:=hv;obtain ⟨y,b,rfl,hy,hb,nb,vb⟩:=hw;have la:=xj (ix ha na (by rw [va];exact kn.r)) hK
 have lb:=xj (ix hb nb (by rw [vb];exact kd.r)) hK
 obtain ⟨q,r,lq,lr,e1,hq,hr,dq,nq,dr,nr,vq,vr⟩:=Tp h hx hy ha hb na nb (by omega) (by omega) (by omega);rw [va,vb] at vq vr;have Gf:lq.length<=7000000000:=xj (ix dq nq (by rw [vq];exact Nat.lt_of_le_of_lt (Nat.div_le_self _ _) kn.r)) hK
 have pD:=alT (n:=n) (d:=d.natAbs) (by omega);rw [show ((d.natAbs:Nat):Int)=d by omega] at pD;have lY:(0<n.natAbs%d.natAbs)↔0<lr.length:=by
  rw [<-vr];constructor
  ·intro h1;rcases xo lr.length with h0 | h0
   ·rw [List.eq_nil_of_length_eq_zero h0] at h1;simp [dv] at h1
   ·exact h0
  ·intro h1;rcases xo (dv lr) with h0 | h0
   ·have:=Sc nr dr h0;subst this;simp at h1
   ·exact h0
 by_cases hc:n<0/\0<lr.length
 ·obtain ⟨c1,c2⟩:=hc;rw [yI ⟨c1,lY.2 c2⟩] at pD;have fI:br (.aE true 1 [aa 1]) [(1:Int)]:=fm true [(1:Int)];obtain ⟨z,out,e2,hz,hdo,hvo,bq⟩:=agj h.OX h.mK hq fI dq (jF.2 (by decide)) (by omega) (by simp);simp only [yr,yE] at bq;obtain ⟨s,e3,hs⟩:=nS h.ie h.cR (decide (n<0)) hz hdo (by omega);have aQ:ck (decide (n<0)) (dv out)=n/d:=by
   rw [hvo,vq,pD];unfold ck;rw [yI (by simpa using c1)];simp [dv]
  rw [aQ] at hs;refine ⟨s,?_,hs⟩;obtain ⟨sw,sl,rfl,gF,_,_,_⟩:=hs;unfold ae at e1 e2 e3 ⊢;rw [av qI];simp only [c1,yq] at e3 ⊢;simp only [go_sem,ya,yb,yt,ye,yh,Bx,aB,hx.pu,hx.ah,hx.one,hy.pu,hy.ah,hy.one,aV,yd,bU,e1,hq.ah,hq.bT,hr.len,hr.bT,show (0:Int)<(lr.length:Int) by omega,yq,e2,hz.ah,e3,gF.pu,gF.one,bl,de];rcases gF with ⟨rfl,_⟩ | ⟨e,rfl⟩<;>rfl
 ·rw [yB (fun e=>hc ⟨e.1,lY.1 e.2⟩)] at pD;obtain ⟨s,e3,hs⟩:=nS h.ie h.cR (decide (n<0)) hq dq (by omega);rw [vq,<-pD] at hs;refine ⟨s,?_,hs⟩;obtain ⟨sw,sl,rfl,gF,_,_,_⟩:=hs;unfold ae at e1 e3 ⊢;rw [av qI];by_cases h0:n<0
  ·have kE:lr.length=0:=by
    rcases xo lr.length with h1 | h1
    ·exact h1
    ·exact absurd ⟨h0,h1⟩ hc
   simp only [h0,yq] at e3 ⊢;simp only [go_sem,ya,yb,Bx,aB,hx.pu,hx.ah,hx.one,hy.pu,hy.ah,hy.one,aV,yd,bU,e1,hq.ah,hq.bT,hr.len,hr.bT,kE,show ¬(0:Int)<((0:Nat):Int) by omega,e3,gF.pu,gF.one,bl,de];rcases gF with ⟨rfl,_⟩ | ⟨e,rfl⟩<;>rfl
  ·simp only [h0,yo] at e3 ⊢;simp only [go_sem,ya,yb,Bx,aB,hx.pu,hx.ah,hx.one,hy.pu,hy.ah,hy.one,aV,yd,bU,e1,hq.ah,hq.bT,hr.bT,e3,gF.pu,gF.one,bl,de];rcases gF with ⟨rfl,_⟩ | ⟨e,rfl⟩<;>rfl
def U8 (h:Rm P L) (BH:Has P L 336 Fp) (nX:Has P L 338 Bw) (qI:Has P L 339 Bx) {a:Rat} {K:Nat} (ka:Hq K a) (hK:K<=7000000000):ae P L 336 [.str (RT a)] (.str (RT (a.floor:Rat))):=by
 have e0:=agG h nX ka (by omega);unfold ae at e0 ⊢;rw [av BH];by_cases hd:a.den=1
 ·rw [xh hd] at e0;have hf:(a.floor:Rat)=a:=by
   rw [vO,hd];simp only [Int.natCast_one,Int.ediv_one];exact (MU a hd).symm
  rw [hf];simp only [go_sem,ya,Fp,e0]
 ·rw [yR hd] at e0;obtain ⟨x,y,e1,hx,hy⟩:=E4 h ka (by omega);obtain ⟨r,e2,hr⟩:=axa h qI (K:=K) hK hx hy ka.1 ka.2 (Mx a);rw [<-vO] at hr;have kf:Bd K a.floor:=ka.1.le (by
   rw [vO]
   exact uY _ _)
  obtain ⟨e3,_⟩:=OZ (K:=K) h.O0 h.nO (by omega) hr kf.r;rw [SV];obtain ⟨xw,xl,rfl,dW,_,_,_⟩:=hx;obtain ⟨yw,yl,rfl,dX,_,_,_⟩:=hy;obtain ⟨fc,rl,rfl,n9,_,_,_⟩:=hr;unfold ae at e1 e2 e3;simp only [go_sem,ya,yb,Fp,e0,aB,e1,dW.pu,dW.ah,dW.one,dX.pu,dX.ah,dX.one,n9.ah,aZ,bl,oC,de,dl,e2,e3]
end
end
section
open Go (IntKind)
section
variable {P:aG} {L:Lib}
def axb (h:Rm P L) (FF:Has P L 340 Fs) (nX:Has P L 338 Bw) {n:Nat} (hn:n<1000000000):ae P L 340 [.str (RT ((n:Int):Rat))] (.ap [aa n,.bool true]):=by
 have kz:Hq 40 ((n:Int):Rat):=⟨by rw [xY];unfold Bd;omega,by rw [wt];unfold Bd;omega⟩;have e0:=agG h nX kz (by omega);rw [show ((n:Int):Rat).den=1 from wt ..,xh rfl] at e0;have hl:(aw n).length<=9:=p9 (k:=8) (by omega);obtain ⟨x,e1,hx⟩:=U1 h.toRb (n:=(n:Int)) (by simp;omega);rw [SV] at e0 ⊢;rw [kM] at e0 e1 ⊢;obtain ⟨w,l,rfl,hw,hd,hz,hv⟩:=hx;rw [Int.natAbs_natCast] at hv;have pE:l.length<=1:=Sr hd hz (by omega);have fP:decide ((n:Int)<0)=false:=yR (by omega);rw [fP] at e1;unfold ae at e0 e1 ⊢;rw [av FF]
 match l,pE,hw,hv,hd with
 | [],_,hw,hv,hd=>
  have h0:n=0:=by rw [<-hv];rfl
  subst h0;simp only [go_sem,ya,yb,Fs,e0,yH,show ¬(20:Int)<((aw 0).length:Int) by decide,aB,e1,bl,hw.len,hw.pu,hw.one,de,aV,yd,bU,yE,show ((0:Nat):Int)-1= -1 from rfl,show IntKind.wrap .i64 (-1)= -1 from rfl,EN,ay,SG,show ¬(0:Int)<=-1 by decide];rfl
 | [d],_,hw,hv,hd=>
  have gd:=jF.1 hd;have Aw:d=(n:Int):=by simp [dv] at hv;omega
  subst Aw;have ei:=hw.bk (i:=0) (by simp);simp only [List.getElem_cons_zero] at ei
  simp only [go_sem,ya,yb,Fs,e0,yH,show ¬(20:Int)<((aw n).length:Int) by omega,aB,e1,bl,hw.len,hw.pu,hw.one,de,aV,yd,bU,yr,yE,show ((1:Nat):Int)-1=0 from rfl,show IntKind.wrap .i64 0=0 from rfl,EN,ay,SG,show (0:Int)<=0 by decide,yq,ei,yo,show ¬(9223372036:Int)<0 by decide,show ¬(0:Int)< -9223372036 by decide,show ¬(0:Int)=9223372036 by decide,show ¬(0:Int)= -9223372036 by decide,Int.zero_mul,Int.zero_add,wrapN (n:=n) (by omega),show (0:Int)-1= -1 from rfl,show IntKind.wrap .i64 (-1)= -1 from rfl,show ¬(0:Int)<=-1 by decide];rfl
def agH (h:Rx P L) (qG:Has P L 265 Fk) (BH:Has P L 336 Fp) (O5:Has P L 337 Ox) (nX:Has P L 338 Bw) (qI:Has P L 339 Bx) (FF:Has P L 340 Fs) {m s:Int} {K:Nat} (km:Hq K (m:Rat)) (nv:100<=K) (hK:K<=1000000000) (ji:0<s) (hs:s<1000000000):ae P L 337 [.str (RT (m:Rat)),aa s] (aa (m%s)):=by
 have Kv:s.natAbs<2^64:=by omega
 have ks:Hq K (s:Rat):=⟨by rw [xY];exact yN Kv (xP (by decide) (by omega)),by rw [wt];unfold Bd;exact wB (by omega)⟩
 have U7:(s:Rat)≠0:=fun e=>by
  have:=congrArg Rat.num e
  rw [xY] at this
  have:s=0:=this
  omega
 have e1:=NK h.toRm qG (n:=s) (by omega);have e2:=afn h km ks (by omega) U7;have kd:=km.div ks;have e3:=U8 h.toRm BH nX qI kd (by omega);have kg:=Ek kd (by omega);have e4:=rF h.toRn ks kg (by omega);have e5:=CX h.toRp km (ks.mul kg) (by omega);rw [ZX _ ji] at e5;have pc:=xM m (show s≠0 by omega);have auL:=we m ji;obtain ⟨r,hr⟩:∃r:Nat,m%s=r:=⟨(m%s).toNat,by omega⟩;rw [hr] at e5 ⊢;have e6:=axb h.toRm FF nX (n:=r) (by omega);unfold ae at e1 e2 e3 e4 e5 e6 ⊢;rw [av O5];simp only [go_sem,ya,Ox,e1,e2,e3,e4,e5,e6]
end
end
section
open Go (IntKind)
def pg (sc f o w:Rat) (fr:Int):Rat:=sc*f+1*o+(fr:Rat)*w
def as9 {sc f o w:Rat} {fr:Int} {K J:Nat} (ks:Hq K sc) (kf:Hq J f) (ko:Hq K o) (kw:Hq K w) (gZ:fr.natAbs<2^64) (hK:100<=K):Hq (4*K+J+100) (pg sc f o w fr):=by
 have me:Hq 64 (fr:Rat):=⟨by rw [xY];exact gZ,by rw [wt];unfold Bd;exact wB (by omega)⟩
 exact (((ks.mul kf).add (lm.mul ko)).add (me.mul kw)).mono (by omega)
section
variable {P:aG} {L:Lib}
def axc (h:Sr0 P L) (qG:Has P L 265 Fk) (U9:Has P L 333 Ov) {scr st:AV} (o1:bm scr=true) (p1:aR scr=true) (o2:bm st=true) (p2:aR st=true) {dx dy hs hh sc ox oy wx wy x y:Rat} {fr:Int} {K:Nat} (DU:Hq K dx) (DV:Hq K dy) (ks:Hq K hs) (kh:Hq K hh) (Ll:Hq K sc) (kox:Hq K ox) (koy:Hq K oy) (kwx:Hq K wx) (kwy:Hq K wy) (kx:Hq K x) (ky:Hq K y) (nv:100<=K) (hK:K<=10000000) (sn: -9223372036854775808<=fr) (il:fr<9223372036854775808):
  ae P L 333 [.agg [scr,.str (RT hh),.str (RT sc),st,.str (RT ox),.str (RT oy),.str (RT wx),.str (RT wy)],fj (RT dx) (RT dy) (RT hs),gh x y,aa fr]
   (gh (pg sc (fw hs hh*x+hh*dx) ox wx fr) (pg sc (fw hs hh*y+hh*dy) oy wy fr)):=by
 have e1:=aw1 h DU DV ks kh kx ky (by omega);have Hi:Hq (5*K+10) (fw hs hh*x+hh*dx):=(((HU ks kh).mul kx).add (kh.mul DU)).mono (by omega);have Hj:Hq (5*K+10) (fw hs hh*y+hh*dy):=(((HU ks kh).mul ky).add (kh.mul DV)).mono (by omega);have e2:=agE h Ll Hi Hj (by omega);have e3:=Kg h (Ll.mul Hi) (Ll.mul Hj) lm kox koy (by omega);have e4:=NK h.toRm qG (n:=fr) ⟨sn,il⟩;have me:Hq 64 (fr:Rat):=⟨by rw [xY];unfold Bd;omega,by rw [wt];unfold Bd;exact wB (by omega)⟩
 have e5:=Kg h ((Ll.mul Hi).add (lm.mul kox)) ((Ll.mul Hj).add (lm.mul koy)) me kwx kwy (by omega);rw [O3] at e3;unfold pg;unfold ae at e1 e2 e3 e4 e5 ⊢;rw [av U9];have d2:∀a b c d e f g i:AV,xm 2 [a,b,c,d,e,f,g,i]=[c,d,e,f,g,i]:=fun _ _ _ _ _ _ _ _=>rfl
 have d6:∀a b c d e f g i:AV,xm 6 [a,b,c,d,e,f,g,i]=[g,i]:=fun _ _ _ _ _ _ _ _=>rfl
 have d4:∀a b c d e f g i:AV,xm 4 [a,b,c,d,e,f,g,i]=[e,f,g,i]:=fun _ _ _ _ _ _ _ _=>rfl
 simp only [go_sem,ya,yb,Ov,aZ,aB,o1,p1,o2,p2,aV,yd,bU,d2,d4,d6,dl,fU,e1,e2,e3,e4,e5,bl,de];rfl
end
end
section
open Go (IntKind)
section
variable {P:aG} {L:Lib}
def Va (h:Sp P L) (Ki:Has P L 116 N7) {scr st:AV} (o1:bm scr=true) (p1:aR scr=true) (o2:bm st=true) (p2:aR st=true) {dx dy s hh sc ox oy wx wy x y:List Nat} {fr:Int} (cdx:aY dx=0) (cdy:aY dy=0) (cs:aY s=0) (ch:aY hh=0) (Hk:aY sc=0) (Xs:aY ox=0) (Xt:aY oy=0) (Xu:aY wx=0) (Xv:aY wy=0) (cx:aY x=0) (cy:aY y=0) (sn: -9223372036854775808<=fr) (il:fr<9223372036854775808):
  ∃r,ae P L 116 [.agg [scr,.str hh,.str sc,st,.str ox,.str oy,.str wx,.str wy],fj dx dy s,dI x y,aa fr] r/\
   mc r (pg (aM sc) (fw (aM s) (aM hh)*aM x+aM hh*aM dx) (aM ox) (aM wx) fr) (pg (aM sc) (fw (aM s) (aM hh)*aM y+aM hh*aM dy) (aM oy) (aM wy) fr):=by
 have H:=fun {t:List Nat} (c:aY t=0)=>iG c (yC 2400)
 obtain ⟨M,hM⟩:∃M,M=100000:=⟨_,rfl⟩;obtain ⟨a,e1,ha⟩:=zZ h ch;obtain ⟨b,e2,hb⟩:=m64 h cdx cdy cs cx cy ha (H ch) (by omega);obtain ⟨c,e3,hc⟩:=zZ h Hk;have Xw:=Sx (H cs) (H ch) (H cx) (H cdx);have Xx:=Sx (H cs) (H ch) (H cy) (H cdy);obtain ⟨d,e4,hd⟩:=Lk h hb hc (Xw.mono (show 5*2400+10<=M by omega)) (Xx.mono (by omega)) ((H Hk).mono (by omega)) (by omega);rw [wL _ (aM sc),wL _ (aM sc)] at hd;obtain ⟨o,e5,ho⟩:=Hg h Xs Xt;obtain ⟨f,e6,hf⟩:=O4 h hd ho (((H Hk).mul Xw).mono (show 2400+(5*2400+10)<=M by omega)) (((H Hk).mul Xx).mono (by omega)) ((H Xs).mono (by omega)) ((H Xt).mono (by omega)) (by omega);obtain ⟨g,e7,hg⟩:=Hg h Xu Xv;obtain ⟨i,e8,hi⟩:=DL h.toFr' sn il;have me:Hq 64 (fr:Rat):=⟨by rw [xY];unfold Bd;omega,by rw [wt];unfold Bd;exact wB (by omega)⟩
 obtain ⟨j,e9,hj⟩:=Lk h hg hi ((H Xu).mono (show 2400<=M by omega)) ((H Xv).mono (by omega)) (me.mono (by omega)) (by omega);rw [wL _ (fr:Rat),wL _ (fr:Rat)] at hj;obtain ⟨r,AD,hr⟩:=O4 h hf hj ((((H Hk).mul Xw).add (H Xs)).mono (show 2400+(5*2400+10)+2400+1<=M by omega)) ((((H Hk).mul Xx).add (H Xt)).mono (by omega)) ((me.mul (H Xu)).mono (by omega)) ((me.mul (H Xv)).mono (by omega)) (by omega);have bX:=hr;refine ⟨r,?_,by unfold pg;rw [uI,uI];exact bX⟩
 obtain ⟨a1,a2,a3,a4,rfl,ga⟩:=ha.gen;obtain ⟨b1,b2,b3,b4,b5,b6,b7,b8,rfl,gb⟩:=hb.gen;obtain ⟨c1,c2,c3,c4,rfl,gc⟩:=hc.gen;obtain ⟨d1,d2,d3,d4,d5,d6,d7,d8,rfl,gd⟩:=hd.gen;obtain ⟨k1,k2,k3,k4,k5,k6,k7,k8,rfl,gk⟩:=ho.gen;obtain ⟨f1,f2,f3,f4,f5,f6,f7,f8,rfl,gf⟩:=hf.gen;obtain ⟨g1,g2,g3,g4,g5,g6,g7,g8,rfl,gg⟩:=hg.gen;obtain ⟨i1,i2,i3,i4,rfl,gi⟩:=hi.gen;obtain ⟨j1,j2,j3,j4,j5,j6,j7,j8,rfl,gj⟩:=hj.gen;obtain ⟨r1,r2,r3,r4,r5,r6,r7,r8,rfl,gr⟩:=hr.gen;have dd2:∀a b c d e f g i:AV,xm 2 [a,b,c,d,e,f,g,i]=[c,d,e,f,g,i]:=fun _ _ _ _ _ _ _ _=>rfl
 have dd6:∀a b c d e f g i:AV,xm 6 [a,b,c,d,e,f,g,i]=[g,i]:=fun _ _ _ _ _ _ _ _=>rfl
 unfold ae at e1 e2 e3 e4 e5 e6 e7 e8 e9 AD ⊢;rw [av Ki];simp only [go_sem,ya,yb,N7,aZ,aB,o1,p1,o2,p2,aV,yd,bU,dd2,jE,dd6,dl,fU,Bn,ga.ah,gb.ah,gc.ah,gd.ah,gk.ah,gf.ah,gg.ah,gi.ah,gj.ah,e1,e2,e3,e4,e5,e6,e7,e8,e9,AD,bl,gd.st,gr.st,dc,dd,yj,gr.dT]
end
end
section
open Go (IntKind)
def aS (x:Rat):Rat:=x-(x.floor:Int)
def MZ (n:Int) (x y:Rat):AV:=
 .agg [aa (x.floor%n),aa (y.floor%n),.str (RT ((1-aS x)*(1-aS y))),aa ((x.floor%n+1)%n),aa (y.floor%n),.str (RT (aS x*(1-aS y))),
  aa (x.floor%n),aa ((y.floor%n+1)%n),.str (RT ((1-aS x)*aS y)),aa ((x.floor%n+1)%n),aa ((y.floor%n+1)%n),.str (RT (aS x*aS y))]
def aoc {tm:Env} {a b c:AV} {r:List (Nat×Nat×X)} {x0 x1 x2 x3 x4 x5 x6 x7 x8 x9 xa xb:AV} (h1:bm a=true) (h2:bm b=true) (h3:bm c=true):gB tm [x0,x1,x2,x3,x4,x5,x6,x7,x8,x9,xa,xb] 0 3 [a,b,c] r=fill tm [a,b,c,x3,x4,x5,x6,x7,x8,x9,xa,xb] r:=by
 rw [j9 (by rfl) (by simp) (by simp [bK,h1,h2,h3])];rfl
def aod {tm:Env} {a b c:AV} {r:List (Nat×Nat×X)} {x0 x1 x2 x3 x4 x5 x6 x7 x8 x9 xa xb:AV} (h1:bm a=true) (h2:bm b=true) (h3:bm c=true):gB tm [x0,x1,x2,x3,x4,x5,x6,x7,x8,x9,xa,xb] 3 3 [a,b,c] r=fill tm [x0,x1,x2,a,b,c,x6,x7,x8,x9,xa,xb] r:=by
 rw [j9 (by rfl) (by simp) (by simp [bK,h1,h2,h3])];rfl
def aoe {tm:Env} {a b c:AV} {r:List (Nat×Nat×X)} {x0 x1 x2 x3 x4 x5 x6 x7 x8 x9 xa xb:AV} (h1:bm a=true) (h2:bm b=true) (h3:bm c=true):gB tm [x0,x1,x2,x3,x4,x5,x6,x7,x8,x9,xa,xb] 6 3 [a,b,c] r=fill tm [x0,x1,x2,x3,x4,x5,a,b,c,x9,xa,xb] r:=by
 rw [j9 (by rfl) (by simp) (by simp [bK,h1,h2,h3])];rfl
def aof {tm:Env} {a b c:AV} {r:List (Nat×Nat×X)} {x0 x1 x2 x3 x4 x5 x6 x7 x8 x9 xa xb:AV} (h1:bm a=true) (h2:bm b=true) (h3:bm c=true):gB tm [x0,x1,x2,x3,x4,x5,x6,x7,x8,x9,xa,xb] 9 3 [a,b,c] r=fill tm [x0,x1,x2,x3,x4,x5,x6,x7,x8,a,b,c] r:=by
 rw [j9 (by rfl) (by simp) (by simp [bK,h1,h2,h3])];rfl
def ET (hp:Hp) (ct id:Nat) (a b d e g h k l:Int) (c f i m:List Nat) (x0 x1 x2 x3 x4 x5 x6 x7 x8 x9 xa xb:AV):eM hp ct id 0 12 [aa a,aa b,.str c,aa d,aa e,.str f,aa g,aa h,.str i,aa k,aa l,.str m] (some (.cells true true true 12 [x0,x1,x2,x3,x4,x5,x6,x7,x8,x9,xa,xb]))=some (.ap [],aW hp id (.cells true true true 12 [aa a,aa b,.str c,aa d,aa e,.str f,aa g,aa h,.str i,aa k,aa l,.str m]),ct):=by
 rw [jb (by rfl) (by simp) (by rfl)];rfl
def nf {x:Rat} {K:Nat} (h:Hq K x) (hK:1<=K):Hq (2*K+1) (aS x):=(h.sub (Ek h hK)).mono (by omega)
structure Ar (P:aG) (L:Lib):Prop extends Rx P L where
 qG:Has P L 265 Fk
 axd:Has P L 334 Ui
 BH:Has P L 336 Fp
 O5:Has P L 337 Ox
 nX:Has P L 338 Bw
 qI:Has P L 339 Bx
 FF:Has P L 340 Fs
section
variable {P:aG} {L:Lib}
def agI (h:Ar P L) {x y:Rat} {n:Int} {K:Nat} (kx:Hq K x) (ky:Hq K y) (nv:100<=K) (hK:K<=1000000000) (lB:0<n) (hn:n<1000000):ae P L 334 [aa n,gh x y] (MZ n x y):=by
 have Hi:=Ek kx (by omega);have Hj:=Ek ky (by omega);have Qq:=nf kx (by omega);have Qr:=nf ky (by omega);have e1:=U8 h.toRm h.BH h.nX h.qI kx (by omega);have e2:=U8 h.toRm h.BH h.nX h.qI ky (by omega);have e3:=CX h.toRp kx Hi (by omega);have e4:=CX h.toRp ky Hj (by omega);rw [show x-(x.floor:Int)=aS x from rfl] at e3;rw [show y-(y.floor:Int)=aS y from rfl] at e4;have e5:=agH h.toRx h.qG h.BH h.O5 h.nX h.qI h.FF (s:=n) Hi nv hK lB (by omega);have e6:=agH h.toRx h.qG h.BH h.O5 h.nX h.qI h.FF (s:=n) Hj nv hK lB (by omega);have e7:=CX h.toRp lm Qq (by omega);have e8:=CX h.toRp lm Qr (by omega);have ku:=lm.sub Qq;have kv:=lm.sub Qr;have e9:=rF h.toRn ku kv (by omega);have eA:=rF h.toRn Qq kv (by omega);have eB:=rF h.toRn ku Qr (by omega);have eC:=rF h.toRn Qq Qr (by omega)
 rw [O3] at e7 e8;have m1:=xM x.floor (show n≠0 by omega);have m2:=we x.floor lB;have m3:=xM y.floor (show n≠0 by omega);have m4:=we y.floor lB;unfold MZ;generalize x.floor%n=i at*
 generalize y.floor%n=j at*
 have r1:(i+1).tmod n=(i+1)%n:=xn (by omega);have r2:(j+1).tmod n=(j+1)%n:=xn (by omega);unfold ae at e1 e2 e3 e4 e5 e6 e7 e8 e9 eA eB eC ⊢;rw [av h.axd]
 simp only [go_sem,ya,yb,ye,Ui,aB,aV,yd,bU,e1,e2,e3,e4,e5,e6,wrap64 (n:=i+1) (by omega) (by omega),wrap64 (n:=j+1) (by omega) (by omega),er _ _ _ (show n≠0 by omega),r1,r2,e7,e8,e9,eA,eB,eC,aoc,aod,aoe,aof,ET];rfl
end
end
section
open Go (IntKind)
def aog {tm:Env} {a:AV} {r:List (Nat×Nat×X)} {x0 x1 x2 x3 x4 x5 x6 x7 x8 x9:AV} (h1:bm a=true):gB tm [x0,x1,x2,x3,x4,x5,x6,x7,x8,x9] 0 1 [a] r=fill tm [a,x1,x2,x3,x4,x5,x6,x7,x8,x9] r:=by
 rw [j9 (by rfl) (by simp) (by simp [bK,h1])];rfl
def aoh {tm:Env} {a:AV} {r:List (Nat×Nat×X)} {x0 x1 x2 x3 x4 x5 x6 x7 x8 x9:AV} (h1:bm a=true):gB tm [x0,x1,x2,x3,x4,x5,x6,x7,x8,x9] 1 1 [a] r=fill tm [x0,a,x2,x3,x4,x5,x6,x7,x8,x9] r:=by
 rw [j9 (by rfl) (by simp) (by simp [bK,h1])];rfl
def aoi {tm:Env} {a b c d:AV} {r:List (Nat×Nat×X)} {x0 x1 x2 x3 x4 x5 x6 x7 x8 x9:AV} (h1:bm a=true) (h2:bm b=true) (h3:bm c=true) (h4:bm d=true):gB tm [x0,x1,x2,x3,x4,x5,x6,x7,x8,x9] 2 4 [a,b,c,d] r=fill tm [x0,x1,a,b,c,d,x6,x7,x8,x9] r:=by
 rw [j9 (by rfl) (by simp) (by simp [bK,h1,h2,h3,h4])];rfl
def aoj {tm:Env} {a b c d:AV} {r:List (Nat×Nat×X)} {x0 x1 x2 x3 x4 x5 x6 x7 x8 x9:AV} (h1:bm a=true) (h2:bm b=true) (h3:bm c=true) (h4:bm d=true):gB tm [x0,x1,x2,x3,x4,x5,x6,x7,x8,x9] 6 4 [a,b,c,d] r=fill tm [x0,x1,x2,x3,x4,x5,a,b,c,d] r:=by
 rw [j9 (by rfl) (by simp) (by simp [bK,h1,h2,h3,h4])];rfl
def Bo (v:AV) (i j:Int) (f g:Rat):Prop:=∃c1 c2 c3 c4 d1 d2 d3 d4,v= .agg [aa i,aa j,c1,c2,c3,c4,d1,d2,d3,d4]/\cE (.agg [c1,c2,c3,c4]) f/\cE (.agg [d1,d2,d3,d4]) g
section
variable {P:aG} {L:Lib}
def m55 (h:Fr' P L) (He:Has P L 55 PF) (Dm:Has P L 103 Jp) (z6:Has P L 150 Fi) {v:AV} {x y:Rat} {s:Int} {K:Nat} (hv:mc v x y) (kx:Hq K x) (ky:Hq K y) (nv:100<=K) (hK:K<=1000000000) (ji:0<s) (hs:s<1000000):
  ∃r,ae P L 55 [v,aa s] r/\Bo r (x.floor%s) (y.floor%s) (aS x) (aS y):=by
 obtain ⟨s1,w1,s2,w2,s3,w3,s4,w4,rfl,h1,h2,h3,h4⟩:=hv;obtain ⟨f,e1,hf⟩:=agF h Dm z6 (v:= .agg [aa s1,w1,aa s2,w2]) (a:=x) ⟨s1,w1,s2,w2,rfl,h1,h2⟩ kx nv hK ji hs;obtain ⟨g,e2,hg⟩:=agF h Dm z6 (v:= .agg [aa s3,w3,aa s4,w4]) (a:=y) ⟨s3,w3,s4,w4,rfl,h3,h4⟩ ky nv hK ji hs;have n7:=hf;have DR:=hg;obtain ⟨c1,c2,c3,c4,rfl,gf⟩:=hf.gen;obtain ⟨d1,d2,d3,d4,rfl,gg⟩:=hg.gen;obtain ⟨l1,u1⟩:=h1.az;obtain ⟨l2,u2⟩:=h2.az;obtain ⟨l3,u3⟩:=h3.az;obtain ⟨l4,u4⟩:=h4.az;refine ⟨_,?_,c1,c2,c3,c4,d1,d2,d3,d4,rfl,n7,DR⟩;have p1:=gf.pu;have p2:=gg.pu;simp only [aR,aH,uF,yg] at p1 p2;obtain ⟨Lm,Ln,Lo,Lq⟩:=p1;obtain ⟨Lr,Ls,Lt,Lu⟩:=p2
 have aX:∀(hp:Hp) (ct id:Nat) (i j:Int) (x0 x1 x2 x3 x4 x5 x6 x7 x8 x9:AV),eM hp ct id 0 10 [aa i,aa j,c1,c2,c3,c4,d1,d2,d3,d4] (some (.cells true true true 10 [x0,x1,x2,x3,x4,x5,x6,x7,x8,x9]))=some (.ap [],aW hp id (.cells true true true 10 [aa i,aa j,c1,c2,c3,c4,d1,d2,d3,d4]),ct):=fun hp ct id i j x0 x1 x2 x3 x4 x5 x6 x7 x8 x9=>by
  rw [jb (by rfl) (by simp) (by simp [bK,Ep,gf.o1,gf.o2,gf.o3,gf.o4,gg.o1,gg.o2,gg.o3,gg.o4])];simp [aH,CM,Lm,Ln,Lo,Lq,Lr,Ls,Lt,Lu,over]
 have oW:∀(hp:Hp) (i j:Int),result hp (.agg [aa i,aa j,c1,c2,c3,c4,d1,d2,d3,d4])=some (.agg [aa i,aa j,c1,c2,c3,c4,d1,d2,d3,d4]):=fun hp i j=>by
  have e:freeze (980+20) hp (.agg [aa i,aa j,c1,c2,c3,c4,d1,d2,d3,d4])=some (.agg [aa i,aa j,c1,c2,c3,c4,d1,d2,d3,d4],hp):=
   aZ _ _ (by simp only [go_sem,yb,gf.z1,gf.z2,gf.z3,gf.z4,gg.z1,gg.z2,gg.z3,gg.z4])
  show (match freeze (980+20) hp (.agg [aa i,aa j,c1,c2,c3,c4,d1,d2,d3,d4]) with | some (v',_)=>some v' | none=>none)=_
  rw [e]
 unfold ae at e1 e2 ⊢;rw [av He];simp only [go_sem,ya,yb,PF,aB,aZ,u1.pu,u1.ah,u1.one,u2.pu,u2.ah,u2.one,u3.pu,u3.ah,u3.one,u4.pu,u4.ah,u4.one,aV,yd,jE,kA,e1,e2,gf.st,gg.st,aog,aoh,aoi,aoj,gf.o1,gf.o2,gf.o3,gf.o4,gg.o1,gg.o2,gg.o3,gg.o4,aX,dc,dd,yj];exact oW _ _ _
end
end
end VE
