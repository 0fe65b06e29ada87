import Derived.Test.YtflgmingejdfnaaGreatDoorUay
import Derived.Test.YtflgmingejdfnaaGreatDoorUaq
import Derived.Test.YtflgmingejdfnaaGreatDoorUas
set_option linter.all false
set_option maxRecDepth 100000
open Bool renaming and_self→wi
open Int renaming add_zero→vz,cast_ofNat_Int→yaB,emod_nonneg→wO,toNat_natCast→wo
open List renaming append_assoc→xo,append_nil→wg,cons_append→yW,drop→xz,drop_zero→yj,getElem_mem→yaL,length_cons→yy,length_nil→yG,map_append→xt,mem_cons→wK,nil_append→xN,not_mem_nil→uP,range→xg,range_succ→tF,replicate→yz
open Nat renaming beq→yx,beq_refl→xq,mul_one→yi,reduceAdd→yb,reduceEqDiff→ya,reduceLeDiff→ye,reduceMul→xK,zero_add→yd
namespace VE
section
open Go (IntKind)
def q9 (f g:Rat):List Rat:=[(1-f)*(1-g),f*(1-g),(1-f)*g,f*g]
def IsW (v:AV) (f g:Rat):Prop:=∃cs,v= .agg cs/\QL cs (q9 f g)
def af0 {f g:Rat} {K:Nat} (kf:Hq K f) (kg:Hq K g):∀x,x∈q9 f g->Hq (2*K+6) x:=by
 intro x hx;have ku:=qC.sub kf;have kv:=qC.sub kg;simp only [q9,wK,uP,ybO] at hx;rcases hx with rfl | rfl | rfl | rfl
 ·exact (ku.mul kv).mono (by omega)
 ·exact (kf.mul kv).mono (by omega)
 ·exact (ku.mul kg).mono (by omega)
 ·exact (kf.mul kg).mono (by omega)
section
variable {tm:Env} {a b c d:AV} {r:List (Nat×Nat×X)} {x0 x1 x2 x3 x4 x5 x6 x7 x8 x9 xa xb xc xd xe xf:AV}
def apS (h1:bE a=true) (h2:bE b=true) (h3:bE c=true) (h4:bE d=true):iG tm [x0,x1,x2,x3,x4,x5,x6,x7,x8,x9,xa,xb,xc,xd,xe,xf] 0 4 [a,b,c,d] r=fill tm [a,b,c,d,x4,x5,x6,x7,x8,x9,xa,xb,xc,xd,xe,xf] r:=by
 rw [nR (by rfl) (by simp) (by simp [cf,h1,h2,h3,h4])];rfl
def apT (h1:bE a=true) (h2:bE b=true) (h3:bE c=true) (h4:bE d=true):iG tm [x0,x1,x2,x3,x4,x5,x6,x7,x8,x9,xa,xb,xc,xd,xe,xf] 4 4 [a,b,c,d] r=fill tm [x0,x1,x2,x3,a,b,c,d,x8,x9,xa,xb,xc,xd,xe,xf] r:=by
 rw [nR (by rfl) (by simp) (by simp [cf,h1,h2,h3,h4])];rfl
def apU (h1:bE a=true) (h2:bE b=true) (h3:bE c=true) (h4:bE d=true):iG tm [x0,x1,x2,x3,x4,x5,x6,x7,x8,x9,xa,xb,xc,xd,xe,xf] 8 4 [a,b,c,d] r=fill tm [x0,x1,x2,x3,x4,x5,x6,x7,a,b,c,d,xc,xd,xe,xf] r:=by
 rw [nR (by rfl) (by simp) (by simp [cf,h1,h2,h3,h4])];rfl
def apV (h1:bE a=true) (h2:bE b=true) (h3:bE c=true) (h4:bE d=true):iG tm [x0,x1,x2,x3,x4,x5,x6,x7,x8,x9,xa,xb,xc,xd,xe,xf] 12 4 [a,b,c,d] r=fill tm [x0,x1,x2,x3,x4,x5,x6,x7,x8,x9,xa,xb,a,b,c,d] r:=by
 rw [nR (by rfl) (by simp) (by simp [cf,h1,h2,h3,h4])];rfl
end
def ave {cs:List AV} (hl:cs.length=16) (ho:cf cs=true) (ao:aK cs=true) (hp:Hp) (ct id:Nat) (x0 x1 x2 x3 x4 x5 x6 x7 x8 x9 xa xb xc xd xe xf:AV):fu hp ct id 0 16 cs (some (.cells true true true 16 [x0,x1,x2,x3,x4,x5,x6,x7,x8,x9,xa,xb,xc,xd,xe,xf]))=some (.aw [],bf hp id (.cells true true true 16 cs),ct):=by
 rw [lj hl (by simp) ho,ao]
 match cs,hl with
 | [_,_,_,_,_,_,_,_,_,_,_,_,_,_,_,_],_=>rfl
def aeb:∀{l:List Rat} {cs:List AV},QL cs l->∀(n:Nat) (hp:Hp),cW (n+l.length*4+2) hp cs=some (cs,hp)
 | [],_,h,n,hp=>by rw [h.Lv];rfl
 | x::l,cs,h,n,hp=>by
  obtain ⟨a,b,c,d,r,rfl,h1,h2⟩:=h.inv;have g:=h1.f4;have e:=aeb h2 n hp;rw [show n+(x::l).length*4+2=n+l.length*4+2+1+1+1+1 by simp only [yy];omega];simp only [go_sem,g.z1,g.z2,g.z3,g.z4,e]
def QL.ah {l:List Rat} {cs:List AV} (h:QL cs l) {n:Nat} (hn:l.length*4+3<=n) (hp:Hp):freeze n hp (.agg cs)=some (.agg cs,hp):=by
 obtain ⟨m,rfl⟩:∃m,n=m+l.length*4+3:=⟨n-(l.length*4+3),by omega⟩;exact bl _ _ (aeb h m hp)
def QL.dM {l:List Rat} {cs:List AV} (h:QL cs l) (hl:l.length<=200) (hp:Hp):result hp (.agg cs)=some (.agg cs):=by
 show (match freeze 1000 hp (.agg cs) with | some (v',_)=>some v' | none=>none)=_
 rw [h.ah (by omega)]
def Gz.gen {v:AV} {i j:Int} {f g:Rat} (h:Gz v i j f g):∃c1 c2 c3 c4 d1 d2 d3 d4,v= .agg [aa i,aa j,c1,c2,c3,c4,d1,d2,d3,d4]/\cK (.agg [c1,c2,c3,c4]) f/\cK (.agg [d1,d2,d3,d4]) g/\(∀ct:Nat,CD ct 10 [aa i,aa j,c1,c2,c3,c4,d1,d2,d3,d4]=some (.ptr ct 0,.cells true true true 10 [aa i,aa j,c1,c2,c3,c4,d1,d2,d3,d4]))/\∀(n:Nat) (hp:Hp),freeze (n+20) hp (.agg [aa i,aa j,c1,c2,c3,c4,d1,d2,d3,d4])=some (.agg [aa i,aa j,c1,c2,c3,c4,d1,d2,d3,d4],hp):=by
 obtain ⟨c1,c2,c3,c4,d1,d2,d3,d4,rfl,hf,hg⟩:=h;have gf:=hf.f4;have gg:=hg.f4;obtain ⟨YG,YH,YI,YJ⟩:=gf.Ry;obtain ⟨YK,YL,YM,YN⟩:=gg.Ry;refine ⟨c1,c2,c3,c4,d1,d2,d3,d4,rfl,hf,hg,fun ct=>?_,fun n hp=>bl _ _ (by simp only [go_sem,gf.z1,gf.z2,gf.z3,gf.z4,gg.z1,gg.z2,gg.z3,gg.z4])⟩;rw [aG (by rfl) (by simp [cf,JK,gf.o1,gf.o2,gf.o3,gf.o4,gg.o1,gg.o2,gg.o3,gg.o4])];simp [aK,Ga,YG,YH,YI,YJ,YK,YL,YM,YN]
def UG (a b c d e f g h i j:AV):eY 10 true [a,b,c,d,e,f,g,h,i,j]=some (.agg [a,b,c,d,e,f,g,h,i,j]):=rfl
def apW (a b c d e f g h i j:AV):xz 2 [a,b,c,d,e,f,g,h,i,j]=[c,d,e,f,g,h,i,j]:=rfl
def apX (a b c d e f g h i j:AV):xz 6 [a,b,c,d,e,f,g,h,i,j]=[g,h,i,j]:=rfl
def apY (a b c d e f g h i j:AV):xz 1 [a,b,c,d,e,f,g,h,i,j]=[b,c,d,e,f,g,h,i,j]:=rfl
structure Vl (P:aI) (L:Lib):Prop extends Fr' P L where
 MG:Has P L 55 QO
 YO:Has P L 56 Xu
 G5:Has P L 103 KF
 Wx:Has P L 104 Pu
 Wy:Has P L 105 Pv
 Wz:Has P L 106 Pw
 oS:Has P L 134 Cv
 CJ:Has P L 150 GK
section
variable {P:aI} {L:Lib}
def ay2 (h:Fr' P L) (Wx:Has P L 104 Pu) {v:AV} {i j:Int} {f g:Rat} {K:Nat} (hv:Gz v i j f g) (kf:Hq K f) (kg:Hq K g) (hK:K<=1000000000):∃r,af P L 104 [v] r/\IsW r f g:=by
 obtain ⟨c1,c2,c3,c4,d1,d2,d3,d4,rfl,hf,hg,bx,_⟩:=hv.gen;have k1:Hq (K+4) (1:Rat):=qC.mono (by omega);have YP:Hq (K+4) f:=kf.mono (by omega);have YQ:Hq (K+4) g:=kg.mono (by omega);have ku:Hq (K+4) (1-f):=(qC.sub kf).mono (by omega);have kv:Hq (K+4) (1-g):=(qC.sub kg).mono (by omega);obtain ⟨o,e1,ho⟩:=E3 h (z:=1) (by omega) (by omega);have ml:cK o 1:=ho;obtain ⟨u,e2,hu⟩:=Mw h ml hf k1 YP (by omega);obtain ⟨w,e3,hw⟩:=Mw h ml hg k1 YQ (by omega);obtain ⟨r1,e4,q1⟩:=z7 h hu hw ku kv (by omega);obtain ⟨r2,e5,q2⟩:=z7 h hf hw YP kv (by omega);obtain ⟨r3,e6,q3⟩:=z7 h hu hg ku YQ (by omega);obtain ⟨r4,e7,q4⟩:=z7 h hf hg YP YQ (by omega);have gf:=hf.f4;have gg:=hg.f4;obtain ⟨o1,o2,o3,o4,rfl,go⟩:=ho.gen;obtain ⟨u1,u2,u3,u4,rfl,gu⟩:=hu.gen;obtain ⟨w1,w2,w3,w4,rfl,gw⟩:=hw.gen;obtain ⟨x1,x2,x3,x4,rfl,gx⟩:=q1.gen;obtain ⟨y1,y2,y3,y4,rfl,gy⟩:=q2.gen
 obtain ⟨z1,z2,z3,z4,rfl,gz⟩:=q3.gen;obtain ⟨t1,t2,t3,t4,rfl,gt⟩:=q4.gen;have hq:QL [x1,x2,x3,x4,y1,y2,y3,y4,z1,z2,z3,z4,t1,t2,t3,t4] (q9 f g):=⟨q1,q2,q3,q4,trivial⟩;have bh:=ave (by rfl) hq.one hq.pu;refine ⟨_,?_,_,rfl,hq⟩;unfold af at e1 e2 e3 e4 e5 e6 e7 ⊢;rw [aq Wx];simp only [go_sem,ya,yb,Pu,bx,aG,aZ,yd,apW,apX,mA,e1,e2,e3,e4,e5,e6,e7,bB,go.st,gu.st,gw.st,go.ah,gu.ah,gw.ah,gf.ah,gg.ah,gx.o1,gx.o2,gx.o3,gx.o4,gy.o1,gy.o2,gy.o3,gy.o4,gz.o1,gz.o2,gz.o3,gz.o4,gt.o1,gt.o2,gt.o3,gt.o4,apS,apT,apU,apV,bh,dB,dD,yj];exact hq.dM (by simp [q9]) _
def ay3 (Wy:Has P L 105 Pv) (oS:Has P L 134 Cv) {v:AV} {i j:Int} {f g:Rat} {k:Int} {n:Int} (hv:Gz v i j f g) (hi:0<=i/\i<n) (hj:0<=j/\j<n) (hk:0<=k/\k<4) (hn:0<n) (lE:n<=1000000):af P L 105 [v,aa k,aa n] (.aw [aa ((i+k%2)%n),aa ((j+k/2)%n)]):=by
 obtain ⟨c1,c2,c3,c4,d1,d2,d3,d4,rfl,hf,hg,bx,_⟩:=hv.gen;have e1:=PX oS (n:=i+k%2) hn lE;have e2:=PX oS (n:=j+k/2) hn lE;have r1:k.tmod 2=k%2:=Int.tmod_eq_emod_of_nonneg hk.1;have r2:k.tdiv 2=k/2:=Int.tdiv_eq_ediv_of_nonneg hk.1;unfold af at e1 e2 ⊢;rw [aq Wy]
 simp only [go_sem,ya,Pv,bx,aZ,yd,apY,yj,dK _ _ _ (show (2:Int)≠0 by decide),eU _ _ _ (show (2:Int)≠0 by decide),r1,r2,wrap64 (n:=k/2) (by omega) (by omega),wrap64 (n:=i+k%2) (by omega) (by omega),wrap64 (n:=j+k/2) (by omega) (by omega),e1,e2];rfl
def ay4 (h:Fr' P L) (Wz:Has P L 106 Pw) {v w:AV} {s:Rat} {l:List Rat} {K M:Nat} (hv:cK v s) (hw:jU w l) (ks:Hq M s) (kl:∀x,x∈l->Hq K x) (hl:l.length<=1000000) (hK:M+l.length*(K+1)+K<=1000000000):∃r,af P L 106 [v,w,.fn (.f 74) [] []] r/\cK r (rP s l):=by
 have key:=cg (P:=P) (L:=L) (live:=[2,3,6,9,10,11]) (a:=JU)
  (I:=fun k st=>∃i:Nat,i+k=l.length/\∃c1 c2 c3 c4,cK (.agg [c1,c2,c3,c4]) (rP s (l.take i))/\st=⟨[(2,.fn (.f 74) [] []),(3,.ptr 0 0),(6,.ptr 1 0),(9,w),(10,aa l.length),(11,aa i)],[(1,.cells true true true 4 [.int .i64 0,.ae,.int .i64 0,.ae]),(0,.cells true true true 4 [c1,c2,c3,c4])],2,0⟩)
  (Q:=fun ex st=>∃tm hp ct c1 c2 c3 c4,cK (.agg [c1,c2,c3,c4]) (rP s l)/\st=⟨tm,hp,ct,0⟩/\ex= .exit 0/\ab tm 3= .ptr 0 0/\ab tm 6= .ptr 1 0/\ap hp 0=some (.cells true true true 4 [c1,c2,c3,c4])/\ap hp 1=some (.cells true true true 4 [.int .i64 0,.ae,.int .i64 0,.ae])) ?_
 ·have eZ:=hv;obtain ⟨v1,v2,v3,v4,rfl,gv⟩:=hv.gen;unfold af;rw [aq Wz];simp only [go_sem,ya,yb,Pw,gv.bx,aG,hw.len];generalize hq:D P L (.loop [2,3,6,9,10,11] JU) _=q;obtain ⟨ex,st,rfl,tm,hp,ct,c1,c2,c3,c4,h1,rfl,rfl,t3,t6,g0,g1⟩:=bV hq (key l.length) ⟨0,by omega,v1,v2,v3,v4,by simpa [rP] using eZ,by simp only [go_sem,ya,yb,av,az hw.pu,aE _ hw.pu]<;>rfl⟩
  have g:=h1.f4;refine ⟨_,?_,h1⟩;simp only [go_sem,ya,yb,av,t3,t6,g0,g1,mA,g.st,dB,dD,yj];exact g.dM _
 ·rintro k st ⟨i,hk,c1,c2,c3,c4,hs,rfl⟩;by_cases hi:i<l.length
  ·left
   obtain ⟨a,b,c,d,r,e1,hx⟩:=hw.aY hi;obtain ⟨y,e2,hy⟩:=Ri h hs hx (K:=M+l.length*(K+1)+K) ((ash ks kl i).mono (by omega)) ((kl _ (yaL hi)).mono (by omega)) (by omega);rw [<-anA hi] at hy;have z8:=hy;obtain ⟨y1,y2,y3,y4,rfl,gy⟩:=hy.gen;have gs:=hs.f4;have gx:=hx.f4;simp only [go_sem,ya,yb,JU,show (i:Int)<l.length by omega,e1,ayX,mA,aG,gx.st,e2,gs.ah,gx.ah,gy.st,bB,yj];refine ⟨_,k-1,rfl,by omega,i+1,by omega,y1,y2,y3,y4,z8,?_⟩;rw [wrap64 (by omega) (by omega)];simp only [go_sem,ya,yb,av,az hw.pu,aE _ hw.pu]<;>rfl
  ·right
   simp only [go_sem,ya,JU,show ¬(i:Int)<l.length by omega];rw [List.take_of_length_le (by omega)] at hs;exact ⟨_,_,rfl,by simp,_,_,_,c1,c2,c3,c4,hs,rfl,rfl,by simp only [go_sem,ya],by simp only [go_sem,ya],by simp only [go_sem,ya],by simp only [go_sem]⟩
def rG (s:List (List Int)) (i j:Int) (k:Int):Rat:=((bQ s (i+k%2) (j+k/2):Int):Rat)
def nE (s:List (List Int)) (i j:Int) (f g:Rat):List Rat:=[(1-f)*(1-g)*rG s i j 0,f*(1-g)*rG s i j 1,(1-f)*g*rG s i j 2,f*g*rG s i j 3]
def WA (s:List (List Int)) (i j:Int) (f g:Rat):Rat:=rP 0 (nE s i j f g)
def apZ (s:List (List Int)) (i j:Int) (f g:Rat):∀(k:Nat) (hk:k<4),(nE s i j f g)[k]'hk=(q9 f g)[k]'hk*rG s i j (k:Int)
 | 0,_=>rfl
 | 1,_=>rfl
 | 2,_=>rfl
 | 3,_=>rfl
 | k+4,hk=>absurd hk (by omega)
structure HN (v:AV) (s:List (List Int)) (n:Nat):Prop where
 is:bU v s
 len:s.length=n
 pos:0<n
 le:n<=16
 row:∀i (hi:i<s.length),s[i].length=n
 sq:dT n (-1000) 1000 s=0
def HN.cell {v:AV} {s:List (List Int)} {n:Nat} (h:HN v s n) (c r:Int):∃q rest OX,iF 1 (r%n).toNat v=some (.bi (q::rest))/\iF 1 (c%n).toNat q=some (.bi (aa (bQ s c r)::OX)):=by
 obtain ⟨h1,h2,h3⟩:=Th h.len h.pos h.row c r;obtain ⟨q,rest,fa,ow⟩:=h.is.aY h1;exact ⟨q,rest,_,ow,by rw [h3];exact fa.aY h2⟩
def HN.de {v:AV} {s:List (List Int)} {n:Nat} (h:HN v s n) (c r:Int): -1000<=bQ s c r/\bQ s c r<=1000:=Fj h.sq (by decide) c r
def SP {s:List (List Int)} {n:Nat} (hn:s.length=n) (c r c' r':Int) (hc:c%n=c'%n) (hr:r%n=r'%n):bQ s c r=bQ s c' r':=by
 unfold bQ;rw [hn,hc,hr]
def JN {s:List (List Int)} {i j k:Int} (h:∀c r,-1000<=bQ s c r/\bQ s c r<=1000):Hq 64 (rG s i j k):=by
 have:=h (i+k%2) (j+k/2)
 unfold rG;exact ⟨by rw [Rat.num_intCast];unfold Bd;omega,by rw [Rat.den_intCast];exact Nat.one_lt_two_pow (by omega)⟩
def aec {s:List (List Int)} {i j:Int} {f g:Rat} {K:Nat} (h:∀c r,-1000<=bQ s c r/\bQ s c r<=1000) (kf:Hq K f) (kg:Hq K g):∀x,x∈nE s i j f g->Hq (2*K+70) x:=by
 intro x hx;have hw:=af0 kf kg;simp only [nE,wK,uP,ybO] at hx;rcases hx with rfl | rfl | rfl | rfl
 ·exact ((hw _ (by simp [q9])).mul (JN h)).mono (by omega)
 ·exact ((hw _ (by simp [q9])).mul (JN h)).mono (by omega)
 ·exact ((hw _ (by simp [q9])).mul (JN h)).mono (by omega)
 ·exact ((hw _ (by simp [q9])).mul (JN h)).mono (by omega)
def QL.Bb {cs:List AV} {l:List Rat} (h:QL cs l) {k n:Nat} (hl:l.length=n) (hk:k<n):∃a b c d,Km n 4 true k (.agg cs)=some (.agg [a,b,c,d])/\cK (.agg [a,b,c,d]) (l[k]'(by omega)):=by
 obtain ⟨a,b,c,d,r,e,hq⟩:=h.get (i:=k) (by omega);refine ⟨a,b,c,d,?_,hq⟩;show (bif Nat.blt k n then eY 4 true (cs.drop (k*4)) else none)=_
 rw [lk hk,e];rfl
def m56 (h:Vl P L) {v w:AV} {s:List (List Int)} {n:Nat} {i j:Int} {f g:Rat} {K:Nat} (hv:Gz v i j f g) (hw:HN w s n) (hi:0<=i/\i<n) (hj:0<=j/\j<n) (kf:Hq K f) (kg:Hq K g) (hK:K<=10000000):
  ∃r,af P L 56 [v,w] r/\cK r (WA s i j f g):=by
 obtain ⟨W,eW,hW⟩:=ay2 h.toFr' h.Wx hv kf kg (by omega);obtain ⟨c1,c2,c3,c4,d1,d2,d3,d4,rfl,hf,hg,bx,fz⟩:=hv.gen;obtain ⟨cs,rfl,rR⟩:=hW;have hS:=hw.is;have hn:=hw.len;have n0:=hw.pos;have n1:=hw.le;have kp:=aec (i:=i) (j:=j) hw.de kf kg;have kw:=af0 kf kg;have pW:aS (.agg cs)=true:=by simp only [aS,rR.pu]
 have key:=cg (P:=P) (L:=L) (live:=[1,2,4,5,11,12]) (a:=Gv)
  (I:=fun k st=>∃m:Nat,m+k=4/\((m=0/\st=⟨[(1,w),(2,.ptr 0 0),(4,.ptr 1 0),(5,.ae),(11,.agg cs),(12,aa m)],[(1,.cells true true true 4 [.int .i64 0,.ae,.int .i64 0,.ae]),(0,.cells true true true 10 [aa i,aa j,c1,c2,c3,c4,d1,d2,d3,d4])],2,0⟩)\/
   (0<m/\∃ps,QL ps ((nE s i j f g).take m)/\st=⟨[(1,w),(2,.ptr 0 0),(4,.ptr 1 0),(5,.ak 2 0 m),(11,.agg cs),(12,aa m)],[(2,.cells true true false 4 ps),(1,.cells true true true 4 [.int .i64 0,.ae,.int .i64 0,.ae]),(0,.cells true true true 10 [aa i,aa j,c1,c2,c3,c4,d1,d2,d3,d4])],3,0⟩)))
  (Q:=fun ex st=>∃tm hp ct ps,QL ps (nE s i j f g)/\st=⟨tm,hp,ct,0⟩/\ex= .exit 0/\ab tm 4= .ptr 1 0/\ab tm 5= .ak 2 0 4/\ap hp 1=some (.cells true true true 4 [.int .i64 0,.ae,.int .i64 0,.ae])/\ap hp 2=some (.cells true true false 4 ps)) ?_
 ·unfold af at eW ⊢;rw [aq h.YO];simp only [go_sem,ya,yb,Xu,bx,aG,UG,fz,eW,bB,yj];generalize hq:D P L (.loop [1,2,4,5,11,12] Gv) _=q;obtain ⟨ex,st,rfl,tm,hp,ct,ps,fH,rfl,rfl,t4,t5,g1,g2⟩:=bV hq (key 4) ⟨0,by omega,.inl ⟨rfl,by simp only [go_sem,ya,yb,av,az hS.pu,aE _ hS.pu,az pW,aE _ pW]<;>rfl⟩⟩
  have hl4:ps.length=4*4:=by rw [fH.len];rfl
  obtain ⟨z,e1,hz⟩:=E3 h.toFr' (z:=0) (by omega) (by omega);have fZ:cK z 0:=hz;have jh:=hz;obtain ⟨z1,z2,z3,z4,rfl,gz⟩:=hz.gen;obtain ⟨r,e2,hr⟩:=ay4 h.toFr' h.Wz (K:=2*K+70) (M:=2) fZ (w:= .aO false 4 ps) (apN false fH) G4 kp (by simp [nE]) (by simp only [nE,yy,yG];omega);have bW:=hr;obtain ⟨r1,r2,r3,r4,rfl,gr⟩:=hr.gen;refine ⟨_,?_,bW⟩;unfold af at e1 e2;simp only [go_sem,ya,yb,av,t4,t5,g1,g2,e1,gz.ah,my false hl4 (show 0<4 by decide),e2,bB,gr.st,dB,dD,yj];exact gr.dM _
 ·rintro k st ⟨m,hk,bh⟩;by_cases hm:m<4
  ·left
   obtain ⟨a,b,c,d,e1,hx⟩:=rR.Bb (n:=4) rfl hm;have e2:=ay3 h.Wy h.oS hv (k:=(m:Int)) (n:=n) hi hj (by omega) (by omega) (by omega);obtain ⟨q,rest,OX,e3,e4⟩:=hw.cell (i+(m:Int)%2) (j+(m:Int)/2);have hb:=hw.de (i+(m:Int)%2) (j+(m:Int)/2);obtain ⟨z,e5,hz⟩:=E3 h.toFr' (z:=bQ s (i+(m:Int)%2) (j+(m:Int)/2)) (by omega) (by omega);obtain ⟨y,e6,hy⟩:=z7 h.toFr' hx hz (K:=2*K+70) ((kw _ (yaL _)).mono (by omega)) ((JN (i:=i) (j:=j) (k:=(m:Int)) hw.de).mono (by omega)) (by omega);have a1:=wO (i+(m:Int)%2) (show (n:Int)≠0 by omega);have a2:=wO (j+(m:Int)/2) (show (n:Int)≠0 by omega);have z8:=hy;obtain ⟨y1,y2,y3,y4,rfl,gy⟩:=hy.gen;obtain ⟨z1,z2,z3,z4,rfl,gz⟩:=hz.gen;have gx:=hx.f4;have bz:∀q,iG q [AV.int .i64 0,.ae,.int .i64 0,.ae] 0 4 [y1,y2,y3,y4] []=fill q [y1,y2,y3,y4] []:=fun q=>avc gy.o1 gy.o2 gy.o3 gy.o4
   have hpg:(nE s i j f g)[m]'(by simp [nE];omega)=(q9 f g)[m]'hm*rG s i j (m:Int):=apZ _ _ _ _ _ m hm;have eM:(nE s i j f g).take (m+1)=(nE s i j f g).take m++[(q9 f g)[m]'hm*rG s i j (m:Int)]:=by rw [List.take_succ_eq_append_getElem (by simp [nE];omega),hpg]
   unfold rG at eM;unfold af at e2 e5 e6;obtain ⟨YR,YS,YT,YU⟩:=gy.Ry;have pY:aK [y1,y2,y3,y4]=true:=by simp only [aK,YR,YS,YT,YU,wi]
   rcases bh with ⟨h0,rfl⟩ | ⟨h0,ps,fH,rfl⟩
   ·subst h0;simp only [go_sem,ya,yb,xK,Nat.reduceLT,ye,Gv,show ((0:Nat):Int)<4 by omega,yq,sM (show (0:Int)<=((0:Nat):Int) by omega),wo,e1,aG,gx.st,UG,mA,fz,hn,hS.len,e2,DB,sM a1,sM a2,e3,e4,e5,gx.ah,gz.ah,e6,bz,YR,YS,YT,YU,wi,ahj,bB,yj,ki];refine ⟨_,k-1,rfl,by omega,1,by omega,.inr ⟨by omega,[y1,y2,y3,y4],?_,?_⟩⟩
    ·rw [eM];exact ⟨z8,trivial⟩
    ·rw [wrap64 (by omega) (by omega)];simp only [go_sem,ya,yb,av,az hS.pu,aE _ hS.pu,az pW,aE _ pW]<;>rfl
   ·simp only [go_sem,ya,yb,xK,Gv,show (m:Int)<4 by omega,yq,sM (show (0:Int)<=m by omega),wo,e1,aG,gx.st,UG,mA,fz,hn,hS.len,e2,DB,sM a1,sM a2,e3,e4,e5,gx.ah,gz.ah,e6,bz,YR,YS,YT,YU,wi,ahj,bB,yj]
    rw [jN (ex:=false) (pu:=true) (cs:=ps) (by simp only [go_sem,ya]) (by rw [fH.len,List.length_take,Nat.min_eq_left (by simp [nE];omega)]) (by omega) (by omega) (by decide) (by simp only [go_sem,gy.o1,gy.o2,gy.o3,gy.o4])];simp only [go_sem,ya,yb,pY];refine ⟨_,k-1,rfl,by omega,m+1,by omega,.inr ⟨by omega,ps++[y1,y2,y3,y4],?_,?_⟩⟩
    ·rw [eM];exact fH.snoc z8
    ·rw [wrap64 (by omega) (by omega)];simp only [go_sem,ya,yb,av,az hS.pu,aE _ hS.pu,az pW,aE _ pW]<;>rfl
  ·right
   have h4:m=4:=by omega
   subst h4;rcases bh with ⟨h0,rfl⟩ | ⟨h0,ps,fH,rfl⟩
   ·exact absurd h0 (by decide)
   ·simp only [go_sem,ya,Gv,show ¬((4:Nat):Int)<4 by decide,yp];exact ⟨_,_,rfl,by simp,_,_,_,ps,fH,rfl,rfl,by simp only [go_sem,ya],by simp only [go_sem,ya]<;>rfl,by simp only [go_sem,ya],by simp only [go_sem]⟩
end
end
section
open Go (IntKind)
section
variable {P:aI} {L:Lib}
def Vg (tm:Env) (hp:Hp) (rs:List (Nat×Bool×Nat)) (q:gM):gM:=match q with | some (v,ao,bj)=>bif rz tm hp ao rs then some (v,ao,bj) else none | none=>none
def ap0 {f:cT} {tm:Env} {hp:Hp} {ct:Nat} (rs:List (Nat×Bool×Nat)) (g:X) (xs:List X):bC P L f tm hp ct (.iE rs g xs)=Vg tm hp rs (dR P L f hp ct .dyn (aC tm g) (dS tm xs)):=rfl
def asi {tm:Env} {hp ao:Hp} {rs:List (Nat×Bool×Nat)} {v:AV} {bj:Nat} (h:rz tm hp ao rs=true):Vg tm hp rs (some (v,ao,bj))=some (v,ao,bj):=by
 simp only [Vg,h,ym]
section
variable {b n R st:Nat} {fnv:AV} {H:Hp} {rs:List (List AV)}
def anC:ap (bJ (b+5) rs++cJ b n R fnv st H) b=some (.cells true true true 1 [.int .i64 n]):=by
 rw [sE (by omega)];simp only [cJ,ap,cP (show b+4≠b by omega),cP (show b+3≠b by omega),cP (show b+2≠b by omega),cP (show b+1≠b by omega),xq,yD,ym]
def anD:ap (bJ (b+5) rs++cJ b n R fnv st H) (b+1)=some (.cells true (aS fnv) true 1 [fnv]):=by
 rw [sE (by omega)];simp only [cJ,ap,cP (show b+4≠b+1 by omega),cP (show b+3≠b+1 by omega),cP (show b+2≠b+1 by omega),xq,yD,ym]
def SQ:ap (bJ (b+5) rs++cJ b n R fnv st H) (b+2)=some (.cells true (yx R 0) true 1 (gC (b+5) n R)):=by
 rw [sE (by omega)];simp only [cJ,ap,cP (show b+4≠b+2 by omega),cP (show b+3≠b+2 by omega),xq,yD,ym]
def SR:ap (bJ (b+5) rs++cJ b n R fnv st H) (b+3)=some (.cells true false true 1 [.ak (b+2) 0 n]):=by
 rw [sE (by omega)];simp only [cJ,ap,cP (show b+4≠b+3 by omega),xq,yD,ym]
def Nx:ap (bJ (b+5) rs++cJ b n R fnv st H) (b+4)=some (.lp (ie b n fnv) [12,13] AJ rC st .none):=by
 rw [sE (by omega)];simp only [cJ,ap,xq,ym]
def abz {st':Nat}:bf (bJ (b+5) rs++cJ b n R fnv st H) (b+4) (.lp (ie b n fnv) [12,13] AJ rC st' .none)=bJ (b+5) rs++cJ b n R fnv st' H:=by
 rw [RR (by omega)];simp only [cJ,bf,xq,ym]
def anE:bf (bJ (b+5) rs++cJ b n R fnv st H) (b+2) (.cells true false true 1 (gC (b+5) n (R+1)))=bJ (b+5) rs++cJ b n (R+1) fnv st H:=by
 rw [RR (by omega)];simp only [cJ,bf,cP (show b+4≠b+2 by omega),cP (show b+3≠b+2 by omega),xq,yD,ym,cP (Nat.succ_ne_zero R)]
def ap1 {cs:List AV} {old:Hp} {ct:Nat} (h:ct=b+5+rs.length):(ct,Obj.cells true true true 1 cs)::(bJ (b+5) rs++old)=bJ (b+5) (cs::rs)++old:=by
 subst h;rfl
def ap2 {cs:List AV} {old:Hp} {x:Nat} (h:x=b+5+rs.length):ap (bJ (b+5) (cs::rs)++old) x=some (.cells true true true 1 cs):=by
 subst h;simp only [bJ,yW,Jy]
def ap3 {cs dZ:List AV} {old:Hp} {x:Nat} (h:x=b+5+rs.length):bf (bJ (b+5) (cs::rs)++old) x (.cells true true true 1 dZ)=bJ (b+5) (dZ::rs)++old:=by
 subst h;simp only [bJ,yW,acj]
end
def abA {B n r:Nat}:(gC B n (r+1)).drop r= .ak (B+r) 0 n::yz (n-(r+1)) .ae:=by
 unfold gC;rw [tF,xt,xo,List.drop_left' (by simp)];rfl
def aaJ {b n r c:Nat} (hr:r<n) (hc:c<n) {fnv v:AV} {H H':Hp} {cur:List AV} {prev:List (List AV)} (hp:prev.length=r) (aCy:cur.length=n) (eN:bE v=true) (di:aS v=true) {tm:Env} {ct base:Nat}
  (h3:ab tm 3= .ptr (b+1) 0) (h5:ab tm 5= .ptr (b+3) 0) (h6:ab tm 6=aa c) (h7:ab tm 7=aa r)
  (jg:dR P L (D P L) (bJ (b+5) (cur::prev)++cJ b n (r+1) fnv 1 H) ct .dyn fnv [aa c,aa r]=some (v,bJ (b+5) (cur::prev)++cJ b n (r+1) fnv 1 H',ct)):
  ∃tm',D P L (.aT [⟨some 21,none,.ld 1 false (.t 5)⟩,⟨some 22,none,.cm (.t 7)⟩,⟨some 23,none,.aY 1 (.t 21) (.t 22)⟩,⟨some 24,none,.ld 1 false (.t 23)⟩,⟨some 25,none,.cm (.t 6)⟩,⟨some 26,none,.ld 1 false (.t 3)⟩,
   ⟨some 27,none,.cm (.t 6)⟩,⟨some 28,none,.cm (.t 7)⟩,⟨some 29,none,.iE [(1,false,5),(1,false,23)] (.t 26) [(.t 27),(.t 28)]⟩,⟨some 30,none,.aY 1 (.t 24) (.t 25)⟩,⟨none,none,.st 1 (.t 30) (.t 29)⟩])
   ⟨tm,bJ (b+5) (cur::prev)++cJ b n (r+1) fnv 1 H,ct,base⟩=some (.normal,⟨tm',bJ (b+5) (over c [v] cur::prev)++cJ b n (r+1) fnv 1 H',ct,base⟩):=by
 have hl:∀H,ap (bJ (b+5) (cur::prev)++cJ b n (r+1) fnv 1 H) (b+5+r)=some (.cells true true true 1 cur):=fun H=>ap2 (by omega)
 have hs:∀H X,bf (bJ (b+5) (cur::prev)++cJ b n (r+1) fnv 1 H) (b+5+r) (.cells true true true 1 X)=bJ (b+5) (X::prev)++cJ b n (r+1) fnv 1 H:=fun H X=>ap3 (by omega)
 have OA:cellsOf v=[v]:=by cases v<;>simp_all [cellsOf,bE]
 have bh:∀H,fu (bJ (b+5) (cur::prev)++cJ b n (r+1) fnv 1 H) ct (b+5+r) c 1 [v] (some (.cells true true true 1 cur))=some (.aw [],bf (bJ (b+5) (cur::prev)++cJ b n (r+1) fnv 1 H) (b+5+r) (.cells true true true 1 (over c [v] cur)),ct):=fun H=>by
  rw [lj (sz:=1) (by rfl) (by omega) (by simp [cf,eN])];simp [aK,di]
 simp only [go_sem,ya,yi,h3,h5,h6,h7,SR,SQ,anD,dH _ _ hr,yd,abA,ap0,jg];rw [asi]
 ·simp only [go_sem,ya,yi,dH _ _ hc,yd,OA,hl,bh,hs];exact ⟨_,rfl⟩
 ·simp only [rz];simp only [go_sem,ya,h5,SR,SQ,abA,Pg,xq]
def ak0 {b n r c:Nat} (hr:r<n) (hc:c<n) (gE:n<=1000) {fnv:AV} (hf:bE fnv=true) {val:Nat->Nat->AV} (eN:bE (val c r)=true) (di:aS (val c r)=true) {H H':Hp} {prev rs:List (List AV)} (hp:prev.length=r)
  (HK:rs=if c=0 then prev else mg (.int .i64 0) val n r c::prev)
  (jg:∀cur,dR P L (D P L) (bJ (b+5) (cur::prev)++cJ b n (r+1) fnv 1 H) (b+5+(r+1)) .dyn fnv [aa c,aa r]=some (val c r,bJ (b+5) (cur::prev)++cJ b n (r+1) fnv 1 H',b+5+(r+1))):
  jq (D P L) (bJ (b+5) rs++cJ b n rs.length fnv 0 H) (b+5+rs.length) (b+4) [aa c,aa r]=
   some (.bool true,bJ (b+5) (mg (.int .i64 0) val n r (c+1)::prev)++cJ b n (r+1) fnv 0 H',b+5+(r+1)):=by
 have OA:cellsOf fnv=[fnv]:=by cases fnv<;>simp_all [cellsOf,bE]
 have hb:∃tm',D P L rC ⟨(7,aa r)::(6,aa c)::(13,aa r)::(12,aa c)::ie b n fnv,bJ (b+5) rs++cJ b n rs.length fnv 1 H,b+5+rs.length,b+5+rs.length⟩=
   some (.normal,⟨tm',bJ (b+5) (mg (.int .i64 0) val n r (c+1)::prev)++cJ b n (r+1) fnv 1 H',b+5+(r+1),b+5+rs.length⟩):=by
  by_cases h0:c=0
  ·subst h0;rw [yF rfl] at HK;subst HK;have bh:∀H,fu (bJ (b+5) (yz n (.int .i64 0)::rs)++cJ b n r fnv 1 H) (b+5+r+1) (b+2) r 1 [.ak (b+5+r) 0 n] (some (.cells true (yx r 0) true 1 (gC (b+5) n r)))=
     some (.aw [],bJ (b+5) (yz n (.int .i64 0)::rs)++cJ b n (r+1) fnv 1 H,b+5+r+1):=fun H=>by
    rw [lj (sz:=1) (by rfl) (by rw [apx (by omega)];omega) (by rfl),anj hr];simp only [aat,afD,Bool.false_and,Bool.and_false,anE]
   obtain ⟨tm',h2⟩:=aaJ (P:=P) (L:=L) (b:=b) (c:=0) hr hc (cur:=yz n (.int .i64 0)) (prev:=rs) hp (by simp) eN di (H:=H) (H':=H') (ct:=b+5+r+1) (base:=b+5+r) (fnv:=fnv)
    (tm:=(20,.ptr (b+2) r)::(19,.ak (b+5+r) 0 n)::(18,.int .i64 n)::(17,aa r)::(16,.ak (b+2) 0 n)::(15,.bool true)::(14,aa ((0:Nat):Int))::(7,aa r)::(6,aa ((0:Nat):Int))::(13,aa r)::(12,aa ((0:Nat):Int))::ie b n fnv)
    (by rfl) (by rfl) (by rfl) (by rfl) (jg _)
   refine ⟨tm',?_⟩;simp only [hp];unfold rC;rw [UY,kE,kE,UX]
   simp only [go_sem,ya,yi,ie,SR,anC,dH _ _ hr,yd,yaB,Gb (ct:=b+5+r) (sz:=1) (by':=8) (l:=n) (z:=[.int .i64 0]) (by omega) (by omega) rfl rfl,To]
   rw [ap1 (rs:=rs) (ct:=b+5+r) (by omega),SQ,bh];simp only [ad1,agQ,ad0,afz,gG];simp only [ie,yaB] at h2;rw [h2,TN,<-abr hc,anl];rfl
  ·rw [yr h0] at HK;subst HK;obtain ⟨tm',h2⟩:=aaJ (P:=P) (L:=L) (b:=b) (c:=c) hr hc (cur:=mg (.int .i64 0) val n r c) (prev:=prev) hp (apy (by omega)) eN di (H:=H) (H':=H') (ct:=b+5+(r+1)) (base:=b+5+(r+1)) (fnv:=fnv)
    (tm:=(15,.bool false)::(14,aa c)::(7,aa r)::(6,aa c)::(13,aa r)::(12,aa c)::ie b n fnv)
    (by rfl) (by rfl) (by rfl) (by rfl) (jg _)
   refine ⟨tm',?_⟩;simp only [yy,hp];unfold rC;rw [UY,kE,kE,UX];simp only [ie] at h2 ⊢;simp only [go_sem,ya,show ¬(c:Int)=0 by omega];simp only [go_sem,ya] at h2;rw [h2,TN,abr hc]
 obtain ⟨tm',hb⟩:=hb;have hlen:b+5+(r+1)=b+5+(mg (.int .i64 0) val n r (c+1)::prev).length:=by rw [yy,hp]
 rw [Tn (Nx) (tm':=(13,aa r)::(12,aa c)::ie b n fnv) rfl (s1:=⟨(7,aa r)::(6,aa c)::(13,aa r)::(12,aa c)::ie b n fnv,bJ (b+5) rs++cJ b n rs.length fnv 0 H,b+5+rs.length,b+5+rs.length⟩) (by unfold AJ;simp only [go_sem,ya]) Nx
  (by simp only [abz];exact hb) Nx,abz]
end
end
section
open Go (IntKind)
section
variable {P:aI} {L:Lib}
structure Kj (P:aI) (L:Lib) (b n:Nat) (fnv:AV) (val:Nat->Nat->AV) (Hs:Nat->Hp):Prop where
 n1:n<=1000
 AP:∀k,O0 b fnv (Hs k)
 one:∀c r,bE (val c r)=true
 pu:∀c r,aS (val c r)=true
 call:∀c r,c<n->r<n->∀(fG:Hp) (ct:Nat),(∀p,p∈fG->b<=p.1)->b<=ct->jP ct ct fG->(dC ct fG).length<=5000->dR P L (D P L) (fG++Hs (r*n+c)) ct .dyn fnv [aa c,aa r]=some (val c r,fG++Hs (r*n+c+1),ct)
def jr (val:Nat->Nat->AV) (n r c:Nat):List (List AV):=if c=0 then fp val n r else mg (.int .i64 0) val n r c::fp val n r
def alP {val:Nat->Nat->AV} {n r c:Nat}:(jr val n r c).length=if c=0 then r else r+1:=by
 unfold jr;split<;>simp [BQ]
def ak1 {val:Nat->Nat->AV} {n r c:Nat}:jr val n r (c+1)=mg (.int .i64 0) val n r (c+1)::fp val n r:=by
 simp [jr]
def ak2 {val:Nat->Nat->AV} {n r:Nat} (hn:0<n):jr val n r n=fp val n (r+1):=by
 rw [jr,yr (by omega),ank];rfl
def ak3 {val:Nat->Nat->AV} {n r:Nat}:jr val n r 0=fp val n r:=by simp [jr]
def abB {B:Nat}:∀{rs:List (List AV)} (p:Nat×Obj),p∈bJ B rs->B<=p.1
 | [],p,h=>by simp [bJ] at h
 | c::r,p,h=>by
  rcases wK.1 h with rfl | h
  ·show B<=B+r.length;omega
  ·exact abB p h
def acH {b n R st:Nat} {fnv:AV} {H:Hp} {rs:List (List AV)}:bJ (b+5) rs++cJ b n R fnv st H=(bJ (b+5) rs++cJ b n R fnv st [])++H:=by
 rw [xo];rfl
def ap4 {b n R st:Nat} {fnv:AV} {rs:List (List AV)} (p:Nat×Obj) (h:p∈bJ (b+5) rs++cJ b n R fnv st []):b<=p.1:=by
 rcases List.mem_append.1 h with h | h
 ·have:=abB p h;omega
 ·simp only [cJ,wK,uP,ybO] at h;rcases h with rfl | rfl | rfl | rfl | rfl<;>simp
def alQ {b n R st:Nat} (hR:R<=n) {fnv:AV} {H:Hp} (ho:O0 b fnv H) {rs:List (List AV)} (hl:rs.length=R):jP (b+5+R) (b+5+R) (bJ (b+5) rs++cJ b n R fnv st []):=by
 have P2:kA (b+4) (ie b n fnv):=by
  have:=Ft (show b<=b+4 by omega) ho.fv
  refine ⟨⟨trivial,trivial,trivial⟩,trivial,show b+3<b+4 by omega,show b+2<b+4 by omega,trivial,trivial,show b+1<b+4 by omega,show b<b+4 by omega,trivial,this,trivial⟩
 refine Sl (ZY (by omega)) ⟨by omega,M0 (by omega) P2,by omega,.inr ⟨show b+2<_ by omega,trivial⟩,by omega,.inr aaE,by omega,.inr ⟨Ft (by omega) ho.fv,trivial⟩,by omega,.inl rfl,trivial⟩
def anF {b n R st ct:Nat} (hR:R<=n) (hn:n<=1000) (fI:b+5<=ct) {fnv:AV} {H:Hp} (ho:O0 b fnv H) {rs:List (List AV)}:(dC ct (bJ (b+5) rs++cJ b n R fnv st [])).length<=5000:=by
 have axL:(fo (ie b n fnv)).length<=1010:=by
  have:=ho.fl
  simp [ie,fo,refs,eV];omega
 have Hh:(fA (.cells true (aS fnv) true 1 [fnv])).length<=1000:=by
  cases aS fnv with
  | true=>simp [fA]
  | false=>simp [fA,eV];exact ho.fl
 have hol:(fA (.cells true (yx R 0) true 1 (gC (b+5) n R))).length<=1000:=by
  cases hq:yx R 0 with
  | true=>simp [fA]
  | false=>simp only [fA,yD,abt,List.length_range'];omega
 rw [R3,Zs,xN];simp only [cJ,dC,gJ (show b+4<ct by omega),gJ (show b+3<ct by omega),gJ (show b+2<ct by omega),gJ (show b+1<ct by omega),gJ (show b<ct by omega),ym,List.length_append,yG];have h3:(fA (.cells true false true 1 [AV.ak (b+2) 0 n])).length=1:=rfl;have h0:(fA (.cells true true true 1 [AV.int .i64 n])).length=0:=rfl;have h4:(fA (.lp (ie b n fnv) [12,13] AJ rC st .none)).length=(fo (ie b n fnv)).length:=rfl;rw [h3,h0,h4];omega
def anG {b n:Nat} {fnv:AV} {val:Nat->Nat->AV} {Hs:Nat->Hp} (hf:Kj P L b n fnv val Hs) {r:Nat} (hr:r<n):
  ∀d st,(∃c:Nat,bA [0,1,3,5,6,9,10] st=⟨[(0,.fn (.y (b+4)) [] []),(1,.bi [.int .i64 n]),(3,aa r),(5,aa n),(6,aa r),(9,aa n),(10,aa c)],bJ (b+5) (jr val n r c)++cJ b n (jr val n r c).length fnv 0 (Hs (r*n+c)),b+5+(jr val n r c).length,b+5⟩/\c+d=n)->
   ∃ex s',D P L (.loop [0,1,3,5,6,9,10] Aw) st=some (ex,s')/\∃tm ct,s'=⟨tm,bJ (b+5) (jr val n r n)++cJ b n (jr val n r n).length fnv 0 (Hs (r*n+n)),ct,b+5⟩/\ex= .exit 2/\ab tm 0= .fn (.y (b+4)) [] []/\ab tm 1= .bi [.int .i64 n]/\ab tm 5=aa n/\ab tm 6=aa r:=by
 have n1:=hf.n1
 refine cg (I:=fun d st=>∃c:Nat,st=⟨[(0,.fn (.y (b+4)) [] []),(1,.bi [.int .i64 n]),(3,aa r),(5,aa n),(6,aa r),(9,aa n),(10,aa c)],bJ (b+5) (jr val n r c)++cJ b n (jr val n r c).length fnv 0 (Hs (r*n+c)),b+5+(jr val n r c).length,b+5⟩/\c+d=n)
  (Q:=fun ex s'=>∃tm ct,s'=⟨tm,bJ (b+5) (jr val n r n)++cJ b n (jr val n r n).length fnv 0 (Hs (r*n+n)),ct,b+5⟩/\ex= .exit 2/\ab tm 0= .fn (.y (b+4)) [] []/\ab tm 1= .bi [.int .i64 n]/\ab tm 5=aa n/\ab tm 6=aa r) ?_
 rintro d st ⟨c,rfl,hcd⟩;by_cases hc:c<n
 ·left
  have DZ:=ak0 (P:=P) (L:=L) (b:=b) hr hc n1 (hf.AP 0).one (hf.one c r) (hf.pu c r) (H:=Hs (r*n+c)) (H':=Hs (r*n+c+1)) (prev:=fp val n r) (rs:=jr val n r c) (BQ val n r) rfl (fun cur=>by
   have hl:(cur::fp val n r).length=r+1:=by rw [yy,BQ]
   rw [acH,hf.call c r hc hr _ _ ap4 (by omega) (alQ (by omega) (hf.AP 0) hl) (anF (by omega) n1 (by omega) (hf.AP 0)),<-acH])
  have AI:∀(xs:List AV) (hp:Hp) (ct:Nat),dR P L (D P L) hp ct .heap (.fn (.y (b+4)) [] []) xs=jq (D P L) hp ct (b+4) xs:=fun _ _ _=>rfl
  simp only [go_sem,ya,Aw,show (c:Int)<n by omega,AI,DZ,show (c:Int)+1=((c+1:Nat):Int) from rfl,wrapN (n:=c+1) (by omega)];refine ⟨_,d-1,rfl,by omega,c+1,?_,by omega⟩;rw [<-ak1];have hlen:(jr val n r (c+1)).length=r+1:=by rw [alP,yr (by omega)]
  have kI:=fun (tm:Env) (ct:Nat)=>I3 (tm:=tm) (ct:=ct) (b:=b) (n:=n) (st:=0) (live:=[0,1,3,5,6,9,10]) (rs:=jr val n r (c+1)) (hf.AP (r*n+c+1)) (by omega) n1
  simp only [hlen] at kI ⊢;rw [kI]
  ·simp only [go_sem,ya];rfl
  ·simp only [go_sem,ya];exact ⟨⟨by omega,rfl,rfl⟩,trivial,trivial,trivial,trivial,trivial,trivial,trivial⟩
  ·simp only [go_sem,ya,yb,ye]
 ·right
  have:c=n:=by omega
  subst this;simp only [go_sem,ya,Aw,show ¬(c:Int)<c by omega];refine ⟨_,_,rfl,by simp,_,_,rfl,rfl,?_⟩;simp only [go_sem,ya]
  simp
def alR {b n:Nat} (hn:0<n) {fnv:AV} {val:Nat->Nat->AV} {Hs:Nat->Hp} (hf:Kj P L b n fnv val Hs):
  ∀d st,(∃r:Nat,bA [0,1,5,6] st=⟨[(0,.fn (.y (b+4)) [] []),(1,.bi [.int .i64 n]),(5,aa n),(6,aa r)],bJ (b+5) (fp val n r)++cJ b n (fp val n r).length fnv 0 (Hs (r*n)),b+5+(fp val n r).length,b+5⟩/\r+d=n)->
   ∃ex s',D P L (.loop [0,1,5,6] Ax) st=some (ex,s')/\∃tm ct,s'=⟨tm,bJ (b+5) (fp val n n)++cJ b n (fp val n n).length fnv 0 (Hs (n*n)),ct,b+5⟩/\ex= .exit 0:=by
 have n1:=hf.n1
 refine cg (I:=fun d st=>∃r:Nat,st=⟨[(0,.fn (.y (b+4)) [] []),(1,.bi [.int .i64 n]),(5,aa n),(6,aa r)],bJ (b+5) (fp val n r)++cJ b n (fp val n r).length fnv 0 (Hs (r*n)),b+5+(fp val n r).length,b+5⟩/\r+d=n)
  (Q:=fun ex s'=>∃tm ct,s'=⟨tm,bJ (b+5) (fp val n n)++cJ b n (fp val n n).length fnv 0 (Hs (n*n)),ct,b+5⟩/\ex= .exit 0) ?_
 rintro d st ⟨r,rfl,lF⟩;by_cases hr:r<n
 ·left
  have hlen:(fp val n r).length=r:=BQ val n r;have D7:(fp val n (r+1)).length=r+1:=BQ val n (r+1);have kI:=fun (tm:Env) (ct:Nat)=>I3 (tm:=tm) (ct:=ct) (b:=b) (n:=n) (st:=0) (live:=[0,1,3,5,6,9,10]) (rs:=fp val n r) (hf.AP (r*n)) (by omega) n1
  have GA:=fun (tm:Env) (ct:Nat) (live:List Nat)=>I3 (tm:=tm) (ct:=ct) (live:=live) (b:=b) (n:=n) (st:=0) (rs:=fp val n (r+1)) (hf.AP ((r+1)*n)) (by omega) n1
  simp only [hlen] at kI;simp only [D7] at GA;simp only [go_sem,ya,Ax,show (r:Int)<n by omega,hlen];generalize hq:D P L (.loop [0,1,3,5,6,9,10] Aw) _=q;obtain ⟨ex,st,rfl,tm,ct,rfl,rfl,g0,g1,g5,g6⟩:=bV hq (anG hf hr n) ⟨0,by
   simp only [ak3,hlen,Nat.add_zero];rw [kI]
   ·simp only [go_sem,ya];rfl
   ·simp only [go_sem,ya];exact ⟨⟨by omega,rfl,rfl⟩,trivial,trivial,trivial,trivial,trivial,trivial,trivial⟩
   ·simp only [go_sem,ya,yb,ye],by omega⟩
  simp only [ak2 hn,D7,show r*n+n=(r+1)*n by rw [Nat.add_mul,Nat.one_mul]];rw [JJ,gG,K4,GA]
  ·simp only [go_sem,ya,g0,g1,g5,g6,show (r:Int)+1=((r+1:Nat):Int) from rfl,wrapN (n:=r+1) (by omega)];refine ⟨_,d-1,rfl,by omega,r+1,?_,by omega⟩;rw [D7,GA]
   ·simp only [go_sem,ya]
   ·simp only [go_sem,ya];exact ⟨⟨by omega,rfl,rfl⟩,trivial,trivial,trivial,trivial⟩
   ·simp only [go_sem,ya,yb,ye]
  ·simp only [go_sem,g0,g1,g5,g6];exact ⟨⟨by omega,rfl,rfl⟩,trivial,trivial,trivial,trivial⟩
  ·simp only [go_sem,yb,ye,g0,g1,g5,g6]
 ·right
  have:r=n:=by omega
  subst this;simp only [go_sem,ya,Ax,show ¬(r:Int)<r by omega];exact ⟨_,_,rfl,by simp,_,_,rfl,rfl⟩
structure BuT (P:aI) (L:Lib):Prop where
 Rz:Has P L 40 L2
 h96:Has P L 96 XA
 G6:Has P L 133 GJ
def YV (h:BuT P L) (n:Int):bY P L (D P L) 96 [aa n]=some (.fn (.f 133) [] [.bi [aa n]]):=by
 rw [aq h.h96];simp only [go_sem,ya,yb,XA];rfl
def kJ (b n:Nat) (fnv:AV) (val:Nat->Nat->AV) (H:Hp):Hp:=
 bJ (b+5) (fp val n n)++(b+3,.cells true false true 1 [.ak (b+2) 0 n])::(b+2,.cells true false true 1 (gC (b+5) n n))::(b+1,.cells true (aS fnv) true 1 [fnv])::(b,.cells true true true 1 [.int .i64 n])::H
def abC {x:Nat}:∀{H:Hp},(∀p,p∈H->p.1≠x)->dL H x=H
 | [],_=>rfl
 | (id,o)::r,h=>by
  rw [dL,cP (h (id,o) (by simp)),yD,abC (fun p hp=>h p (by simp [hp]))]
def abD (h:BuT P L) {b n:Nat} (hn:0<n) {fnv:AV} {val:Nat->Nat->AV} {Hs:Nat->Hp} (hf:Kj P L b n fnv val Hs) (hb:∀p,p∈Hs (n*n)->p.1<b):
  ∃tm ct,D P L L2.body ⟨[(0,aa n),(1,fnv)],Hs 0,b,b⟩=some (.ret,⟨tm,kJ b n fnv val (Hs (n*n)),ct,b⟩)/\ab tm 4= .ak (b+2) 0 n:=by
 have n1:=hf.n1;have gA:=(hf.AP 0).one;have OA:cellsOf fnv=[fnv]:=by cases fnv<;>simp_all [cellsOf,bE]
 have ay5:∀ct,AZ ct 1 24 [.ae] (some n) (some n)=some (.ak ct 0 n,.cells true true true 1 (yz n .ae)):=fun ct=>by
  rw [Gb (sz:=1) (by omega) (by omega) rfl rfl,To];rfl
 have awJ:gC (b+5) n 0=yz n .ae:=by simp [gC]
 have inner:∃tm ct,D P L GJ.body ⟨fM 0 [.fn (.y (b+4)) [] [],.bi [.int .i64 n]],(b+4,.lp (ie b n fnv) [12,13] AJ rC 0 .none)::(b+3,.cells true false true 1 [.ak (b+2) 0 n])::(b+2,.cells true true true 1 (yz n .ae))::(b+1,.cells true (aS fnv) true 1 [fnv])::(b,.cells true true true 1 [.int .i64 n])::Hs 0,b+5,b+5⟩=
   some (.normal,⟨tm,bJ (b+5) (fp val n n)++cJ b n n fnv 0 (Hs (n*n)),ct,b+5⟩):=by
  have bh:(b+4,Obj.lp (ie b n fnv) [12,13] AJ rC 0 .none)::(b+3,.cells true false true 1 [.ak (b+2) 0 n])::(b+2,.cells true true true 1 (yz n .ae))::(b+1,.cells true (aS fnv) true 1 [fnv])::(b,.cells true true true 1 [.int .i64 n])::Hs 0=
    bJ (b+5) []++cJ b n 0 fnv 0 (Hs 0):=by
   simp only [bJ,xN,cJ,awJ];rfl
  rw [bh];simp only [go_sem,ya,GJ];generalize hq:D P L (.loop [0,1,5,6] Ax) _=q;have kI:=fun (tm:Env) (ct:Nat) (live:List Nat)=>I3 (tm:=tm) (ct:=ct) (live:=live) (b:=b) (n:=n) (st:=0) (rs:=[]) (hf.AP 0) (by simp) n1
  simp only [yG] at kI;obtain ⟨ex,st,rfl,tm,ct,rfl,rfl⟩:=bV hq (alR hn hf n) ⟨0,by
   simp only [fp,yG,Nat.zero_mul];rw [kI]
   ·simp only [go_sem,ya];rfl
   ·simp only [go_sem,ya];exact ⟨⟨by omega,rfl,rfl⟩,trivial,trivial,trivial,trivial⟩
   ·simp only [go_sem,ya,yb,ye],by omega⟩
  have hlen:(fp val n n).length=n:=BQ val n n;have GA:=fun (tm:Env) (ct:Nat) (live:List Nat)=>I3 (tm:=tm) (ct:=ct) (live:=live) (b:=b) (n:=n) (st:=0) (rs:=fp val n n) (hf.AP (n*n)) (by omega) n1
  simp only [hlen] at GA ⊢;simp only [go_sem];rw [GA]
  ·exact ⟨_,_,rfl⟩
  ·simp only [go_sem]
   trivial
  ·simp only [go_sem,ye]
 obtain ⟨tm,ct,inner⟩:=inner;have Dm:=Va (P:=P) (L:=L) (f:= .t 11) (ps:=[12,13]) (as_:=AJ) (body:=rC)
  (s:=⟨ie b n fnv,(b+3,.cells true false true 1 [.ak (b+2) 0 n])::(b+2,.cells true true true 1 (yz n .ae))::(b+1,.cells true (aS fnv) true 1 [fnv])::(b,.cells true true true 1 [.int .i64 n])::Hs 0,b+4,b⟩)
  (n:=133) (first:=[]) (cap:=[.bi [.int .i64 n]]) rfl h.G6.heap (DI h.G6 inner (.inl rfl) rfl) Nx (by decide)
 have Xk:dL (bJ (b+5) (fp val n n)++cJ b n n fnv 0 (Hs (n*n))) (b+4)=kJ b n fnv val (Hs (n*n)):=by
  rw [Zr (by omega),kJ]
  simp only [cJ,dL,xq,ym,cP (show b+3≠b+4 by omega),cP (show b+2≠b+4 by omega),cP (show b+1≠b+4 by omega),cP (show b≠b+4 by omega),yD,
   abC (fun p hp=>by have:=hb p hp;omega:∀p,p∈Hs (n*n)->p.1≠b+4),cP (show n≠0 by omega)]
 have hg3:ap (kJ b n fnv val (Hs (n*n))) (b+3)=some (.cells true false true 1 [.ak (b+2) 0 n]):=by
  rw [kJ,sE (by omega),ap,xq,ym]
 simp only [ie] at Dm;simp only [go_sem,ya,yb,L2,OA,agU gA,ay5,YV h,Nat.add_assoc,Dm,show ¬b+1=b by omega,show ¬b+2=b by omega,show ¬b+3=b by omega];simp only [go_sem,Xk,hg3];exact ⟨_,_,rfl,by simp only [go_sem]⟩
def alS {hp:Hp} {id i:Nat} {o:Obj}:ap (bf hp id o) i=if id=i then (if (ap hp id).isSome then some o else none) else ap hp i:=by
 induction hp with
 | nil=>simp [bf,ap]
 | cons x r ih=>
  obtain ⟨j,q⟩:=x;simp only [bf];by_cases hj:j=id
  ·subst hj;simp only [xq,ym,ap];by_cases hi:j=i
   ·subst hi;simp
   ·simp [cP hi,hi]
  ·simp only [cP hj,yD];rw [ap,ih];by_cases hi:j=i
   ·subst hi
    have:¬id=j:=fun h=>hj h.symm
    simp [xq,this,ap]
   ·simp [cP hi,ap,cP hj]
def acI {B n:Nat} {row:Nat->List AV} (hlen:∀i,(row i).length=n):∀(l:List Nat) (k:Nat) (hp:Hp),l.length+3<=k->(∀i,i∈l->∃rw,ap hp (B+i)=some (.cells rw true true 1 (row i)))->
  ∃ao,cW k hp (l.map fun i=> .ak (B+i) 0 n)=some (l.map fun i=> .aO true n (row i),ao)
 | [],0,hp,hk,_=>by simp at hk
 | [],k+1,hp,_,_=>⟨hp,rfl⟩
 | i::l,0,hp,hk,_=>by simp at hk
 | i::l,1,hp,hk,_=>by simp at hk
 | i::l,2,hp,hk,_=>by simp at hk
 | i::l,k+3,hp,hk,h=>by
  simp only [yy] at hk;obtain ⟨rw,h1⟩:=h i (by simp);have hf:freeze (k+2) hp (.ak (B+i) 0 n)=some (.aO true n (row i),bif rw then bf hp (B+i) (.cells false true true 1 (row i)) else hp):=by
   rw [TP,TQ,h1]
   cases rw with
   | true=>rw [afE,my true (by rw [hlen,yi]) (by decide)];rfl
   | false=>rw [afF,my true (by rw [hlen,yi]) (by decide)];rfl
  obtain ⟨ao,h2⟩:=acI hlen l (k+2) (bif rw then bf hp (B+i) (.cells false true true 1 (row i)) else hp) (by omega) (fun j hj=>by
   obtain ⟨fm,h3⟩:=h j (by simp [hj])
   cases rw with
   | false=>exact ⟨fm,h3⟩
   | true=>
    simp only [ym,alS,h1,Option.isSome_some,yV];by_cases e:B+i=B+j
    ·have:i=j:=by omega
     subst this;exact ⟨false,by rw [yF rfl]⟩
    ·exact ⟨fm,by rw [yr e,h3]⟩)
  exact ⟨ao,by rw [List.map_cons,abj,hf,afC,h2];rfl⟩
def gS (val:Nat->Nat->AV) (n:Nat):AV:= .aO true n ((xg n).map fun r=> .aO true n ((xg n).map fun c=>val c r))
def abE {val:Nat->Nat->AV} {n:Nat}:∀r,(fp val n r).reverse=(xg r).map fun r=>(xg n).map fun c=>val c r
 | 0=>rfl
 | r+1=>by rw [fp,List.reverse_cons,abE r,tF,xt];rfl
def abF {b n k:Nat} (hn:0<n) (gE:n<=900) {fnv:AV} {val:Nat->Nat->AV} {H:Hp} (hk:903<k):∃ao,freeze (k+2) (kJ b n fnv val H) (.ak (b+2) 0 n)=some (gS val n,ao):=by
 have nH:ap (kJ b n fnv val H) (b+2)=some (.cells true false true 1 (gC (b+5) n n)):=by
  rw [kJ,sE (by omega),ap,cP (by omega),yD,ap,xq,ym]
 have zi:gC (b+5) n n=(xg n).map fun i=> .ak (b+5+i) 0 n:=by simp [gC]
 have hlen:(fp val n n).length=n:=BQ val n n;obtain ⟨ao,h1⟩:=acI (B:=b+5) (n:=n) (row:=fun r=>(xg n).map fun c=>val c r) (fun i=>by simp) (xg n) k (kJ b n fnv val H) (by simp;omega) (fun i hi=>by
  have cu:i<n:=List.mem_range.1 hi;refine ⟨true,?_⟩;rw [kJ,SK (by omega)]
  simp only [abE,List.getElem_map,List.getElem_range])
 rw [TP,TQ,nH];have hq:K7 k (b+2) (kJ b n fnv val H) (some (.cells true false true 1 (gC (b+5) n n)))=some (true,1,(xg n).map fun r=> .aO true n ((xg n).map fun c=>val c r),bf ao (b+2) (.cells false false true 1 (gC (b+5) n n))):=by
  simp only [K7,yD,zi,h1]
 rw [hq,my true (by simp) (by decide)];exact ⟨_,rfl⟩
def anH {b n:Nat} (hn:0<n) (gE:n<=900) {fnv:AV} {val:Nat->Nat->AV} {H:Hp}:result (kJ b n fnv val H) (.ak (b+2) 0 n)=some (gS val n):=by
 have nH:ap (kJ b n fnv val H) (b+2)=some (.cells true false true 1 (gC (b+5) n n)):=by
  rw [kJ,sE (by omega),ap,cP (by omega),yD,ap,xq,ym]
 obtain ⟨ao,h⟩:=abF (b:=b) (k:=998) hn gE (fnv:=fnv) (val:=val) (H:=H) (by omega);simp only [result,pP,nH,deep,h]
def anI {b n:Nat} (hn:0<n) (gE:n<=900) {fnv:AV} {val:Nat->Nat->AV} {H:Hp} {k:IntKind} {x:Int}:result (kJ b n fnv val H) (.aw [.ak (b+2) 0 n,.int k x])=some (.aw [gS val n,.int k x]):=by
 have nH:ap (kJ b n fnv val H) (b+2)=some (.cells true false true 1 (gC (b+5) n n)):=by
  rw [kJ,sE (by omega),ap,cP (by omega),yD,ap,xq,ym]
 obtain ⟨ao,h⟩:=abF (b:=b) (k:=998) hn gE (fnv:=fnv) (val:=val) (H:=H) (by omega);have h1:B2 [.ak (b+2) 0 n,.int k x]=some [b+2]:=rfl;simp only [result,h1,sP,pP,nH,deep,h];rfl
end
end
section
open Go (IntKind)
section
variable {P:aI} {L:Lib}
def Tw (h:BuT P L) {n:Nat} (hn:0<n) (gE:n<=900) {g:Nat} {cap:List AV} {val:Nat->Nat->AV} (hc:aK cap=true) (h1:∀c r,bE (val c r)=true) (h2:∀c r,aS (val c r)=true) (h3:∀c r,shut (val c r)=val c r)
  (hg:∀c r,c<n->r<n->af P L g (aa c::aa r::cap) (val c r)):af P L 40 [aa n,.fn (.f g) [] cap] (gS val n):=by
 have EV:aS (.fn (.f g) [] cap)=true:=by simp [aS,aK,hc]
 have hf:Kj P L 0 n (.fn (.f g) [] cap) val (fun _=>[]):=by
  refine ⟨by omega,fun _=>⟨mv EV,by rw [az EV];simp,rfl,trivial,fun _=>by simp [dC]⟩,h1,h2,fun c r oz hr fG ct _ _ _ _=>?_⟩
  have hp:aK (aa c::aa r::cap)=true:=by simp [aK,aS,hc]
  have:=hg c r oz hr
  simp only [dR,xN,yW,hp,ym,this,h3,wg]
 obtain ⟨tm,ct,e,h4⟩:=abD h hn hf (fun p hp=>by simp at hp);unfold af;rw [aq h.Rz,agT,e,afA]
 have:gX ⟨tm,kJ 0 n (.fn (.f g) [] cap) val [],ct,0⟩ L2.dM=some (.ak (0+2) 0 n):=by
  show gX _ [.t 4]=_
  rw [GS,Gw,h4]
 rw [this,afB];exact anH hn gE
def abG (h:BuT P L) {l B n:Nat} (hl:l<B) (hn:n<=1000) {H:Nat->Nat->Hp} (hw:∀r,r<n->H r n=H (r+1) 0) (hb:∀r c,jP B B (H r c)) (hr:∀r c,(dC B (H r c)).length<=5000)
  (DZ:∀c r,c<n->r<n->jq (D P L) (H r c) B l [aa c,aa r]=some (.bool true,H r (c+1),B)):
  ∃tm,D P L GJ.body ⟨[(0,.fn (.y l) [] []),(1,.bi [.int .i64 n])],H 0 0,B,B⟩=some (.normal,⟨tm,H n 0,B,B⟩):=by
 have kI:∀(live:List Nat) (tm:Env) (r c ct:Nat),kA B (dE tm live)->(fo (dE tm live)).length<=1000->bA live ⟨tm,H r c,ct,B⟩=⟨dE tm live,H r c,B,B⟩:=fun live tm r c ct h1 h2=>
  MZ h1 (hb r c) (by have:=hr r c;omega)
 have AI:∀(xs:List AV) (hp:Hp) (ct:Nat),dR P L (D P L) hp ct .heap (.fn (.y l) [] []) xs=jq (D P L) hp ct l xs:=fun _ _ _=>rfl
 have inner:∀r,r<n->∀d st,(∃c:Nat,bA [0,1,3,5,6,9,10] st=⟨[(0,.fn (.y l) [] []),(1,.bi [.int .i64 n]),(3,aa r),(5,aa n),(6,aa r),(9,aa n),(10,aa c)],H r c,B,B⟩/\c+d=n)->
   ∃ex s',D P L (.loop [0,1,3,5,6,9,10] Aw) st=some (ex,s')/\∃tm ct,s'=⟨tm,H r n,ct,B⟩/\ex= .exit 2/\ab tm 0= .fn (.y l) [] []/\ab tm 1= .bi [.int .i64 n]/\ab tm 5=aa n/\ab tm 6=aa r:=by
  intro r bW
  refine cg (I:=fun d st=>∃c:Nat,st=⟨[(0,.fn (.y l) [] []),(1,.bi [.int .i64 n]),(3,aa r),(5,aa n),(6,aa r),(9,aa n),(10,aa c)],H r c,B,B⟩/\c+d=n)
   (Q:=fun ex s'=>∃tm ct,s'=⟨tm,H r n,ct,B⟩/\ex= .exit 2/\ab tm 0= .fn (.y l) [] []/\ab tm 1= .bi [.int .i64 n]/\ab tm 5=aa n/\ab tm 6=aa r) ?_
  rintro d st ⟨c,rfl,hcd⟩;by_cases hc:c<n
  ·left
   simp only [go_sem,ya,Aw,show (c:Int)<n by omega,AI,DZ c r hc bW,show (c:Int)+1=((c+1:Nat):Int) from rfl,wrapN (n:=c+1) (by omega)];refine ⟨_,d-1,rfl,by omega,c+1,?_,by omega⟩;rw [kI]
   ·simp only [go_sem,ya]
   ·simp only [go_sem,ya];exact ⟨⟨hl,rfl,rfl⟩,trivial,trivial,trivial,trivial,trivial,trivial,trivial⟩
   ·simp only [go_sem,ya,yb,ye]
  ·right
   have:c=n:=by omega
   subst this;simp only [go_sem,ya,Aw,show ¬(c:Int)<c by omega];refine ⟨_,_,rfl,by simp,_,_,rfl,rfl,?_⟩;simp only [go_sem,ya]
   simp
 have outer:∀d st,(∃r:Nat,bA [0,1,5,6] st=⟨[(0,.fn (.y l) [] []),(1,.bi [.int .i64 n]),(5,aa n),(6,aa r)],H r 0,B,B⟩/\r+d=n)->
   ∃ex s',D P L (.loop [0,1,5,6] Ax) st=some (ex,s')/\∃tm ct,s'=⟨tm,H n 0,ct,B⟩/\ex= .exit 0:=by
  refine cg (I:=fun d st=>∃r:Nat,st=⟨[(0,.fn (.y l) [] []),(1,.bi [.int .i64 n]),(5,aa n),(6,aa r)],H r 0,B,B⟩/\r+d=n)
   (Q:=fun ex s'=>∃tm ct,s'=⟨tm,H n 0,ct,B⟩/\ex= .exit 0) ?_
  rintro d st ⟨r,rfl,lF⟩;by_cases bW:r<n
  ·left
   simp only [go_sem,ya,Ax,show (r:Int)<n by omega];generalize hq:D P L (.loop [0,1,3,5,6,9,10] Aw) _=q;obtain ⟨ex,st,rfl,tm,ct,rfl,rfl,g0,g1,g5,g6⟩:=bV hq (inner r bW n) ⟨0,by
    rw [kI]
    ·simp only [go_sem,ya];rfl
    ·simp only [go_sem,ya];exact ⟨⟨hl,rfl,rfl⟩,trivial,trivial,trivial,trivial,trivial,trivial,trivial⟩
    ·simp only [go_sem,ya,yb,ye],by omega⟩
   rw [hw r bW,JJ,gG,K4,kI]
   ·simp only [go_sem,ya,g0,g1,g5,g6,show (r:Int)+1=((r+1:Nat):Int) from rfl,wrapN (n:=r+1) (by omega)];refine ⟨_,d-1,rfl,by omega,r+1,?_,by omega⟩;rw [kI]
    ·simp only [go_sem,ya]
    ·simp only [go_sem,ya];exact ⟨⟨hl,rfl,rfl⟩,trivial,trivial,trivial,trivial⟩
    ·simp only [go_sem,ya,yb,ye]
   ·simp only [go_sem,g0,g1,g5,g6];exact ⟨⟨hl,rfl,rfl⟩,trivial,trivial,trivial,trivial⟩
   ·simp only [go_sem,yb,ye,g0,g1,g5,g6]
  ·right
   have:r=n:=by omega
   subst this;simp only [go_sem,ya,Ax,show ¬(r:Int)<r by omega];exact ⟨_,_,rfl,by simp,_,_,rfl,rfl⟩
 simp only [go_sem,ya,GJ];generalize hq:D P L (.loop [0,1,5,6] Ax) _=q;obtain ⟨ex,st,rfl,tm,ct,rfl,rfl⟩:=bV hq (outer n) ⟨0,by
  rw [kI]
  ·simp only [go_sem,ya];rfl
  ·simp only [go_sem,ya];exact ⟨⟨hl,rfl,rfl⟩,trivial,trivial,trivial,trivial⟩
  ·simp only [go_sem,ya,yb,ye],by omega⟩
 simp only [go_sem];rw [kI]
 ·exact ⟨_,rfl⟩
 ·simp only [go_sem]
  trivial
 ·simp only [go_sem,ye]
structure SmP (P:aI) (L:Lib):Prop extends BuT P L,Sq P L where
 YW:Has P L 41 Xr
 MH:Has P L 97 L8
 oS:Has P L 134 Cv
def s41 (h:SmP P L) {v w:AV} {s k:List (List Int)} (hv:bU v s) (hw:bU w k) {n m:Nat} (hn:s.length=n) (mP:0<n) (gE:n<=16) (hs:dT n (-1000) 1000 s=0) (hm:k.length=m) (Ms:0<m) (rZ:m<=5) (hk:dT m (-100) 100 k=0)
  {c r:Nat} (hc:c<n) (hr:r<n):af P L 41 [aa c,aa r,.bi [w],.bi [v],.bi [aa (m/2:Nat)]] (aa (kW s k c r)):=by
 let TM:Env:=[(13,.fn (.f 133) [] [.bi [.int .i64 m]]),(12,.int .i64 m),(11,w),(8,.ptr 2 0),(7,.int .i64 0),(6,.ptr 1 0),(5,.ptr 0 0),(0,aa c),(1,aa r),(2,.bi [w]),(3,.bi [v]),(4,.bi [aa (m/2:Nat)])]
 let S:Nat->Nat->Int:=fun j i=>bG (fun j=>bG (oO s k c r j) m) j+bG (oO s k c r j) i
 let HH:Nat->Nat->Nat->Hp:=fun st j i=>[(3,.lp TM [14,15] Kv Gt st .none),(2,.cells true true true 1 [aa (S j i)]),(1,.cells true true true 1 [aa r]),(0,.cells true true true 1 [aa c])]
 have hb:∀st j i,jP 4 4 (HH st j i):=fun st j i=>by
  refine ⟨by omega,⟨⟨trivial,trivial,trivial⟩,trivial,mv hw.pu,show 2<4 by omega,trivial,show 1<4 by omega,show 0<4 by omega,trivial,trivial,trivial,trivial,trivial,trivial⟩,by omega,.inl rfl,by omega,.inl rfl,by omega,.inl rfl,trivial⟩
 have Dm:∀st j i,(dC 4 (HH st j i)).length<=5000:=fun st j i=>by
  have:dC 4 (HH st j i)=fo TM:=by
   simp only [HH,dC,gJ (show 3<4 by omega),gJ (show 2<4 by omega),gJ (show 1<4 by omega),gJ (show 0<4 by omega),ym,fA,wg]
  rw [this];simp [TM,fo,refs,eV,az hw.pu]
 have DZ:∀i j,i<m->j<m->jq (D P L) (HH 0 j i) 4 3 [aa i,aa j]=some (.bool true,HH 0 j (i+1),4):=fun i j hi hj=>by
  have ol:j<k.length:=by omega
  obtain ⟨kr,rest,bS,dQ⟩:=hw.aY ol;have hkj:=oE hk j ol;have cu:i<k[j].length:=by omega
  have b1:=ZU hs hk c r j i;have b2:=ZV hs hk c r j i;have b3:=Jf (f:=fun j=>bG (oO s k c r j) m) (b:=500000) (fun j=>by have:=ZV hs hk c r j m;omega) j;have nl:=XM h.MH h.oS hv hn mP (by omega) (fun i hi=>(oE hs i hi).1) ((c:Int)+i-(m/2:Nat)) ((r:Int)+j-(m/2:Nat));have hkt:oO s k c r j i=kv k j i*bQ s ((c:Int)+i-(m/2:Nat)) ((r:Int)+j-(m/2:Nat)):=by unfold oO;rw [hm]
  have hS:S j (i+1)=S j i+oO s k c r j i:=by simp only [S,bG,Int.add_assoc]
  have RA: -9000000<=S j i/\S j i<=9000000:=by simp only [S];omega
  unfold af at nl;have Eb:∃tm,D P L Gt ⟨(10,aa j)::(9,aa i)::(15,aa j)::(14,aa i)::TM,HH 1 j i,4,4⟩=some (.normal,⟨tm,HH 1 j (i+1),4,4⟩):=by
   simp only [HH,hS];generalize S j i=sm at RA;simp only [TM]
   simp only [go_sem,ya,Gt,hv.ah,dQ,bS.aY cu,wrap64 (n:=(c:Int)+i) (by omega) (by omega),wrap64 (n:=(c:Int)+i-(m/2:Nat)) (by omega) (by omega),
    wrap64 (n:=(r:Int)+j) (by omega) (by omega),wrap64 (n:=(r:Int)+j-(m/2:Nat)) (by omega) (by omega),nl,AA ol cu,<-hkt,wrap64 (n:=oO s k c r j i) (by omega) (by omega),
    wrap64 (n:=sm+oO s k c r j i) (by omega) (by omega)]
   exact ⟨_,rfl⟩
  obtain ⟨tm,Eb⟩:=Eb
  exact Tn (tm':=(15,aa j)::(14,aa i)::TM) (show ap (HH 0 j i) 3=some (.lp TM [14,15] Kv Gt 0 .none) from rfl) rfl (s1:=⟨(10,aa j)::(9,aa i)::(15,aa j)::(14,aa i)::TM,HH 0 j i,4,4⟩) (by unfold Kv;simp only [go_sem,ya]) rfl Eb rfl
 have EC:=abG (P:=P) (L:=L) h.toBuT (l:=3) (B:=4) (n:=m) (by omega) (by omega) (H:=HH 0) (fun j hj=>by simp only [HH,S,bG,vz]) (hb 0) (Dm 0) DZ;obtain ⟨tm,EC⟩:=EC;have Lw:=Va (P:=P) (L:=L) (f:= .t 13) (ps:=[14,15]) (as_:=Kv) (body:=Gt)
  (s:=⟨TM,[(2,.cells true true true 1 [aa (S 0 0)]),(1,.cells true true true 1 [aa r]),(0,.cells true true true 1 [aa c])],3,0⟩)
  (n:=133) (first:=[]) (cap:=[.bi [.int .i64 m]]) rfl h.G6.heap (DI h.G6 EC (.inl rfl) rfl) (by rfl) (by decide)
 have hd:dL (HH 0 m 0) 3=[(2,.cells true true true 1 [aa (kW s k c r)]),(1,.cells true true true 1 [aa r]),(0,.cells true true true 1 [aa c])]:=by
  have:S m 0=kW s k c r:=by simp only [S,bG,vz];rw [alI,hm]
  simp only [HH,this];rfl
 have Dj:S 0 0=0:=by simp [S,bG]
 simp only [TM,Dj,hd] at Lw;unfold af;rw [aq h.YW];simp only [go_sem,ya,yb,Xr,hw.len,hm,YV h.toBuT,Lw]
end
end
end VE
