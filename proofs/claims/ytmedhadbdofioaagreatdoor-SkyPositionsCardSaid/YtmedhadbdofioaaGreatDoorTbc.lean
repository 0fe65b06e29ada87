import Derived.Test.YtmedhadbdofioaaGreatDoorTbb
import Derived.Test.YtmedhadbdofioaaGreatDoorTaq
import Derived.Test.YtmedhadbdofioaaGreatDoorTas
set_option linter.all false
set_option maxRecDepth 100000
open Bool renaming and_self→wp
open Int renaming add_zero→ybf,cast_ofNat_Int→pp,emod_nonneg→xM,toNat_natCast→xI
open List renaming append_assoc→xp,append_nil→wc,cons_append→y7,drop→xm,drop_zero→yj,getElem_mem→vM,length_cons→yr,length_nil→yE,map_append→xC,mem_cons→wk,nil_append→wa,not_mem_nil→uy,range→xi,range_succ→td,replicate→yz
open Nat renaming beq→yu,beq_refl→xq,mul_one→yh,reduceAdd→yb,reduceEqDiff→ya,reduceLeDiff→ye,reduceMul→xQ,zero_add→yd
namespace VE
section
open Go (IntKind)
def cV (f g:Rat):List Rat:=[(1-f)*(1-g),f*(1-g),(1-f)*g,f*g]
def IsW (v:AV) (f g:Rat):Prop:=∃cs,v= .agg cs/\QL cs (cV f g)
def IW {f g:Rat} {K:Nat} (kf:Hq K f) (kg:Hq K g):∀x,x∈cV f g->Hq (2*K+6) x:=by
 intro x hx;have ku:=lm.sub kf;have kv:=lm.sub kg;simp only [cV,wk,uy,yaW] at hx;rcases hx with rfl | rfl | rfl | rfl
 ·exact (ku.mul kv).mono (by omega)
 ·exact (kf.mul kv).mono (by omega)
 ·exact (ku.mul kg).mono (by omega)
 ·exact (kf.mul kg).mono (by omega)
section
variable {tm:Env} {a b c d:AV} {r:List (Nat×Nat×X)} {x0 x1 x2 x3 x4 x5 x6 x7 x8 x9 xa xb xc xd xe xf:AV}
def aok (h1:bm a=true) (h2:bm b=true) (h3:bm c=true) (h4:bm d=true):gB tm [x0,x1,x2,x3,x4,x5,x6,x7,x8,x9,xa,xb,xc,xd,xe,xf] 0 4 [a,b,c,d] r=fill tm [a,b,c,d,x4,x5,x6,x7,x8,x9,xa,xb,xc,xd,xe,xf] r:=by
 rw [j9 (by rfl) (by simp) (by simp [bK,h1,h2,h3,h4])];rfl
def aol (h1:bm a=true) (h2:bm b=true) (h3:bm c=true) (h4:bm d=true):gB tm [x0,x1,x2,x3,x4,x5,x6,x7,x8,x9,xa,xb,xc,xd,xe,xf] 4 4 [a,b,c,d] r=fill tm [x0,x1,x2,x3,a,b,c,d,x8,x9,xa,xb,xc,xd,xe,xf] r:=by
 rw [j9 (by rfl) (by simp) (by simp [bK,h1,h2,h3,h4])];rfl
def aom (h1:bm a=true) (h2:bm b=true) (h3:bm c=true) (h4:bm d=true):gB tm [x0,x1,x2,x3,x4,x5,x6,x7,x8,x9,xa,xb,xc,xd,xe,xf] 8 4 [a,b,c,d] r=fill tm [x0,x1,x2,x3,x4,x5,x6,x7,a,b,c,d,xc,xd,xe,xf] r:=by
 rw [j9 (by rfl) (by simp) (by simp [bK,h1,h2,h3,h4])];rfl
def aon (h1:bm a=true) (h2:bm b=true) (h3:bm c=true) (h4:bm d=true):gB tm [x0,x1,x2,x3,x4,x5,x6,x7,x8,x9,xa,xb,xc,xd,xe,xf] 12 4 [a,b,c,d] r=fill tm [x0,x1,x2,x3,x4,x5,x6,x7,x8,x9,xa,xb,a,b,c,d] r:=by
 rw [j9 (by rfl) (by simp) (by simp [bK,h1,h2,h3,h4])];rfl
end
def ata {cs:List AV} (hl:cs.length=16) (ho:bK cs=true) (ao:aH cs=true) (hp:Hp) (ct id:Nat) (x0 x1 x2 x3 x4 x5 x6 x7 x8 x9 xa xb xc xd xe xf:AV):eM hp ct id 0 16 cs (some (.cells true true true 16 [x0,x1,x2,x3,x4,x5,x6,x7,x8,x9,xa,xb,xc,xd,xe,xf]))=some (.ap [],aW hp id (.cells true true true 16 cs),ct):=by
 rw [jb hl (by simp) ho,ao]
 match cs,hl with
 | [_,_,_,_,_,_,_,_,_,_,_,_,_,_,_,_],_=>rfl
def ab2:∀{l:List Rat} {cs:List AV},QL cs l->∀(n:Nat) (hp:Hp),cO (n+l.length*4+2) hp cs=some (cs,hp)
 | [],_,h,n,hp=>by rw [h.Kh];rfl
 | x::l,cs,h,n,hp=>by
  obtain ⟨a,b,c,d,r,rfl,h1,h2⟩:=h.inv;have g:=h1.f4;have e:=ab2 h2 n hp;rw [show n+(x::l).length*4+2=n+l.length*4+2+1+1+1+1 by simp only [yr];omega];simp only [go_sem,g.z1,g.z2,g.z3,g.z4,e]
def QL.ah {l:List Rat} {cs:List AV} (h:QL cs l) {n:Nat} (hn:l.length*4+3<=n) (hp:Hp):freeze n hp (.agg cs)=some (.agg cs,hp):=by
 obtain ⟨m,rfl⟩:∃m,n=m+l.length*4+3:=⟨n-(l.length*4+3),by omega⟩;exact aZ _ _ (ab2 h m hp)
def QL.dT {l:List Rat} {cs:List AV} (h:QL cs l) (hl:l.length<=200) (hp:Hp):result hp (.agg cs)=some (.agg cs):=by
 show (match freeze 1000 hp (.agg cs) with | some (v',_)=>some v' | none=>none)=_
 rw [h.ah (by omega)]
def Bo.gen {v:AV} {i j:Int} {f g:Rat} (h:Bo v i j f g):∃c1 c2 c3 c4 d1 d2 d3 d4,v= .agg [aa i,aa j,c1,c2,c3,c4,d1,d2,d3,d4]/\cE (.agg [c1,c2,c3,c4]) f/\cE (.agg [d1,d2,d3,d4]) g/\(∀ct:Nat,By ct 10 [aa i,aa j,c1,c2,c3,c4,d1,d2,d3,d4]=some (.ptr ct 0,.cells true true true 10 [aa i,aa j,c1,c2,c3,c4,d1,d2,d3,d4]))/\∀(n:Nat) (hp:Hp),freeze (n+20) hp (.agg [aa i,aa j,c1,c2,c3,c4,d1,d2,d3,d4])=some (.agg [aa i,aa j,c1,c2,c3,c4,d1,d2,d3,d4],hp):=by
 obtain ⟨c1,c2,c3,c4,d1,d2,d3,d4,rfl,hf,hg⟩:=h;have gf:=hf.f4;have gg:=hg.f4;obtain ⟨Lm,Ln,Lo,Lq⟩:=gf.Hh;obtain ⟨Lr,Ls,Lt,Lu⟩:=gg.Hh;refine ⟨c1,c2,c3,c4,d1,d2,d3,d4,rfl,hf,hg,fun ct=>?_,fun n hp=>aZ _ _ (by simp only [go_sem,gf.z1,gf.z2,gf.z3,gf.z4,gg.z1,gg.z2,gg.z3,gg.z4])⟩;rw [aB (by rfl) (by simp [bK,Ep,gf.o1,gf.o2,gf.o3,gf.o4,gg.o1,gg.o2,gg.o3,gg.o4])];simp [aH,CM,Lm,Ln,Lo,Lq,Lr,Ls,Lt,Lu]
def IX (a b c d e f g h i j:AV):dO 10 true [a,b,c,d,e,f,g,h,i,j]=some (.agg [a,b,c,d,e,f,g,h,i,j]):=rfl
def aoo (a b c d e f g h i j:AV):xm 2 [a,b,c,d,e,f,g,h,i,j]=[c,d,e,f,g,h,i,j]:=rfl
def aop (a b c d e f g h i j:AV):xm 6 [a,b,c,d,e,f,g,h,i,j]=[g,h,i,j]:=rfl
def aoq (a b c d e f g h i j:AV):xm 1 [a,b,c,d,e,f,g,h,i,j]=[b,c,d,e,f,g,h,i,j]:=rfl
structure Vl (P:aG) (L:Lib):Prop extends Fr' P L where
 He:Has P L 55 PF
 W6:Has P L 56 V5
 Dm:Has P L 103 Jp
 O6:Has P L 104 N1
 O7:Has P L 105 N2
 Vb:Has P L 106 N3
 rO:Has P L 134 C5
 z6:Has P L 150 Fi
section
variable {P:aG} {L:Lib}
def agJ (h:Fr' P L) (O6:Has P L 104 N1) {v:AV} {i j:Int} {f g:Rat} {K:Nat} (hv:Bo v i j f g) (kf:Hq K f) (kg:Hq K g) (hK:K<=1000000000):∃r,ae P L 104 [v] r/\IsW r f g:=by
 obtain ⟨c1,c2,c3,c4,d1,d2,d3,d4,rfl,hf,hg,bx,_⟩:=hv.gen;have k1:Hq (K+4) (1:Rat):=lm.mono (by omega);have Xy:Hq (K+4) f:=kf.mono (by omega);have Xz:Hq (K+4) g:=kg.mono (by omega);have ku:Hq (K+4) (1-f):=(lm.sub kf).mono (by omega);have kv:Hq (K+4) (1-g):=(lm.sub kg).mono (by omega);obtain ⟨o,e1,ho⟩:=DL h (z:=1) (by omega) (by omega);have lA:cE o 1:=ho;obtain ⟨u,e2,hu⟩:=Lc h lA hf k1 Xy (by omega);obtain ⟨w,e3,hw⟩:=Lc h lA hg k1 Xz (by omega);obtain ⟨r1,e4,q1⟩:=sK h hu hw ku kv (by omega);obtain ⟨r2,e5,q2⟩:=sK h hf hw Xy kv (by omega);obtain ⟨r3,e6,q3⟩:=sK h hu hg ku Xz (by omega);obtain ⟨r4,e7,q4⟩:=sK h hf hg Xy Xz (by omega);have gf:=hf.f4;have gg:=hg.f4;obtain ⟨o1,o2,o3,o4,rfl,go⟩:=ho.gen;obtain ⟨u1,u2,u3,u4,rfl,gu⟩:=hu.gen;obtain ⟨w1,w2,w3,w4,rfl,gw⟩:=hw.gen;obtain ⟨x1,x2,x3,x4,rfl,gx⟩:=q1.gen;obtain ⟨y1,y2,y3,y4,rfl,gy⟩:=q2.gen
 obtain ⟨z1,z2,z3,z4,rfl,gz⟩:=q3.gen;obtain ⟨t1,t2,t3,t4,rfl,gt⟩:=q4.gen;have hq:QL [x1,x2,x3,x4,y1,y2,y3,y4,z1,z2,z3,z4,t1,t2,t3,t4] (cV f g):=⟨q1,q2,q3,q4,trivial⟩;have aX:=ata (by rfl) hq.one hq.pu;refine ⟨_,?_,_,rfl,hq⟩;unfold ae at e1 e2 e3 e4 e5 e6 e7 ⊢;rw [av O6];simp only [go_sem,ya,yb,N1,bx,aB,aV,yd,aoo,aop,kA,e1,e2,e3,e4,e5,e6,e7,bl,go.st,gu.st,gw.st,go.ah,gu.ah,gw.ah,gf.ah,gg.ah,gx.o1,gx.o2,gx.o3,gx.o4,gy.o1,gy.o2,gy.o3,gy.o4,gz.o1,gz.o2,gz.o3,gz.o4,gt.o1,gt.o2,gt.o3,gt.o4,aok,aol,aom,aon,aX,dc,dd,yj];exact hq.dT (by simp [cV]) _
def agK (O7:Has P L 105 N2) (rO:Has P L 134 C5) {v:AV} {i j:Int} {f g:Rat} {k:Int} {n:Int} (hv:Bo v i j f g) (hi:0<=i/\i<n) (hj:0<=j/\j<n) (hk:0<=k/\k<4) (hn:0<n) (kF:n<=1000000):ae P L 105 [v,aa k,aa n] (.ap [aa ((i+k%2)%n),aa ((j+k/2)%n)]):=by
 obtain ⟨c1,c2,c3,c4,d1,d2,d3,d4,rfl,hf,hg,bx,_⟩:=hv.gen;have e1:=OG rO (n:=i+k%2) hn kF;have e2:=OG rO (n:=j+k/2) hn kF;have r1:k.tmod 2=k%2:=Int.tmod_eq_emod_of_nonneg hk.1;have r2:k.tdiv 2=k/2:=Int.tdiv_eq_ediv_of_nonneg hk.1;unfold ae at e1 e2 ⊢;rw [av O7]
 simp only [go_sem,ya,N2,bx,aV,yd,aoq,yj,er _ _ _ (show (2:Int)≠0 by decide),eU _ _ _ (show (2:Int)≠0 by decide),r1,r2,wrap64 (n:=k/2) (by omega) (by omega),wrap64 (n:=i+k%2) (by omega) (by omega),wrap64 (n:=j+k/2) (by omega) (by omega),e1,e2];rfl
def axe (h:Fr' P L) (Vb:Has P L 106 N3) {v w:AV} {s:Rat} {l:List Rat} {K M:Nat} (hv:cE v s) (hw:jz w l) (ks:Hq M s) (kl:∀x,x∈l->Hq K x) (hl:l.length<=1000000) (hK:M+l.length*(K+1)+K<=1000000000):∃r,ae P L 106 [v,w,.fn (.f 74) [] []] r/\cE r (mL s l):=by
 have key:=cg (P:=P) (L:=L) (live:=[2,3,6,9,10,11]) (a:=Iz)
  (I:=fun k st=>∃i:Nat,i+k=l.length/\∃c1 c2 c3 c4,cE (.agg [c1,c2,c3,c4]) (mL s (l.take i))/\st=⟨[(2,.fn (.f 74) [] []),(3,.ptr 0 0),(6,.ptr 1 0),(9,w),(10,aa l.length),(11,aa i)],[(1,.cells true true true 4 [.int .i64 0,.ab,.int .i64 0,.ab]),(0,.cells true true true 4 [c1,c2,c3,c4])],2,0⟩)
  (Q:=fun ex st=>∃tm hp ct c1 c2 c3 c4,cE (.agg [c1,c2,c3,c4]) (mL s l)/\st=⟨tm,hp,ct,0⟩/\ex= .exit 0/\af tm 3= .ptr 0 0/\af tm 6= .ptr 1 0/\ak hp 0=some (.cells true true true 4 [c1,c2,c3,c4])/\ak hp 1=some (.cells true true true 4 [.int .i64 0,.ab,.int .i64 0,.ab])) ?_
 ·have eL:=hv;obtain ⟨v1,v2,v3,v4,rfl,gv⟩:=hv.gen;unfold ae;rw [av Vb];simp only [go_sem,ya,yb,N3,gv.bx,aB,hw.len];generalize hq:D P L (.loop [2,3,6,9,10,11] Iz) _=q;obtain ⟨ex,st,rfl,tm,hp,ct,c1,c2,c3,c4,h1,rfl,rfl,t3,t6,g0,g1⟩:=bP hq (key l.length) ⟨0,by omega,v1,v2,v3,v4,by simpa [mL] using eL,by simp only [go_sem,ya,yb,ay,aJ hw.pu,aO _ hw.pu]<;>rfl⟩
  have g:=h1.f4;refine ⟨_,?_,h1⟩;simp only [go_sem,ya,yb,ay,t3,t6,g0,g1,kA,g.st,dc,dd,yj];exact g.dT _
 ·rintro k st ⟨i,hk,c1,c2,c3,c4,hs,rfl⟩;by_cases hi:i<l.length
  ·left
   obtain ⟨a,b,c,d,r,e1,hx⟩:=hw.bk hi;obtain ⟨y,e2,hy⟩:=Qc h hs hx (K:=M+l.length*(K+1)+K) ((ab1 ks kl i).mono (by omega)) ((kl _ (vM hi)).mono (by omega)) (by omega);rw [<-ZW hi] at hy;have sL:=hy;obtain ⟨y1,y2,y3,y4,rfl,gy⟩:=hy.gen;have gs:=hs.f4;have gx:=hx.f4;simp only [go_sem,ya,yb,Iz,show (i:Int)<l.length by omega,e1,aw7,kA,aB,gx.st,e2,gs.ah,gx.ah,gy.st,bl,yj];refine ⟨_,k-1,rfl,by omega,i+1,by omega,y1,y2,y3,y4,sL,?_⟩;rw [wrap64 (by omega) (by omega)];simp only [go_sem,ya,yb,ay,aJ hw.pu,aO _ hw.pu]<;>rfl
  ·right
   simp only [go_sem,ya,Iz,show ¬(i:Int)<l.length by omega];rw [List.take_of_length_le (by omega)] at hs;exact ⟨_,_,rfl,by simp,_,_,_,c1,c2,c3,c4,hs,rfl,rfl,by simp only [go_sem,ya],by simp only [go_sem,ya],by simp only [go_sem,ya],by simp only [go_sem]⟩
def mC (s:List (List Int)) (i j:Int) (k:Int):Rat:=((iz s (i+k%2) (j+k/2):Int):Rat)
def iO (s:List (List Int)) (i j:Int) (f g:Rat):List Rat:=[(1-f)*(1-g)*mC s i j 0,f*(1-g)*mC s i j 1,(1-f)*g*mC s i j 2,f*g*mC s i j 3]
def O8 (s:List (List Int)) (i j:Int) (f g:Rat):Rat:=mL 0 (iO s i j f g)
def aa3 (s:List (List Int)) (i j:Int) (f g:Rat):∀(k:Nat) (hk:k<4),(iO s i j f g)[k]'hk=(cV f g)[k]'hk*mC s i j (k:Int)
 | 0,_=>rfl
 | 1,_=>rfl
 | 2,_=>rfl
 | 3,_=>rfl
 | k+4,hk=>absurd hk (by omega)
structure Cc (v:AV) (s:List (List Int)) (n:Nat):Prop where
 is:cF v s
 len:s.length=n
 pos:0<n
 le:n<=16
 row:∀i (hi:i<s.length),s[i].length=n
 sq:fB n (-1000) 1000 s=0
def Cc.cell {v:AV} {s:List (List Int)} {n:Nat} (h:Cc v s n) (c r:Int):∃q rest NE,jx 1 (r%n).toNat v=some (.aI (q::rest))/\jx 1 (c%n).toNat q=some (.aI (aa (iz s c r)::NE)):=by
 obtain ⟨h1,h2,h3⟩:=aaF h.len h.pos h.row c r;obtain ⟨q,rest,eN,lF⟩:=h.is.bk h1;exact ⟨q,rest,_,lF,by rw [h3];exact eN.bk h2⟩
def Cc.cP {v:AV} {s:List (List Int)} {n:Nat} (h:Cc v s n) (c r:Int): -1000<=iz s c r/\iz s c r<=1000:=QH h.sq (by decide) c r
def Cy {s:List (List Int)} {i j k:Int} (h:∀c r,-1000<=iz s c r/\iz s c r<=1000):Hq 64 (mC s i j k):=by
 have:=h (i+k%2) (j+k/2)
 unfold mC;exact ⟨by rw [Rat.num_intCast];unfold Bd;omega,by rw [Rat.den_intCast];exact Nat.one_lt_two_pow (by omega)⟩
def Sy {s:List (List Int)} {i j:Int} {f g:Rat} {K:Nat} (h:∀c r,-1000<=iz s c r/\iz s c r<=1000) (kf:Hq K f) (kg:Hq K g):∀x,x∈iO s i j f g->Hq (2*K+70) x:=by
 intro x hx;have hw:=IW kf kg;simp only [iO,wk,uy,yaW] at hx;rcases hx with rfl | rfl | rfl | rfl
 ·exact ((hw _ (by simp [cV])).mul (Cy h)).mono (by omega)
 ·exact ((hw _ (by simp [cV])).mul (Cy h)).mono (by omega)
 ·exact ((hw _ (by simp [cV])).mul (Cy h)).mono (by omega)
 ·exact ((hw _ (by simp [cV])).mul (Cy h)).mono (by omega)
def QL.qJ {cs:List AV} {l:List Rat} (h:QL cs l) {k n:Nat} (hl:l.length=n) (hk:k<n):∃a b c d,I3 n 4 true k (.agg cs)=some (.agg [a,b,c,d])/\cE (.agg [a,b,c,d]) (l[k]'(by omega)):=by
 obtain ⟨a,b,c,d,r,e,hq⟩:=h.get (i:=k) (by omega);refine ⟨a,b,c,d,?_,hq⟩;show (bif Nat.blt k n then dO 4 true (cs.drop (k*4)) else none)=_
 rw [jM hk,e];rfl
def m56 (h:Vl P L) {v w:AV} {s:List (List Int)} {n:Nat} {i j:Int} {f g:Rat} {K:Nat} (hv:Bo v i j f g) (hw:Cc w s n) (hi:0<=i/\i<n) (hj:0<=j/\j<n) (kf:Hq K f) (kg:Hq K g) (hK:K<=10000000):
  ∃r,ae P L 56 [v,w] r/\cE r (O8 s i j f g):=by
 obtain ⟨W,eW,hW⟩:=agJ h.toFr' h.O6 hv kf kg (by omega);obtain ⟨c1,c2,c3,c4,d1,d2,d3,d4,rfl,hf,hg,bx,fz⟩:=hv.gen;obtain ⟨cs,rfl,jj⟩:=hW;have hS:=hw.is;have hn:=hw.len;have n0:=hw.pos;have n1:=hw.le;have kp:=Sy (i:=i) (j:=j) hw.cP kf kg;have kw:=IW kf kg;have pW:aR (.agg cs)=true:=by simp only [aR,jj.pu]
 have key:=cg (P:=P) (L:=L) (live:=[1,2,4,5,11,12]) (a:=E1)
  (I:=fun k st=>∃m:Nat,m+k=4/\((m=0/\st=⟨[(1,w),(2,.ptr 0 0),(4,.ptr 1 0),(5,.ab),(11,.agg cs),(12,aa m)],[(1,.cells true true true 4 [.int .i64 0,.ab,.int .i64 0,.ab]),(0,.cells true true true 10 [aa i,aa j,c1,c2,c3,c4,d1,d2,d3,d4])],2,0⟩)\/
   (0<m/\∃ps,QL ps ((iO s i j f g).take m)/\st=⟨[(1,w),(2,.ptr 0 0),(4,.ptr 1 0),(5,.an 2 0 m),(11,.agg cs),(12,aa m)],[(2,.cells true true false 4 ps),(1,.cells true true true 4 [.int .i64 0,.ab,.int .i64 0,.ab]),(0,.cells true true true 10 [aa i,aa j,c1,c2,c3,c4,d1,d2,d3,d4])],3,0⟩)))
  (Q:=fun ex st=>∃tm hp ct ps,QL ps (iO s i j f g)/\st=⟨tm,hp,ct,0⟩/\ex= .exit 0/\af tm 4= .ptr 1 0/\af tm 5= .an 2 0 4/\ak hp 1=some (.cells true true true 4 [.int .i64 0,.ab,.int .i64 0,.ab])/\ak hp 2=some (.cells true true false 4 ps)) ?_
 ·unfold ae at eW ⊢;rw [av h.W6];simp only [go_sem,ya,yb,V5,bx,aB,IX,fz,eW,bl,yj];generalize hq:D P L (.loop [1,2,4,5,11,12] E1) _=q;obtain ⟨ex,st,rfl,tm,hp,ct,ps,fD,rfl,rfl,t4,t5,g1,g2⟩:=bP hq (key 4) ⟨0,by omega,.inl ⟨rfl,by simp only [go_sem,ya,yb,ay,aJ hS.pu,aO _ hS.pu,aJ pW,aO _ pW]<;>rfl⟩⟩
  have hl4:ps.length=4*4:=by rw [fD.len];rfl
  obtain ⟨z,e1,hz⟩:=DL h.toFr' (z:=0) (by omega) (by omega);have fQ:cE z 0:=hz;have iS:=hz;obtain ⟨z1,z2,z3,z4,rfl,gz⟩:=hz.gen;obtain ⟨r,e2,hr⟩:=axe h.toFr' h.Vb (K:=2*K+70) (M:=2) fQ (w:= .aE false 4 ps) (aoa false fD) Kc kp (by simp [iO]) (by simp only [iO,yr,yE];omega);have bX:=hr;obtain ⟨r1,r2,r3,r4,rfl,gr⟩:=hr.gen;refine ⟨_,?_,bX⟩;unfold ae at e1 e2;simp only [go_sem,ya,yb,ay,t4,t5,g1,g2,e1,gz.ah,nC false hl4 (show 0<4 by decide),e2,bl,gr.st,dc,dd,yj];exact gr.dT _
 ·rintro k st ⟨m,hk,aX⟩;by_cases hm:m<4
  ·left
   obtain ⟨a,b,c,d,e1,hx⟩:=jj.qJ (n:=4) rfl hm;have e2:=agK h.O7 h.rO hv (k:=(m:Int)) (n:=n) hi hj (by omega) (by omega) (by omega);obtain ⟨q,rest,NE,e3,e4⟩:=hw.cell (i+(m:Int)%2) (j+(m:Int)/2);have hb:=hw.cP (i+(m:Int)%2) (j+(m:Int)/2);obtain ⟨z,e5,hz⟩:=DL h.toFr' (z:=iz s (i+(m:Int)%2) (j+(m:Int)/2)) (by omega) (by omega);obtain ⟨y,e6,hy⟩:=sK h.toFr' hx hz (K:=2*K+70) ((kw _ (vM _)).mono (by omega)) ((Cy (i:=i) (j:=j) (k:=(m:Int)) hw.cP).mono (by omega)) (by omega);have a1:=xM (i+(m:Int)%2) (show (n:Int)≠0 by omega);have a2:=xM (j+(m:Int)/2) (show (n:Int)≠0 by omega);have sL:=hy;obtain ⟨y1,y2,y3,y4,rfl,gy⟩:=hy.gen;obtain ⟨z1,z2,z3,z4,rfl,gz⟩:=hz.gen;have gx:=hx.f4;have bz:∀q,gB q [AV.int .i64 0,.ab,.int .i64 0,.ab] 0 4 [y1,y2,y3,y4] []=fill q [y1,y2,y3,y4] []:=fun q=>as8 gy.o1 gy.o2 gy.o3 gy.o4
   have hpg:(iO s i j f g)[m]'(by simp [iO];omega)=(cV f g)[m]'hm*mC s i j (m:Int):=aa3 _ _ _ _ _ m hm;have eF:(iO s i j f g).take (m+1)=(iO s i j f g).take m++[(cV f g)[m]'hm*mC s i j (m:Int)]:=by rw [List.take_succ_eq_append_getElem (by simp [iO];omega),hpg]
   unfold mC at eF;unfold ae at e2 e5 e6;obtain ⟨XA,XB,XC,XD⟩:=gy.Hh;have pY:aH [y1,y2,y3,y4]=true:=by simp only [aH,XA,XB,XC,XD,wp]
   rcases aX with ⟨h0,rfl⟩ | ⟨h0,ps,fD,rfl⟩
   ·subst h0;simp only [go_sem,ya,yb,xQ,Nat.reduceLT,ye,E1,show ((0:Nat):Int)<4 by omega,yq,jY (show (0:Int)<=((0:Nat):Int) by omega),xI,e1,aB,gx.st,IX,kA,fz,hn,hS.len,e2,Cq,jY a1,jY a2,e3,e4,e5,gx.ah,gz.ah,e6,bz,XA,XB,XC,XD,wp,afo,bl,yj,kL];refine ⟨_,k-1,rfl,by omega,1,by omega,.inr ⟨by omega,[y1,y2,y3,y4],?_,?_⟩⟩
    ·rw [eF];exact ⟨sL,trivial⟩
    ·rw [wrap64 (by omega) (by omega)];simp only [go_sem,ya,yb,ay,aJ hS.pu,aO _ hS.pu,aJ pW,aO _ pW]<;>rfl
   ·simp only [go_sem,ya,yb,xQ,E1,show (m:Int)<4 by omega,yq,jY (show (0:Int)<=m by omega),xI,e1,aB,gx.st,IX,kA,fz,hn,hS.len,e2,Cq,jY a1,jY a2,e3,e4,e5,gx.ah,gz.ah,e6,bz,XA,XB,XC,XD,wp,afo,bl,yj]
    rw [ki (ex:=false) (pu:=true) (cs:=ps) (by simp only [go_sem,ya]) (by rw [fD.len,List.length_take,Nat.min_eq_left (by simp [iO];omega)]) (by omega) (by omega) (by decide) (by simp only [go_sem,gy.o1,gy.o2,gy.o3,gy.o4])];simp only [go_sem,ya,yb,pY];refine ⟨_,k-1,rfl,by omega,m+1,by omega,.inr ⟨by omega,ps++[y1,y2,y3,y4],?_,?_⟩⟩
    ·rw [eF];exact fD.snoc sL
    ·rw [wrap64 (by omega) (by omega)];simp only [go_sem,ya,yb,ay,aJ hS.pu,aO _ hS.pu,aJ pW,aO _ pW]<;>rfl
  ·right
   have h4:m=4:=by omega
   subst h4;rcases aX with ⟨h0,rfl⟩ | ⟨h0,ps,fD,rfl⟩
   ·exact absurd h0 (by decide)
   ·simp only [go_sem,ya,E1,show ¬((4:Nat):Int)<4 by decide,yo];exact ⟨_,_,rfl,by simp,_,_,_,ps,fD,rfl,rfl,by simp only [go_sem,ya],by simp only [go_sem,ya]<;>rfl,by simp only [go_sem,ya],by simp only [go_sem]⟩
end
end
section
open Go (IntKind)
section
variable {P:aG} {L:Lib}
def Tw (tm:Env) (hp:Hp) (rs:List (Nat×Bool×Nat)) (q:gD):gD:=match q with | some (v,ao,bg)=>bif qg tm hp ao rs then some (v,ao,bg) else none | none=>none
def aor {f:cK} {tm:Env} {hp:Hp} {ct:Nat} (rs:List (Nat×Bool×Nat)) (g:X) (xs:List X):bw P L f tm hp ct (.iy rs g xs)=Tw tm hp rs (dF P L f hp ct .dyn (aA tm g) (dG tm xs)):=rfl
def aqA {tm:Env} {hp ao:Hp} {rs:List (Nat×Bool×Nat)} {v:AV} {bg:Nat} (h:qg tm hp ao rs=true):Tw tm hp rs (some (v,ao,bg))=some (v,ao,bg):=by
 simp only [Tw,h,ym]
section
variable {b n R st:Nat} {fnv:AV} {H:Hp} {rs:List (List AV)}
def alU:ak (bG (b+5) rs++cD b n R fnv st H) b=some (.cells true true true 1 [.int .i64 n]):=by
 rw [qY (by omega)];simp only [cD,ak,cG (show b+4≠b by omega),cG (show b+3≠b by omega),cG (show b+2≠b by omega),cG (show b+1≠b by omega),xq,yA,ym]
def alV:ak (bG (b+5) rs++cD b n R fnv st H) (b+1)=some (.cells true (aR fnv) true 1 [fnv]):=by
 rw [qY (by omega)];simp only [cD,ak,cG (show b+4≠b+1 by omega),cG (show b+3≠b+1 by omega),cG (show b+2≠b+1 by omega),xq,yA,ym]
def RB:ak (bG (b+5) rs++cD b n R fnv st H) (b+2)=some (.cells true (yu R 0) true 1 (fX (b+5) n R)):=by
 rw [qY (by omega)];simp only [cD,ak,cG (show b+4≠b+2 by omega),cG (show b+3≠b+2 by omega),xq,yA,ym]
def RC:ak (bG (b+5) rs++cD b n R fnv st H) (b+3)=some (.cells true false true 1 [.an (b+2) 0 n]):=by
 rw [qY (by omega)];simp only [cD,ak,cG (show b+4≠b+3 by omega),xq,yA,ym]
def Mb:ak (bG (b+5) rs++cD b n R fnv st H) (b+4)=some (.lp (gY b n fnv) [12,13] zu qt st .none):=by
 rw [qY (by omega)];simp only [cD,ak,xq,ym]
def ZY {st':Nat}:aW (bG (b+5) rs++cD b n R fnv st H) (b+4) (.lp (gY b n fnv) [12,13] zu qt st' .none)=bG (b+5) rs++cD b n R fnv st' H:=by
 rw [Qx (by omega)];simp only [cD,aW,xq,ym]
def alW:aW (bG (b+5) rs++cD b n R fnv st H) (b+2) (.cells true false true 1 (fX (b+5) n (R+1)))=bG (b+5) rs++cD b n (R+1) fnv st H:=by
 rw [Qx (by omega)];simp only [cD,aW,cG (show b+4≠b+2 by omega),cG (show b+3≠b+2 by omega),xq,yA,ym,cG (Nat.succ_ne_zero R)]
def aos {cs:List AV} {old:Hp} {ct:Nat} (h:ct=b+5+rs.length):(ct,Obj.cells true true true 1 cs)::(bG (b+5) rs++old)=bG (b+5) (cs::rs)++old:=by
 subst h;rfl
def aot {cs:List AV} {old:Hp} {x:Nat} (h:x=b+5+rs.length):ak (bG (b+5) (cs::rs)++old) x=some (.cells true true true 1 cs):=by
 subst h;simp only [bG,y7,H4]
def aou {cs dN:List AV} {old:Hp} {x:Nat} (h:x=b+5+rs.length):aW (bG (b+5) (cs::rs)++old) x (.cells true true true 1 dN)=bG (b+5) (dN::rs)++old:=by
 subst h;simp only [bG,y7,aaC]
end
def ZZ {B n r:Nat}:(fX B n (r+1)).drop r= .an (B+r) 0 n::yz (n-(r+1)) .ab:=by
 unfold fX;rw [td,xC,xp,List.drop_left' (by simp)];rfl
def Y7 {b n r c:Nat} (hr:r<n) (hc:c<n) {fnv v:AV} {H H':Hp} {cur:List AV} {prev:List (List AV)} (hp:prev.length=r) (aA8:cur.length=n) (eG:bm v=true) (cX:aR v=true) {tm:Env} {ct base:Nat}
  (h3:af tm 3= .ptr (b+1) 0) (h5:af tm 5= .ptr (b+3) 0) (h6:af tm 6=aa c) (h7:af tm 7=aa r)
  (iR:dF P L (D P L) (bG (b+5) (cur::prev)++cD b n (r+1) fnv 1 H) ct .dyn fnv [aa c,aa r]=some (v,bG (b+5) (cur::prev)++cD b n (r+1) fnv 1 H',ct)):
  ∃tm',D P L (.aP [⟨some 21,none,.ld 1 false (.t 5)⟩,⟨some 22,none,.bQ (.t 7)⟩,⟨some 23,none,.bk 1 (.t 21) (.t 22)⟩,⟨some 24,none,.ld 1 false (.t 23)⟩,⟨some 25,none,.bQ (.t 6)⟩,⟨some 26,none,.ld 1 false (.t 3)⟩,
   ⟨some 27,none,.bQ (.t 6)⟩,⟨some 28,none,.bQ (.t 7)⟩,⟨some 29,none,.iy [(1,false,5),(1,false,23)] (.t 26) [(.t 27),(.t 28)]⟩,⟨some 30,none,.bk 1 (.t 24) (.t 25)⟩,⟨none,none,.st 1 (.t 30) (.t 29)⟩])
   ⟨tm,bG (b+5) (cur::prev)++cD b n (r+1) fnv 1 H,ct,base⟩=some (.normal,⟨tm',bG (b+5) (over c [v] cur::prev)++cD b n (r+1) fnv 1 H',ct,base⟩):=by
 have hl:∀H,ak (bG (b+5) (cur::prev)++cD b n (r+1) fnv 1 H) (b+5+r)=some (.cells true true true 1 cur):=fun H=>aot (by omega)
 have hs:∀H X,aW (bG (b+5) (cur::prev)++cD b n (r+1) fnv 1 H) (b+5+r) (.cells true true true 1 X)=bG (b+5) (X::prev)++cD b n (r+1) fnv 1 H:=fun H X=>aou (by omega)
 have Ni:cellsOf v=[v]:=by cases v<;>simp_all [cellsOf,bm]
 have aX:∀H,eM (bG (b+5) (cur::prev)++cD b n (r+1) fnv 1 H) ct (b+5+r) c 1 [v] (some (.cells true true true 1 cur))=some (.ap [],aW (bG (b+5) (cur::prev)++cD b n (r+1) fnv 1 H) (b+5+r) (.cells true true true 1 (over c [v] cur)),ct):=fun H=>by
  rw [jb (sz:=1) (by rfl) (by omega) (by simp [bK,eG])];simp [aH,cX]
 simp only [go_sem,ya,yh,h3,h5,h6,h7,RC,RB,alV,dj _ _ hr,yd,ZZ,aor,iR];rw [aqA]
 ·simp only [go_sem,ya,yh,dj _ _ hc,yd,Ni,hl,aX,hs];exact ⟨_,rfl⟩
 ·simp only [qg];simp only [go_sem,ya,h5,RC,RB,ZZ,NR,xq]
def ai8 {b n r c:Nat} (hr:r<n) (hc:c<n) (gV:n<=1000) {fnv:AV} (hf:bm fnv=true) {val:Nat->Nat->AV} (eG:bm (val c r)=true) (cX:aR (val c r)=true) {H H':Hp} {prev rs:List (List AV)} (hp:prev.length=r)
  (Hf:rs=if c=0 then prev else lk (.int .i64 0) val n r c::prev)
  (iR:∀cur,dF P L (D P L) (bG (b+5) (cur::prev)++cD b n (r+1) fnv 1 H) (b+5+(r+1)) .dyn fnv [aa c,aa r]=some (val c r,bG (b+5) (cur::prev)++cD b n (r+1) fnv 1 H',b+5+(r+1))):
  jt (D P L) (bG (b+5) rs++cD b n rs.length fnv 0 H) (b+5+rs.length) (b+4) [aa c,aa r]=
   some (.bool true,bG (b+5) (lk (.int .i64 0) val n r (c+1)::prev)++cD b n (r+1) fnv 0 H',b+5+(r+1)):=by
 have Ni:cellsOf fnv=[fnv]:=by cases fnv<;>simp_all [cellsOf,bm]
 have hb:∃tm',D P L qt ⟨(7,aa r)::(6,aa c)::(13,aa r)::(12,aa c)::gY b n fnv,bG (b+5) rs++cD b n rs.length fnv 1 H,b+5+rs.length,b+5+rs.length⟩=
   some (.normal,⟨tm',bG (b+5) (lk (.int .i64 0) val n r (c+1)::prev)++cD b n (r+1) fnv 1 H',b+5+(r+1),b+5+rs.length⟩):=by
  by_cases h0:c=0
  ·subst h0;rw [yI rfl] at Hf;subst Hf;have aX:∀H,eM (bG (b+5) (yz n (.int .i64 0)::rs)++cD b n r fnv 1 H) (b+5+r+1) (b+2) r 1 [.an (b+5+r) 0 n] (some (.cells true (yu r 0) true 1 (fX (b+5) n r)))=
     some (.ap [],bG (b+5) (yz n (.int .i64 0)::rs)++cD b n (r+1) fnv 1 H,b+5+r+1):=fun H=>by
    rw [jb (sz:=1) (by rfl) (by rw [anP (by omega)];omega) (by rfl),alx hr];simp only [YT,adp,Bool.false_and,Bool.and_false,alW]
   obtain ⟨tm',h2⟩:=Y7 (P:=P) (L:=L) (b:=b) (c:=0) hr hc (cur:=yz n (.int .i64 0)) (prev:=rs) hp (by simp) eG cX (H:=H) (H':=H') (ct:=b+5+r+1) (base:=b+5+r) (fnv:=fnv)
    (tm:=(20,.ptr (b+2) r)::(19,.an (b+5+r) 0 n)::(18,.int .i64 n)::(17,aa r)::(16,.an (b+2) 0 n)::(15,.bool true)::(14,aa ((0:Nat):Int))::(7,aa r)::(6,aa ((0:Nat):Int))::(13,aa r)::(12,aa ((0:Nat):Int))::gY b n fnv)
    (by rfl) (by rfl) (by rfl) (by rfl) (iR _)
   refine ⟨tm',?_⟩;simp only [hp];unfold qt;rw [Tc,iK,iK,Tb]
   simp only [go_sem,ya,yh,gY,RC,alU,dj _ _ hr,yd,pp,EO (ct:=b+5+r) (sz:=1) (by':=8) (l:=n) (z:=[.int .i64 0]) (by omega) (by omega) rfl rfl,R1]
   rw [aos (rs:=rs) (ct:=b+5+r) (by omega),RB,aX];simp only [abO,aeX,abN,adl,fu];simp only [gY,pp] at h2;rw [h2,Sd,<-ZM hc,alz];rfl
  ·rw [yB h0] at Hf;subst Hf;obtain ⟨tm',h2⟩:=Y7 (P:=P) (L:=L) (b:=b) (c:=c) hr hc (cur:=lk (.int .i64 0) val n r c) (prev:=prev) hp (anQ (by omega)) eG cX (H:=H) (H':=H') (ct:=b+5+(r+1)) (base:=b+5+(r+1)) (fnv:=fnv)
    (tm:=(15,.bool false)::(14,aa c)::(7,aa r)::(6,aa c)::(13,aa r)::(12,aa c)::gY b n fnv)
    (by rfl) (by rfl) (by rfl) (by rfl) (iR _)
   refine ⟨tm',?_⟩;simp only [yr,hp];unfold qt;rw [Tc,iK,iK,Tb];simp only [gY] at h2 ⊢;simp only [go_sem,ya,show ¬(c:Int)=0 by omega];simp only [go_sem,ya] at h2;rw [h2,Sd,ZM hc]
 obtain ⟨tm',hb⟩:=hb;have hlen:b+5+(r+1)=b+5+(lk (.int .i64 0) val n r (c+1)::prev).length:=by rw [yr,hp]
 rw [aaL (Mb) (tm':=(13,aa r)::(12,aa c)::gY b n fnv) rfl (s1:=⟨(7,aa r)::(6,aa c)::(13,aa r)::(12,aa c)::gY b n fnv,bG (b+5) rs++cD b n rs.length fnv 0 H,b+5+rs.length,b+5+rs.length⟩) (by unfold zu;simp only [go_sem,ya]) Mb
  (by simp only [ZY];exact hb) Mb,ZY]
end
end
section
open Go (IntKind)
section
variable {P:aG} {L:Lib}
structure IY (P:aG) (L:Lib) (b n:Nat) (fnv:AV) (val:Nat->Nat->AV) (Hs:Nat->Hp):Prop where
 n1:n<=1000
 zF:∀k,NG b fnv (Hs k)
 one:∀c r,bm (val c r)=true
 pu:∀c r,aR (val c r)=true
 call:∀c r,c<n->r<n->∀(fC:Hp) (ct:Nat),(∀p,p∈fC->b<=p.1)->b<=ct->jH ct ct fC->(dz ct fC).length<=5000->dF P L (D P L) (fC++Hs (r*n+c)) ct .dyn fnv [aa c,aa r]=some (val c r,fC++Hs (r*n+c+1),ct)
def ja (val:Nat->Nat->AV) (n r c:Nat):List (List AV):=if c=0 then fg val n r else lk (.int .i64 0) val n r c::fg val n r
def aj4 {val:Nat->Nat->AV} {n r c:Nat}:(ja val n r c).length=if c=0 then r else r+1:=by
 unfold ja;split<;>simp [AQ]
def ai9 {val:Nat->Nat->AV} {n r c:Nat}:ja val n r (c+1)=lk (.int .i64 0) val n r (c+1)::fg val n r:=by
 simp [ja]
def aja {val:Nat->Nat->AV} {n r:Nat} (hn:0<n):ja val n r n=fg val n (r+1):=by
 rw [ja,yB (by omega),aly];rfl
def ajb {val:Nat->Nat->AV} {n r:Nat}:ja val n r 0=fg val n r:=by simp [ja]
def Z0 {B:Nat}:∀{rs:List (List AV)} (p:Nat×Obj),p∈bG B rs->B<=p.1
 | [],p,h=>by simp [bG] at h
 | c::r,p,h=>by
  rcases wk.1 h with rfl | h
  ·show B<=B+r.length;omega
  ·exact Z0 p h
def aa4 {b n R st:Nat} {fnv:AV} {H:Hp} {rs:List (List AV)}:bG (b+5) rs++cD b n R fnv st H=(bG (b+5) rs++cD b n R fnv st [])++H:=by
 rw [xp];rfl
def aov {b n R st:Nat} {fnv:AV} {rs:List (List AV)} (p:Nat×Obj) (h:p∈bG (b+5) rs++cD b n R fnv st []):b<=p.1:=by
 rcases List.mem_append.1 h with h | h
 ·have:=Z0 p h;omega
 ·simp only [cD,wk,uy,yaW] at h;rcases h with rfl | rfl | rfl | rfl | rfl<;>simp
def aj5 {b n R st:Nat} (hR:R<=n) {fnv:AV} {H:Hp} (ho:NG b fnv H) {rs:List (List AV)} (hl:rs.length=R):jH (b+5+R) (b+5+R) (bG (b+5) rs++cD b n R fnv st []):=by
 have OL:jG (b+4) (gY b n fnv):=by
  have:=Ec (show b<=b+4 by omega) ho.fv
  refine ⟨⟨trivial,trivial,trivial⟩,trivial,show b+3<b+4 by omega,show b+2<b+4 by omega,trivial,trivial,show b+1<b+4 by omega,show b<b+4 by omega,trivial,this,trivial⟩
 refine QZ (Yn (by omega)) ⟨by omega,LJ (by omega) OL,by omega,.inr ⟨show b+2<_ by omega,trivial⟩,by omega,.inr Y2,by omega,.inr ⟨Ec (by omega) ho.fv,trivial⟩,by omega,.inl rfl,trivial⟩
def alX {b n R st ct:Nat} (hR:R<=n) (hn:n<=1000) (fR:b+5<=ct) {fnv:AV} {H:Hp} (ho:NG b fnv H) {rs:List (List AV)}:(dz ct (bG (b+5) rs++cD b n R fnv st [])).length<=5000:=by
 have avH:(fy (gY b n fnv)).length<=1010:=by
  have:=ho.fl
  simp [gY,fy,refs,eQ];omega
 have pD:(fA (.cells true (aR fnv) true 1 [fnv])).length<=1000:=by
  cases aR fnv with
  | true=>simp [fA]
  | false=>simp [fA,eQ];exact ho.fl
 have hol:(fA (.cells true (yu R 0) true 1 (fX (b+5) n R))).length<=1000:=by
  cases hq:yu R 0 with
  | true=>simp [fA]
  | false=>simp only [fA,yA,ZN,List.length_range'];omega
 rw [QJ,XR,wa];simp only [cD,dz,iw (show b+4<ct by omega),iw (show b+3<ct by omega),iw (show b+2<ct by omega),iw (show b+1<ct by omega),iw (show b<ct by omega),ym,List.length_append,yE];have h3:(fA (.cells true false true 1 [AV.an (b+2) 0 n])).length=1:=rfl;have h0:(fA (.cells true true true 1 [AV.int .i64 n])).length=0:=rfl;have h4:(fA (.lp (gY b n fnv) [12,13] zu qt st .none)).length=(fy (gY b n fnv)).length:=rfl;rw [h3,h0,h4];omega
def alY {b n:Nat} {fnv:AV} {val:Nat->Nat->AV} {Hs:Nat->Hp} (hf:IY P L b n fnv val Hs) {r:Nat} (hr:r<n):
  ∀d st,(∃c:Nat,bD [0,1,3,5,6,9,10] st=⟨[(0,.fn (.y (b+4)) [] []),(1,.aI [.int .i64 n]),(3,aa r),(5,aa n),(6,aa r),(9,aa n),(10,aa c)],bG (b+5) (ja val n r c)++cD b n (ja val n r c).length fnv 0 (Hs (r*n+c)),b+5+(ja val n r c).length,b+5⟩/\c+d=n)->
   ∃ex s',D P L (.loop [0,1,3,5,6,9,10] zf) st=some (ex,s')/\∃tm ct,s'=⟨tm,bG (b+5) (ja val n r n)++cD b n (ja val n r n).length fnv 0 (Hs (r*n+n)),ct,b+5⟩/\ex= .exit 2/\af tm 0= .fn (.y (b+4)) [] []/\af tm 1= .aI [.int .i64 n]/\af tm 5=aa n/\af tm 6=aa r:=by
 have n1:=hf.n1
 refine cg (I:=fun d st=>∃c:Nat,st=⟨[(0,.fn (.y (b+4)) [] []),(1,.aI [.int .i64 n]),(3,aa r),(5,aa n),(6,aa r),(9,aa n),(10,aa c)],bG (b+5) (ja val n r c)++cD b n (ja val n r c).length fnv 0 (Hs (r*n+c)),b+5+(ja val n r c).length,b+5⟩/\c+d=n)
  (Q:=fun ex s'=>∃tm ct,s'=⟨tm,bG (b+5) (ja val n r n)++cD b n (ja val n r n).length fnv 0 (Hs (r*n+n)),ct,b+5⟩/\ex= .exit 2/\af tm 0= .fn (.y (b+4)) [] []/\af tm 1= .aI [.int .i64 n]/\af tm 5=aa n/\af tm 6=aa r) ?_
 rintro d st ⟨c,rfl,hcd⟩;by_cases hc:c<n
 ·left
  have IZ:=ai8 (P:=P) (L:=L) (b:=b) hr hc n1 (hf.zF 0).one (hf.one c r) (hf.pu c r) (H:=Hs (r*n+c)) (H':=Hs (r*n+c+1)) (prev:=fg val n r) (rs:=ja val n r c) (AQ val n r) rfl (fun cur=>by
   have hl:(cur::fg val n r).length=r+1:=by rw [yr,AQ]
   rw [aa4,hf.call c r hc hr _ _ aov (by omega) (aj5 (by omega) (hf.zF 0) hl) (alX (by omega) n1 (by omega) (hf.zF 0)),<-aa4])
  have zt:∀(xs:List AV) (hp:Hp) (ct:Nat),dF P L (D P L) hp ct .heap (.fn (.y (b+4)) [] []) xs=jt (D P L) hp ct (b+4) xs:=fun _ _ _=>rfl
  simp only [go_sem,ya,zf,show (c:Int)<n by omega,zt,IZ,show (c:Int)+1=((c+1:Nat):Int) from rfl,wrapN (n:=c+1) (by omega)];refine ⟨_,d-1,rfl,by omega,c+1,?_,by omega⟩;rw [<-ai9];have hlen:(ja val n r (c+1)).length=r+1:=by rw [aj4,yB (by omega)]
  have jS:=fun (tm:Env) (ct:Nat)=>Ht (tm:=tm) (ct:=ct) (b:=b) (n:=n) (st:=0) (live:=[0,1,3,5,6,9,10]) (rs:=ja val n r (c+1)) (hf.zF (r*n+c+1)) (by omega) n1
  simp only [hlen] at jS ⊢;rw [jS]
  ·simp only [go_sem,ya];rfl
  ·simp only [go_sem,ya];exact ⟨⟨by omega,rfl,rfl⟩,trivial,trivial,trivial,trivial,trivial,trivial,trivial⟩
  ·simp only [go_sem,ya,yb,ye]
 ·right
  have:c=n:=by omega
  subst this;simp only [go_sem,ya,zf,show ¬(c:Int)<c by omega];refine ⟨_,_,rfl,by simp,_,_,rfl,rfl,?_⟩;simp only [go_sem,ya]
  simp
def aj6 {b n:Nat} (hn:0<n) {fnv:AV} {val:Nat->Nat->AV} {Hs:Nat->Hp} (hf:IY P L b n fnv val Hs):
  ∀d st,(∃r:Nat,bD [0,1,5,6] st=⟨[(0,.fn (.y (b+4)) [] []),(1,.aI [.int .i64 n]),(5,aa n),(6,aa r)],bG (b+5) (fg val n r)++cD b n (fg val n r).length fnv 0 (Hs (r*n)),b+5+(fg val n r).length,b+5⟩/\r+d=n)->
   ∃ex s',D P L (.loop [0,1,5,6] zg) st=some (ex,s')/\∃tm ct,s'=⟨tm,bG (b+5) (fg val n n)++cD b n (fg val n n).length fnv 0 (Hs (n*n)),ct,b+5⟩/\ex= .exit 0:=by
 have n1:=hf.n1
 refine cg (I:=fun d st=>∃r:Nat,st=⟨[(0,.fn (.y (b+4)) [] []),(1,.aI [.int .i64 n]),(5,aa n),(6,aa r)],bG (b+5) (fg val n r)++cD b n (fg val n r).length fnv 0 (Hs (r*n)),b+5+(fg val n r).length,b+5⟩/\r+d=n)
  (Q:=fun ex s'=>∃tm ct,s'=⟨tm,bG (b+5) (fg val n n)++cD b n (fg val n n).length fnv 0 (Hs (n*n)),ct,b+5⟩/\ex= .exit 0) ?_
 rintro d st ⟨r,rfl,lC⟩;by_cases hr:r<n
 ·left
  have hlen:(fg val n r).length=r:=AQ val n r;have CU:(fg val n (r+1)).length=r+1:=AQ val n (r+1);have jS:=fun (tm:Env) (ct:Nat)=>Ht (tm:=tm) (ct:=ct) (b:=b) (n:=n) (st:=0) (live:=[0,1,3,5,6,9,10]) (rs:=fg val n r) (hf.zF (r*n)) (by omega) n1
  have E5:=fun (tm:Env) (ct:Nat) (live:List Nat)=>Ht (tm:=tm) (ct:=ct) (live:=live) (b:=b) (n:=n) (st:=0) (rs:=fg val n (r+1)) (hf.zF ((r+1)*n)) (by omega) n1
  simp only [hlen] at jS;simp only [CU] at E5;simp only [go_sem,ya,zg,show (r:Int)<n by omega,hlen];generalize hq:D P L (.loop [0,1,3,5,6,9,10] zf) _=q;obtain ⟨ex,st,rfl,tm,ct,rfl,rfl,g0,g1,g5,g6⟩:=bP hq (alY hf hr n) ⟨0,by
   simp only [ajb,hlen,Nat.add_zero];rw [jS]
   ·simp only [go_sem,ya];rfl
   ·simp only [go_sem,ya];exact ⟨⟨by omega,rfl,rfl⟩,trivial,trivial,trivial,trivial,trivial,trivial,trivial⟩
   ·simp only [go_sem,ya,yb,ye],by omega⟩
  simp only [aja hn,CU,show r*n+n=(r+1)*n by rw [Nat.add_mul,Nat.one_mul]];rw [Ij,fu,JQ,E5]
  ·simp only [go_sem,ya,g0,g1,g5,g6,show (r:Int)+1=((r+1:Nat):Int) from rfl,wrapN (n:=r+1) (by omega)];refine ⟨_,d-1,rfl,by omega,r+1,?_,by omega⟩;rw [CU,E5]
   ·simp only [go_sem,ya]
   ·simp only [go_sem,ya];exact ⟨⟨by omega,rfl,rfl⟩,trivial,trivial,trivial,trivial⟩
   ·simp only [go_sem,ya,yb,ye]
  ·simp only [go_sem,g0,g1,g5,g6];exact ⟨⟨by omega,rfl,rfl⟩,trivial,trivial,trivial,trivial⟩
  ·simp only [go_sem,yb,ye,g0,g1,g5,g6]
 ·right
  have:r=n:=by omega
  subst this;simp only [go_sem,ya,zg,show ¬(r:Int)<r by omega];exact ⟨_,_,rfl,by simp,_,_,rfl,rfl⟩
structure BuT (P:aG) (L:Lib):Prop where
 Qj:Has P L 40 KK
 h96:Has P L 96 Wf
 O9:Has P L 133 Fg
def s96 (h:BuT P L) (n:Int):bO P L (D P L) 96 [aa n]=some (.fn (.f 133) [] [.aI [aa n]]):=by
 rw [av h.h96];simp only [go_sem,ya,yb,Wf];rfl
def jT (b n:Nat) (fnv:AV) (val:Nat->Nat->AV) (H:Hp):Hp:=
 bG (b+5) (fg val n n)++(b+3,.cells true false true 1 [.an (b+2) 0 n])::(b+2,.cells true false true 1 (fX (b+5) n n))::(b+1,.cells true (aR fnv) true 1 [fnv])::(b,.cells true true true 1 [.int .i64 n])::H
def Z1 {x:Nat}:∀{H:Hp},(∀p,p∈H->p.1≠x)->dA H x=H
 | [],_=>rfl
 | (id,o)::r,h=>by
  rw [dA,cG (h (id,o) (by simp)),yA,Z1 (fun p hp=>h p (by simp [hp]))]
def Z2 (h:BuT P L) {b n:Nat} (hn:0<n) {fnv:AV} {val:Nat->Nat->AV} {Hs:Nat->Hp} (hf:IY P L b n fnv val Hs) (hb:∀p,p∈Hs (n*n)->p.1<b):
  ∃tm ct,D P L KK.body ⟨[(0,aa n),(1,fnv)],Hs 0,b,b⟩=some (.ret,⟨tm,jT b n fnv val (Hs (n*n)),ct,b⟩)/\af tm 4= .an (b+2) 0 n:=by
 have n1:=hf.n1;have fI:=(hf.zF 0).one;have Ni:cellsOf fnv=[fnv]:=by cases fnv<;>simp_all [cellsOf,bm]
 have axf:∀ct,zQ ct 1 24 [.ab] (some n) (some n)=some (.an ct 0 n,.cells true true true 1 (yz n .ab)):=fun ct=>by
  rw [EO (sz:=1) (by omega) (by omega) rfl rfl,R1];rfl
 have auM:fX (b+5) n 0=yz n .ab:=by simp [fX]
 have inner:∃tm ct,D P L Fg.body ⟨fG 0 [.fn (.y (b+4)) [] [],.aI [.int .i64 n]],(b+4,.lp (gY b n fnv) [12,13] zu qt 0 .none)::(b+3,.cells true false true 1 [.an (b+2) 0 n])::(b+2,.cells true true true 1 (yz n .ab))::(b+1,.cells true (aR fnv) true 1 [fnv])::(b,.cells true true true 1 [.int .i64 n])::Hs 0,b+5,b+5⟩=
   some (.normal,⟨tm,bG (b+5) (fg val n n)++cD b n n fnv 0 (Hs (n*n)),ct,b+5⟩):=by
  have aX:(b+4,Obj.lp (gY b n fnv) [12,13] zu qt 0 .none)::(b+3,.cells true false true 1 [.an (b+2) 0 n])::(b+2,.cells true true true 1 (yz n .ab))::(b+1,.cells true (aR fnv) true 1 [fnv])::(b,.cells true true true 1 [.int .i64 n])::Hs 0=
    bG (b+5) []++cD b n 0 fnv 0 (Hs 0):=by
   simp only [bG,wa,cD,auM];rfl
  rw [aX];simp only [go_sem,ya,Fg];generalize hq:D P L (.loop [0,1,5,6] zg) _=q;have jS:=fun (tm:Env) (ct:Nat) (live:List Nat)=>Ht (tm:=tm) (ct:=ct) (live:=live) (b:=b) (n:=n) (st:=0) (rs:=[]) (hf.zF 0) (by simp) n1
  simp only [yE] at jS;obtain ⟨ex,st,rfl,tm,ct,rfl,rfl⟩:=bP hq (aj6 hn hf n) ⟨0,by
   simp only [fg,yE,Nat.zero_mul];rw [jS]
   ·simp only [go_sem,ya];rfl
   ·simp only [go_sem,ya];exact ⟨⟨by omega,rfl,rfl⟩,trivial,trivial,trivial,trivial⟩
   ·simp only [go_sem,ya,yb,ye],by omega⟩
  have hlen:(fg val n n).length=n:=AQ val n n;have E5:=fun (tm:Env) (ct:Nat) (live:List Nat)=>Ht (tm:=tm) (ct:=ct) (live:=live) (b:=b) (n:=n) (st:=0) (rs:=fg val n n) (hf.zF (n*n)) (by omega) n1
  simp only [hlen] at E5 ⊢;simp only [go_sem];rw [E5]
  ·exact ⟨_,_,rfl⟩
  ·simp only [go_sem]
   trivial
  ·simp only [go_sem,ye]
 obtain ⟨tm,ct,inner⟩:=inner;have Hl:=afa (P:=P) (L:=L) (f:= .t 11) (ps:=[12,13]) (as_:=zu) (body:=qt)
  (s:=⟨gY b n fnv,(b+3,.cells true false true 1 [.an (b+2) 0 n])::(b+2,.cells true true true 1 (yz n .ab))::(b+1,.cells true (aR fnv) true 1 [fnv])::(b,.cells true true true 1 [.int .i64 n])::Hs 0,b+4,b⟩)
  (n:=133) (first:=[]) (cap:=[.aI [.int .i64 n]]) rfl h.O9.heap (Er h.O9 inner (.inl rfl) rfl) Mb (by decide)
 have VU:dA (bG (b+5) (fg val n n)++cD b n n fnv 0 (Hs (n*n))) (b+4)=jT b n fnv val (Hs (n*n)):=by
  rw [XQ (by omega),jT]
  simp only [cD,dA,xq,ym,cG (show b+3≠b+4 by omega),cG (show b+2≠b+4 by omega),cG (show b+1≠b+4 by omega),cG (show b≠b+4 by omega),yA,
   Z1 (fun p hp=>by have:=hb p hp;omega:∀p,p∈Hs (n*n)->p.1≠b+4),cG (show n≠0 by omega)]
 have hg3:ak (jT b n fnv val (Hs (n*n))) (b+3)=some (.cells true false true 1 [.an (b+2) 0 n]):=by
  rw [jT,qY (by omega),ak,xq,ym]
 simp only [gY] at Hl;simp only [go_sem,ya,yb,KK,Ni,ae1 fI,axf,s96 h,Nat.add_assoc,Hl,show ¬b+1=b by omega,show ¬b+2=b by omega,show ¬b+3=b by omega];simp only [go_sem,VU,hg3];exact ⟨_,_,rfl,by simp only [go_sem]⟩
def aj7 {hp:Hp} {id i:Nat} {o:Obj}:ak (aW hp id o) i=if id=i then (if (ak hp id).isSome then some o else none) else ak hp i:=by
 induction hp with
 | nil=>simp [aW,ak]
 | cons x r ih=>
  obtain ⟨j,q⟩:=x;simp only [aW];by_cases hj:j=id
  ·subst hj;simp only [xq,ym,ak];by_cases hi:j=i
   ·subst hi;simp
   ·simp [cG hi,hi]
  ·simp only [cG hj,yA];rw [ak,ih];by_cases hi:j=i
   ·subst hi
    have:¬id=j:=fun h=>hj h.symm
    simp [xq,this,ak]
   ·simp [cG hi,ak,cG hj]
def aa5 {B n:Nat} {row:Nat->List AV} (hlen:∀i,(row i).length=n):∀(l:List Nat) (k:Nat) (hp:Hp),l.length+3<=k->(∀i,i∈l->∃rw,ak hp (B+i)=some (.cells rw true true 1 (row i)))->
  ∃ao,cO k hp (l.map fun i=> .an (B+i) 0 n)=some (l.map fun i=> .aE true n (row i),ao)
 | [],0,hp,hk,_=>by simp at hk
 | [],k+1,hp,_,_=>⟨hp,rfl⟩
 | i::l,0,hp,hk,_=>by simp at hk
 | i::l,1,hp,hk,_=>by simp at hk
 | i::l,2,hp,hk,_=>by simp at hk
 | i::l,k+3,hp,hk,h=>by
  simp only [yr] at hk;obtain ⟨rw,h1⟩:=h i (by simp);have hf:freeze (k+2) hp (.an (B+i) 0 n)=some (.aE true n (row i),bif rw then aW hp (B+i) (.cells false true true 1 (row i)) else hp):=by
   rw [Sf,Sg,h1]
   cases rw with
   | true=>rw [adq,nC true (by rw [hlen,yh]) (by decide)];rfl
   | false=>rw [adr,nC true (by rw [hlen,yh]) (by decide)];rfl
  obtain ⟨ao,h2⟩:=aa5 hlen l (k+2) (bif rw then aW hp (B+i) (.cells false true true 1 (row i)) else hp) (by omega) (fun j hj=>by
   obtain ⟨fc,h3⟩:=h j (by simp [hj])
   cases rw with
   | false=>exact ⟨fc,h3⟩
   | true=>
    simp only [ym,aj7,h1,Option.isSome_some,y5];by_cases e:B+i=B+j
    ·have:i=j:=by omega
     subst this;exact ⟨false,by rw [yI rfl]⟩
    ·exact ⟨fc,by rw [yB e,h3]⟩)
  exact ⟨ao,by rw [List.map_cons,ZE,hf,ado,h2];rfl⟩
def ph (val:Nat->Nat->AV) (n:Nat):AV:= .aE true n ((xi n).map fun r=> .aE true n ((xi n).map fun c=>val c r))
def Z3 {val:Nat->Nat->AV} {n:Nat}:∀r,(fg val n r).reverse=(xi r).map fun r=>(xi n).map fun c=>val c r
 | 0=>rfl
 | r+1=>by rw [fg,List.reverse_cons,Z3 r,td,xC];rfl
def Z4 {b n k:Nat} (hn:0<n) (gV:n<=900) {fnv:AV} {val:Nat->Nat->AV} {H:Hp} (hk:903<k):∃ao,freeze (k+2) (jT b n fnv val H) (.an (b+2) 0 n)=some (ph val n,ao):=by
 have mM:ak (jT b n fnv val H) (b+2)=some (.cells true false true 1 (fX (b+5) n n)):=by
  rw [jT,qY (by omega),ak,cG (by omega),yA,ak,xq,ym]
 have E9:fX (b+5) n n=(xi n).map fun i=> .an (b+5+i) 0 n:=by simp [fX]
 have hlen:(fg val n n).length=n:=AQ val n n;obtain ⟨ao,h1⟩:=aa5 (B:=b+5) (n:=n) (row:=fun r=>(xi n).map fun c=>val c r) (fun i=>by simp) (xi n) k (jT b n fnv val H) (by simp;omega) (fun i hi=>by
  have cu:i<n:=List.mem_range.1 hi;refine ⟨true,?_⟩;rw [jT,Rw (by omega)]
  simp only [Z3,List.getElem_map,List.getElem_range])
 rw [Sf,Sg,mM];have hq:JT k (b+2) (jT b n fnv val H) (some (.cells true false true 1 (fX (b+5) n n)))=some (true,1,(xi n).map fun r=> .aE true n ((xi n).map fun c=>val c r),aW ao (b+2) (.cells false false true 1 (fX (b+5) n n))):=by
  simp only [JT,yA,E9,h1]
 rw [hq,nC true (by simp) (by decide)];exact ⟨_,rfl⟩
def alZ {b n:Nat} (hn:0<n) (gV:n<=900) {fnv:AV} {val:Nat->Nat->AV} {H:Hp}:result (jT b n fnv val H) (.an (b+2) 0 n)=some (ph val n):=by
 have mM:ak (jT b n fnv val H) (b+2)=some (.cells true false true 1 (fX (b+5) n n)):=by
  rw [jT,qY (by omega),ak,cG (by omega),yA,ak,xq,ym]
 obtain ⟨ao,h⟩:=Z4 (b:=b) (k:=998) hn gV (fnv:=fnv) (val:=val) (H:=H) (by omega);simp only [result,oJ,mM,deep,h]
def al0 {b n:Nat} (hn:0<n) (gV:n<=900) {fnv:AV} {val:Nat->Nat->AV} {H:Hp} {k:IntKind} {x:Int}:result (jT b n fnv val H) (.ap [.an (b+2) 0 n,.int k x])=some (.ap [ph val n,.int k x]):=by
 have mM:ak (jT b n fnv val H) (b+2)=some (.cells true false true 1 (fX (b+5) n n)):=by
  rw [jT,qY (by omega),ak,cG (by omega),yA,ak,xq,ym]
 obtain ⟨ao,h⟩:=Z4 (b:=b) (k:=998) hn gV (fnv:=fnv) (val:=val) (H:=H) (by omega);have h1:A2 [.an (b+2) 0 n,.int k x]=some [b+2]:=rfl;simp only [result,h1,rk,oJ,mM,deep,h];rfl
end
end
section
open Go (IntKind)
section
variable {P:aG} {L:Lib}
def aa6 (h:BuT P L) {n:Nat} (hn:0<n) (gV:n<=900) {g:Nat} {cap:List AV} {val:Nat->Nat->AV} (hc:aH cap=true) (h1:∀c r,bm (val c r)=true) (h2:∀c r,aR (val c r)=true) (h3:∀c r,shut (val c r)=val c r)
  (hg:∀c r,c<n->r<n->ae P L g (aa c::aa r::cap) (val c r)):ae P L 40 [aa n,.fn (.f g) [] cap] (ph val n):=by
 have P3:aR (.fn (.f g) [] cap)=true:=by simp [aR,aH,hc]
 have hf:IY P L 0 n (.fn (.f g) [] cap) val (fun _=>[]):=by
  refine ⟨by omega,fun _=>⟨mg P3,by rw [aJ P3];simp,rfl,trivial,fun _=>by simp [dz]⟩,h1,h2,fun c r ma hr fC ct _ _ _ _=>?_⟩
  have hp:aH (aa c::aa r::cap)=true:=by simp [aH,aR,hc]
  have:=hg c r ma hr
  unfold ae at this;simp only [dF,wa,y7,hp,ym,this,h3,wc]
 obtain ⟨tm,ct,e,h4⟩:=Z2 h hn hf (fun p hp=>by simp at hp);unfold ae;rw [av h.Qj,ae0,e,adm]
 have:gN ⟨tm,jT 0 n (.fn (.f g) [] cap) val [],ct,0⟩ KK.dT=some (.an (0+2) 0 n):=by
  show gN _ [.t 4]=_
  rw [Fv,E2,h4]
 rw [this,adn];exact alZ hn gV
def al1 (h:BuT P L) {l B n:Nat} (hl:l<B) (hn:n<=1000) {H:Nat->Nat->Hp} (hw:∀r,r<n->H r n=H (r+1) 0) (hb:∀r c,jH B B (H r c)) (hr:∀r c,(dz B (H r c)).length<=5000)
  (IZ:∀c r,c<n->r<n->jt (D P L) (H r c) B l [aa c,aa r]=some (.bool true,H r (c+1),B)):
  ∃tm,D P L Fg.body ⟨[(0,.fn (.y l) [] []),(1,.aI [.int .i64 n])],H 0 0,B,B⟩=some (.normal,⟨tm,H n 0,B,B⟩):=by
 have jS:∀(live:List Nat) (tm:Env) (r c ct:Nat),jG B (df tm live)->(fy (df tm live)).length<=1000->bD live ⟨tm,H r c,ct,B⟩=⟨df tm live,H r c,B,B⟩:=fun live tm r c ct h1 h2=>
  LI h1 (hb r c) (by have:=hr r c;omega)
 have zt:∀(xs:List AV) (hp:Hp) (ct:Nat),dF P L (D P L) hp ct .heap (.fn (.y l) [] []) xs=jt (D P L) hp ct l xs:=fun _ _ _=>rfl
 have inner:∀r,r<n->∀d st,(∃c:Nat,bD [0,1,3,5,6,9,10] st=⟨[(0,.fn (.y l) [] []),(1,.aI [.int .i64 n]),(3,aa r),(5,aa n),(6,aa r),(9,aa n),(10,aa c)],H r c,B,B⟩/\c+d=n)->
   ∃ex s',D P L (.loop [0,1,3,5,6,9,10] zf) st=some (ex,s')/\∃tm ct,s'=⟨tm,H r n,ct,B⟩/\ex= .exit 2/\af tm 0= .fn (.y l) [] []/\af tm 1= .aI [.int .i64 n]/\af tm 5=aa n/\af tm 6=aa r:=by
  intro r bX
  refine cg (I:=fun d st=>∃c:Nat,st=⟨[(0,.fn (.y l) [] []),(1,.aI [.int .i64 n]),(3,aa r),(5,aa n),(6,aa r),(9,aa n),(10,aa c)],H r c,B,B⟩/\c+d=n)
   (Q:=fun ex s'=>∃tm ct,s'=⟨tm,H r n,ct,B⟩/\ex= .exit 2/\af tm 0= .fn (.y l) [] []/\af tm 1= .aI [.int .i64 n]/\af tm 5=aa n/\af tm 6=aa r) ?_
  rintro d st ⟨c,rfl,hcd⟩;by_cases hc:c<n
  ·left
   simp only [go_sem,ya,zf,show (c:Int)<n by omega,zt,IZ c r hc bX,show (c:Int)+1=((c+1:Nat):Int) from rfl,wrapN (n:=c+1) (by omega)];refine ⟨_,d-1,rfl,by omega,c+1,?_,by omega⟩;rw [jS]
   ·simp only [go_sem,ya]
   ·simp only [go_sem,ya];exact ⟨⟨hl,rfl,rfl⟩,trivial,trivial,trivial,trivial,trivial,trivial,trivial⟩
   ·simp only [go_sem,ya,yb,ye]
  ·right
   have:c=n:=by omega
   subst this;simp only [go_sem,ya,zf,show ¬(c:Int)<c by omega];refine ⟨_,_,rfl,by simp,_,_,rfl,rfl,?_⟩;simp only [go_sem,ya]
   simp
 have outer:∀d st,(∃r:Nat,bD [0,1,5,6] st=⟨[(0,.fn (.y l) [] []),(1,.aI [.int .i64 n]),(5,aa n),(6,aa r)],H r 0,B,B⟩/\r+d=n)->
   ∃ex s',D P L (.loop [0,1,5,6] zg) st=some (ex,s')/\∃tm ct,s'=⟨tm,H n 0,ct,B⟩/\ex= .exit 0:=by
  refine cg (I:=fun d st=>∃r:Nat,st=⟨[(0,.fn (.y l) [] []),(1,.aI [.int .i64 n]),(5,aa n),(6,aa r)],H r 0,B,B⟩/\r+d=n)
   (Q:=fun ex s'=>∃tm ct,s'=⟨tm,H n 0,ct,B⟩/\ex= .exit 0) ?_
  rintro d st ⟨r,rfl,lC⟩;by_cases bX:r<n
  ·left
   simp only [go_sem,ya,zg,show (r:Int)<n by omega];generalize hq:D P L (.loop [0,1,3,5,6,9,10] zf) _=q;obtain ⟨ex,st,rfl,tm,ct,rfl,rfl,g0,g1,g5,g6⟩:=bP hq (inner r bX n) ⟨0,by
    rw [jS]
    ·simp only [go_sem,ya];rfl
    ·simp only [go_sem,ya];exact ⟨⟨hl,rfl,rfl⟩,trivial,trivial,trivial,trivial,trivial,trivial,trivial⟩
    ·simp only [go_sem,ya,yb,ye],by omega⟩
   rw [hw r bX,Ij,fu,JQ,jS]
   ·simp only [go_sem,ya,g0,g1,g5,g6,show (r:Int)+1=((r+1:Nat):Int) from rfl,wrapN (n:=r+1) (by omega)];refine ⟨_,d-1,rfl,by omega,r+1,?_,by omega⟩;rw [jS]
    ·simp only [go_sem,ya]
    ·simp only [go_sem,ya];exact ⟨⟨hl,rfl,rfl⟩,trivial,trivial,trivial,trivial⟩
    ·simp only [go_sem,ya,yb,ye]
   ·simp only [go_sem,g0,g1,g5,g6];exact ⟨⟨hl,rfl,rfl⟩,trivial,trivial,trivial,trivial⟩
   ·simp only [go_sem,yb,ye,g0,g1,g5,g6]
  ·right
   have:r=n:=by omega
   subst this;simp only [go_sem,ya,zg,show ¬(r:Int)<r by omega];exact ⟨_,_,rfl,by simp,_,_,rfl,rfl⟩
 simp only [go_sem,ya,Fg];generalize hq:D P L (.loop [0,1,5,6] zg) _=q;obtain ⟨ex,st,rfl,tm,ct,rfl,rfl⟩:=bP hq (outer n) ⟨0,by
  rw [jS]
  ·simp only [go_sem,ya];rfl
  ·simp only [go_sem,ya];exact ⟨⟨hl,rfl,rfl⟩,trivial,trivial,trivial,trivial⟩
  ·simp only [go_sem,ya,yb,ye],by omega⟩
 simp only [go_sem];rw [jS]
 ·exact ⟨_,rfl⟩
 ·simp only [go_sem]
  trivial
 ·simp only [go_sem,ye]
structure Qt (P:aG) (L:Lib):Prop extends BuT P L,Sq P L where
 W3:Has P L 41 V1
 h97:Has P L 97 PM
 rO:Has P L 134 C5
def s41 (h:Qt P L) {v w:AV} {s k:List (List Int)} (hv:cF v s) (hw:cF w k) {n m:Nat} (hn:s.length=n) (lB:0<n) (gV:n<=16) (hs:fB n (-1000) 1000 s=0) (hm:k.length=m) (K9:0<m) (qO:m<=5) (hk:fB m (-100) 100 k=0)
  {c r:Nat} (hc:c<n) (hr:r<n):ae P L 41 [aa c,aa r,.aI [w],.aI [v],.aI [aa (m/2:Nat)]] (aa (sY s k c r)):=by
 let TM:Env:=[(13,.fn (.f 133) [] [.aI [.int .i64 m]]),(12,.int .i64 m),(11,w),(8,.ptr 2 0),(7,.int .i64 0),(6,.ptr 1 0),(5,.ptr 0 0),(0,aa c),(1,aa r),(2,.aI [w]),(3,.aI [v]),(4,.aI [aa (m/2:Nat)])]
 let S:Nat->Nat->Int:=fun j i=>jR (fun j=>jR (nK s k c r j) m) j+jR (nK s k c r j) i
 let HH:Nat->Nat->Nat->Hp:=fun st j i=>[(3,.lp TM [14,15] Jd E0 st .none),(2,.cells true true true 1 [aa (S j i)]),(1,.cells true true true 1 [aa r]),(0,.cells true true true 1 [aa c])]
 have hb:∀st j i,jH 4 4 (HH st j i):=fun st j i=>by
  refine ⟨by omega,⟨⟨trivial,trivial,trivial⟩,trivial,mg hw.pu,show 2<4 by omega,trivial,show 1<4 by omega,show 0<4 by omega,trivial,trivial,trivial,trivial,trivial,trivial⟩,by omega,.inl rfl,by omega,.inl rfl,by omega,.inl rfl,trivial⟩
 have Hl:∀st j i,(dz 4 (HH st j i)).length<=5000:=fun st j i=>by
  have:dz 4 (HH st j i)=fy TM:=by
   simp only [HH,dz,iw (show 3<4 by omega),iw (show 2<4 by omega),iw (show 1<4 by omega),iw (show 0<4 by omega),ym,fA,wc]
  rw [this];simp [TM,fy,refs,eQ,aJ hw.pu]
 have IZ:∀i j,i<m->j<m->jt (D P L) (HH 0 j i) 4 3 [aa i,aa j]=some (.bool true,HH 0 j (i+1),4):=fun i j hi hj=>by
  have qK:j<k.length:=by omega
  obtain ⟨kr,rest,cp,fe⟩:=hw.bk qK;have hkj:=HO hk j qK;have cu:i<k[j].length:=by omega
  have b1:=Yj hs hk c r j i;have b2:=Yk hs hk c r j i;have b3:=QW (f:=fun j=>jR (nK s k c r j) m) (b:=500000) (fun j=>by have:=Yk hs hk c r j m;omega) j;have rB:=s97 h.h97 h.rO hv hn lB (by omega) (fun i hi=>(HO hs i hi).1) ((c:Int)+i-(m/2:Nat)) ((r:Int)+j-(m/2:Nat));have hkt:nK s k c r j i=kv k j i*iz s ((c:Int)+i-(m/2:Nat)) ((r:Int)+j-(m/2:Nat)):=by unfold nK;rw [hm]
  have hS:S j (i+1)=S j i+nK s k c r j i:=by simp only [S,jR,Int.add_assoc]
  have hSb: -9000000<=S j i/\S j i<=9000000:=by simp only [S];omega
  unfold ae at rB;have Tz:∃tm,D P L E0 ⟨(10,aa j)::(9,aa i)::(15,aa j)::(14,aa i)::TM,HH 1 j i,4,4⟩=some (.normal,⟨tm,HH 1 j (i+1),4,4⟩):=by
   simp only [HH,hS];generalize S j i=sm at hSb;simp only [TM]
   simp only [go_sem,ya,E0,hv.ah,fe,cp.bk cu,wrap64 (n:=(c:Int)+i) (by omega) (by omega),wrap64 (n:=(c:Int)+i-(m/2:Nat)) (by omega) (by omega),
    wrap64 (n:=(r:Int)+j) (by omega) (by omega),wrap64 (n:=(r:Int)+j-(m/2:Nat)) (by omega) (by omega),rB,SL qK cu,<-hkt,wrap64 (n:=nK s k c r j i) (by omega) (by omega),
    wrap64 (n:=sm+nK s k c r j i) (by omega) (by omega)]
   exact ⟨_,rfl⟩
  obtain ⟨tm,Tz⟩:=Tz
  exact aaL (tm':=(15,aa j)::(14,aa i)::TM) (show ak (HH 0 j i) 3=some (.lp TM [14,15] Jd E0 0 .none) from rfl) rfl (s1:=⟨(10,aa j)::(9,aa i)::(15,aa j)::(14,aa i)::TM,HH 0 j i,4,4⟩) (by unfold Jd;simp only [go_sem,ya]) rfl Tz rfl
 have Vc:=al1 (P:=P) (L:=L) h.toBuT (l:=3) (B:=4) (n:=m) (by omega) (by omega) (H:=HH 0) (fun j hj=>by simp only [HH,S,jR,ybf]) (hb 0) (Hl 0) IZ;obtain ⟨tm,Vc⟩:=Vc;have agL:=afa (P:=P) (L:=L) (f:= .t 13) (ps:=[14,15]) (as_:=Jd) (body:=E0)
  (s:=⟨TM,[(2,.cells true true true 1 [aa (S 0 0)]),(1,.cells true true true 1 [aa r]),(0,.cells true true true 1 [aa c])],3,0⟩)
  (n:=133) (first:=[]) (cap:=[.aI [.int .i64 m]]) rfl h.O9.heap (Er h.O9 Vc (.inl rfl) rfl) (by rfl) (by decide)
 have hd:dA (HH 0 m 0) 3=[(2,.cells true true true 1 [aa (sY s k c r)]),(1,.cells true true true 1 [aa r]),(0,.cells true true true 1 [aa c])]:=by
  have:S m 0=sY s k c r:=by simp only [S,jR,ybf];rw [ajP,hm]
  simp only [HH,this];rfl
 have Xp:S 0 0=0:=by simp [S,jR]
 simp only [TM,Xp,hd] at agL;unfold ae;rw [av h.W3];simp only [go_sem,ya,yb,V1,hw.len,hm,s96 h.toBuT,agL]
end
end
end VE
