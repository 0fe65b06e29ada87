import Derived.Test.YtfdcefmdjiokdaaGreatDoorTah
import Derived.Test.YtfdcefmdjiokdaaGreatDoorTab
set_option linter.all false
set_option maxRecDepth 100000
open BitVec renaming ofInt→xI,ofNat→uS,toNat_ofNat→vK
open Bool renaming and_self→wQ,false_and→wN,false_eq_true→yD,not_false→yP,not_true→yQ,true_and→wP
open Go renaming Code→wS,Func→yaq,World→yi
open Go.Fence renaming wide→ybh
open Int renaming ediv_emod_unique→tI,gcd→wR,gcd_comm→ycw,natAbs_ediv_of_dvd→uz,natAbs_mul→ybS,natCast_mul→wY,pow_zero→yaz,reduceEq→vv,reduceLT→ycv
open List renaming append_assoc→xr,append_nil→xW,drop→vH,drop_drop→vN,drop_eq_getElem_cons→yO,drop_left'→tr,drop_zero→yp,eq_nil_of_length_eq_zero→yJ,length_append→yR,length_cons→yv,length_drop→xN,length_nil→yI,length_pos_iff→vL,length_take→yT,map_append→xu,map_cons→xj,map_map→ybn,map_reverse→yai,nil_append→xX,replicate→yC,set_append_right→yay,take_append_drop→wa,take_of_length_le→yN
open Nat renaming add_comm→tf,add_mul→we,add_zero→yW,beq→yt,beq_refl→xG,ble→yG,ble_eq_true_of_le→yy,blt→yK,div_add_mod→wb,div_eq_of_lt→xO,div_le_self→wV,div_lt_iff_lt_mul→wu,eq_zero_or_pos→xn,le_refl→yz,le_trans→xg,lt_of_le_of_lt→xR,lt_of_lt_of_le→yA,mod_eq_of_lt→yL,mod_le→ycS,mod_lt→xE,mul_add→xC,mul_add_div→yaG,mul_add_mod→yaH,mul_assoc→xm,mul_comm→xA,mul_le_mul_left→yU,mul_le_mul_right→yS,mul_lt_mul''→tp,mul_lt_mul_of_pos_right→xZ,mul_mod_mul_right→tE,mul_one→yj,mul_zero→xx,pos_of_ne_zero→uJ,pow_add→xP,pow_le_pow_left→vm,pow_le_pow_right→yV,pow_one→ycJ,pow_pos→yax,pow_succ→y9,reduceAdd→yc,reduceEqDiff→ya,reduceLT→yE,reduceLeDiff→ym,reduceMul→xK,two_pow_pos→xt,zero_add→yf,zero_le→tu,zero_mul→wU
open Rat renaming den_divInt→ybU,divInt→wy,divInt_ofNat→ybA,lt_iff→ycT,num_divInt→ybT,sub_eq_add_neg→ybg
open UInt8 renaming toNat→xi
namespace VE
open Go (IntKind)
def step_end {A V q Y B bo:Nat} (hV:0<V) (h:Y+q*V=A+B*bo) (h1:A/V<=q) (h2:q<=A/V+1) (hY:Y<B) (hVB:V<=B) (jl:bo<=1):
  (bo=0->q=A/V/\Y=A%V)/\(bo=1->q=A/V+1/\Y+V=B+A%V):=by
 have fg:=wb A V;have hm:=xE A hV;generalize A/V=Q at*
 have hq:q=Q\/q=Q+1:=by omega
 constructor
 ·rintro rfl;rcases hq with rfl | rfl
  ·grind
  ·grind
 ·grind
section
variable {P:aG} {L:Lib}
structure Wd (P:aG) (L:Lib):Prop where
 mw:L.pure 143=some qW
 gG:L.pure 171=some nC
 rD:L.pure 173=some Az
 JH:L.pure 167=some EF
 adz:Has P L 165 Jf
 mv:Has P L 166 A0
 adA:Has P L 168 NC
 auV:Has P L 169 rz
 adB:Has P L 158 EV
 auW:Has P L 157 Je
 adC:Has P L 159 NA
 auX:Has P L 144 Ny
 Tz:Has P L 137 Jc
def aw:VC->VC
 | .seq _ b=>b
 | c=>c
def aq5 (h:Wd P L) {w:AV} {x vs pre post qs:List Nat} (hw:bB w vs) {n v1 v2 u0 u1 u2:Nat} (hl:gQ x vs n v1 v2 u0 u1 u2) {q:Nat} (hq:q<18446744073709551616) (ff:bv 18446744073709551616 x/bv 18446744073709551616 vs<=q) (FR:q<=bv 18446744073709551616 x/bv 18446744073709551616 vs+1):
  ∃tm x',D P L (aw (aw (aw (aw (aw (aw rz.body)))))) ⟨[(0,.ay 0 pre.length (n+1)),(1,w),(5,aa n),(6,uc q)],H2 qs (pre++x++post),2,2⟩=some (.ret,⟨tm,H2 qs (pre++x'++post),2,2⟩)/\aj tm 4=uc (bv 18446744073709551616 x/bv 18446744073709551616 vs)/\x'.length=n+1/\lo 18446744073709551616 x'/\bv 18446744073709551616 x'=bv 18446744073709551616 x%bv 18446744073709551616 vs:=by
 have dn:=hl.n2;have px:=hl.nb;have df:(0:Nat)<18446744073709551616:=by decide
 have hV:0<bv 18446744073709551616 vs:=by
  rcases xn (bv 18446744073709551616 vs) with h0 | h0
  ·have:=hl.lt;rw [h0] at this;simp at this
  ·exact h0
 have su:below 2 w:=pL hw.pu;have Kv:=lD hl.gv;rw [hl.lv] at Kv;have azQ:18446744073709551616^n<=18446744073709551616^(n+1):=yV (by decide) (by omega);have azR:aw (aw (aw (aw (aw (aw rz.body)))))=aw (aw (aw (aw (aw (aw rz.body))))):=rfl;simp only [go_sem,ya,rz,aw,H2];generalize kI:D P L (.loop [0,1,5,6,11,12,104,105] Ib) _=qq;obtain ⟨ex,s,rfl,tm,c,bo,y,rfl,rfl,t0,t1,t5,t6,t11,t12,ly,gy,hc,jl,aI⟩:=bI kI (aq3 (P:=P) (L:=L) h.mw h.gG h.rD hw px hl.lv hl.gv hq (x:=x) (pre:=pre) (post:=post) (qs:=qs) n) ⟨0,0,0,x,by
  rw [pR (by simp only [go_sem,ya,yE,mg,mO,ma,lX,su,wZ]) (by simp only [go_sem,ya,yc,yE,aE hw.pu])]
  simp only [go_sem,ya]<;>rfl,by omega,hl.lx,hl.gx,df,by omega,by simp [bv]⟩
 have Vy:=gC df gy n;have ey:=zf (l:=pre++y++post) (o:=pre.length+n) (by rw [oE];omega);rw [Cb (by omega)] at ey;obtain ⟨d,hd⟩:∃d,d=y.getD n 0:=⟨_,rfl⟩;rw [<-hd] at Vy ey;have f3:=RQ (P:=P) (f:=D P L) h.rD Vy hc jl;have fX:=QJ Vy hc jl;obtain ⟨z,hz⟩:∃t,t=(d+18446744073709551616*2-c-bo)%18446744073709551616:=⟨_,rfl⟩;obtain ⟨b',bQ⟩:∃t,t=(if c+bo<=d then 0 else 1):=⟨_,rfl⟩;have jj:b'<=1:=by rw [bQ];split<;>omega
 have FP:z<18446744073709551616:=by rw [hz];exact xE _ df
 rw [<-hz,<-bQ] at f3 fX;have aU:=nE (b:=18446744073709551616) (l:=y) (i:=n) (x:=z) (by omega);rw [<-hd] at aU;have aQ:=fun (hp:Hp) (ct:Nat)=>kH (hp:=hp) (ct:=ct) (id:=0) (v:=z) (ex:=true) (l:=pre++y++post) (o:=pre.length+n) (by rw [oE];omega)
 have nM:=Mh (pre:=pre) (x:=y) (post:=post) (i:=n) z (by omega);have Dy:lo 18446744073709551616 (y.set n z):=me gy FP;have BE:(y.set n z).length=n+1:=by simp [ly]
 have hY:=lD Dy;rw [BE] at hY;have auY:bv 18446744073709551616 (y.set n z)+q*bv 18446744073709551616 vs=bv 18446744073709551616 x+18446744073709551616^(n+1)*b':=by
  have e2:=congrArg (fun t=>18446744073709551616^n*t) fX;rw [y9,xm];simp only [xC] at e2 aI;generalize 18446744073709551616^n*(18446744073709551616*b')=p1 at*
  generalize 18446744073709551616^n*z=p2 at*
  generalize 18446744073709551616^n*d=p3 at*
  generalize 18446744073709551616^n*c=p4 at*
  generalize 18446744073709551616^n*bo=p5 at*
  omega
 obtain ⟨s0,s1⟩:=step_end hV auY ff FR hY (by omega) jj;simp only [go_sem,ya,yc,yE,yj,pR,mg,mO,ma,lX,su,wZ,aE hw.pu,t0,t1,t5,t6,t11,t12,cU 0 pre.length (show n<n+1 by omega),ey,f3,aQ,nM];by_cases kZ:b'=0
 ·obtain ⟨e1,e2⟩:=s0 kZ;simp only [go_sem,ya,show (b':Int)=0 by omega];exact ⟨_,y.set n z,rfl,by rw [<-e1];simp only [go_sem],BE,Dy,e2⟩
 ·obtain ⟨e1,e2⟩:=s1 (by omega);simp only [go_sem,ya,show ¬(b':Int)=0 by omega];generalize C4:D P L (.loop [0,1,5,6,17,156,157] Ic) _=Vx;obtain ⟨ex,s,rfl,nV,c2,y2,rfl,rfl,t0,t5,t6,t17,Vz,Pa,r5,atu⟩:=bI C4 (aq4 (P:=P) (L:=L) h.gG hw px hl.lv hl.gv (y0:=y.set n z) (pre:=pre) (post:=post) (qs:=qs) (q:=q) n) ⟨0,0,y.set n z,by
   rw [pR (by simp only [go_sem,ya,yE,mg,mO,ma,lX,su,wZ]) (by simp only [go_sem,ya,yc,yE,aE hw.pu])]
   simp only [go_sem,ya]<;>rfl,by omega,BE,Dy,by omega,by simp [bv]⟩
  have auZ:=gC df Pa n;have VA:=zf (l:=pre++y2++post) (o:=pre.length+n) (by rw [oE];omega);rw [Cb (by omega)] at VA;obtain ⟨d2,gT⟩:∃d,d=y2.getD n 0:=⟨_,rfl⟩;rw [<-gT] at auZ VA;have f4:=AT d2 c2;have M0:=nE (b:=18446744073709551616) (l:=y2) (i:=n) (x:=(d2+c2)%18446744073709551616) (by omega);rw [<-gT] at M0;have jk:=Lj (18446744073709551616^n) 18446744073709551616 (d2+c2);have au0:(d2+c2)%18446744073709551616<18446744073709551616:=xE _ df;have hc3:(d2+c2)/18446744073709551616<=1:=by omega
  generalize (d2+c2)%18446744073709551616=z2 at*
  generalize (d2+c2)/18446744073709551616=c3 at*
  have N5:=fun (hp:Hp) (ct:Nat)=>kH (hp:=hp) (ct:=ct) (id:=0) (v:=z2) (ex:=true) (l:=pre++y2++post) (o:=pre.length+n) (by rw [oE];omega)
  have M1:=Mh (pre:=pre) (x:=y2) (post:=post) (i:=n) z2 (by omega);have Pb:lo 18446744073709551616 (y2.set n z2):=me Pa au0;have Kw:(y2.set n z2).length=n+1:=by simp [Vz]
  have hY3:=lD Pb;rw [Kw] at hY3;have bf:0<q:=by rw [e1];exact Nat.succ_pos _
  have hq3:bv 18446744073709551616 x/bv 18446744073709551616 vs=q-1:=by rw [e1,Nat.add_sub_cancel]
  have f5:binOp .sub (uc q) (.int .u64 1)=some (uc (q-1)):=C3 (b:=1) (by omega) (by omega);simp only [go_sem,ya,yc,yE,yj,pR,mg,mO,ma,lX,wZ,t0,t5,t6,t17,cU 0 pre.length (show n<n+1 by omega),VA,f4,N5,M1,f5];refine ⟨_,y2.set n z2,rfl,by rw [hq3];simp only [go_sem],Kw,Pb,?_⟩;have e3:bv 18446744073709551616 (y2.set n z2)+18446744073709551616^(n+1)*c3=18446744073709551616^(n+1)+bv 18446744073709551616 x%bv 18446744073709551616 vs:=by
   rw [<-e2,<-atu,y9];rw [xC] at jk;omega
  rcases (show c3=0\/c3=1 by omega) with rfl | rfl
  ·omega
  ·omega
def au1 (h:Wd P L) {w:AV} {x vs pre post qs:List Nat} (hw:bB w vs) {n v1 v2 u0 u1 u2:Nat} (hl:gQ x vs n v1 v2 u0 u1 u2):
  ∃x',iC P L (D P L) (H2 qs (pre++x++post)) 2 169 [.ay 0 pre.length (n+1),w]=some (uc (bv 18446744073709551616 x/bv 18446744073709551616 vs),H2 qs (pre++x'++post),2)/\x'.length=n+1/\lo 18446744073709551616 x'/\bv 18446744073709551616 x'=bv 18446744073709551616 x%bv 18446744073709551616 vs:=by
 have dn:=hl.n2;have px:=hl.nb;have su:below 2 w:=pL hw.pu;have pC:(n:Int)-1=((n-1:Nat):Int):=by omega
 have eP:=hw.bn (i:=n-1) (by have:=hl.lv;omega);rw [hl.dY] at eP;have BF:=zf (l:=pre++x++post) (o:=pre.length+n) (by rw [oE];have:=hl.lx;omega)
 rw [Cb (by have:=hl.lx;omega),hl.h0] at BF;have BG:=zf (l:=pre++x++post) (o:=pre.length+(n-1)) (by rw [oE];have:=hl.lx;omega)
 rw [Cb (by have:=hl.lx;omega),hl.h1] at BG;have E4:=hl.Ks;have N6:=hl.Kt;have nN:=hl.top;have jd:∃tm x',D P L rz.body ⟨eh 0 [.ay 0 pre.length (n+1),w],H2 qs (pre++x++post),2,2⟩=some (.ret,⟨tm,H2 qs (pre++x'++post),2,2⟩)/\aj tm 4=uc (bv 18446744073709551616 x/bv 18446744073709551616 vs)/\x'.length=n+1/\lo 18446744073709551616 x'/\bv 18446744073709551616 x'=bv 18446744073709551616 x%bv 18446744073709551616 vs:=by
  have behind:∀(iL:Env) (q:Nat),aj iL 0= .ay 0 pre.length (n+1)->aj iL 1=w->aj iL 5=aa n->aj iL 6=uc q->q<18446744073709551616->bv 18446744073709551616 x/bv 18446744073709551616 vs<=q->q<=bv 18446744073709551616 x/bv 18446744073709551616 vs+1->
    ∃tm x',mR P L (mR P L (zd 0 (some (Ex.exit 0,⟨iL,H2 qs (pre++x++post),2,2⟩))) (.kp [0,1,5,6])) (aw (aw (aw (aw (aw (aw rz.body))))))=some (.ret,⟨tm,H2 qs (pre++x'++post),2,2⟩)/\aj tm 4=uc (bv 18446744073709551616 x/bv 18446744073709551616 vs)/\x'.length=n+1/\lo 18446744073709551616 x'/\bv 18446744073709551616 x'=bv 18446744073709551616 x%bv 18446744073709551616 vs:=by
   intro iL q t0 t1 t5 t6 g1 g2 g3;have hk:cK iL [0,1,5,6]=[(0,.ay 0 pre.length (n+1)),(1,w),(5,aa n),(6,uc q)]:=by simp only [go_sem,t0,t1,t5,t6]
   rw [Q4,fF,Tm,pR (by rw [hk];simp only [go_sem,yE,mg,mO,ma,lX,su,wZ]) (by rw [hk];simp only [go_sem,yc,yE,aE hw.pu]),fF,hk];exact aq5 h hw hl g1 g2 g3
  by_cases hc:u0<v1
  ·have f1:=adu h.adz h.JH (P:=P) (L:=L) hc N6 E4;have fg:=wb (u0*18446744073709551616+u1) v1;have lM:=xE (u0*18446744073709551616+u1) hl.pos;have oc:(u0*18446744073709551616+u1)/v1<18446744073709551616:=by
    refine (wu hl.pos).2 ?_
    have:=yS 18446744073709551616 (show u0+1<=v1 from hc)
    rw [xA 18446744073709551616 v1];omega
   have MB:=hl.first;rw [xA] at fg;generalize (u0*18446744073709551616+u1)/v1=q0 at*
   generalize (u0*18446744073709551616+u1)%v1=r0 at*
   simp only [go_sem,ya,yj,rz,H2,hw.len,hl.lv,pC,wrapN (n:=n-1) (by omega),eP,cU 0 pre.length (show n<n+1 by omega),cU 0 pre.length (show n-1<n+1 by omega),BF,BG,show ¬(v1:Int)<=(u0:Int) by omega,f1];generalize kI:D P L (.loop [0,1,5,6,7,8] sY) _=qq;obtain ⟨ex,s,rfl,iL,q,rfl,rfl,t0,t1,t5,t6,g1,g2,g3⟩:=bI kI (aa7 (P:=P) (L:=L) h.mw h.gG hw hl (pre:=pre) (post:=post) (qs:=qs) q0) ⟨q0,r0,by
    rw [pR (by simp only [go_sem,ya,yE,mg,mO,ma,lX,su,wZ]) (by simp only [go_sem,ya,yc,yE,aE hw.pu])];rw [yL (show r0<18446744073709551616 by omega),xO (show r0<18446744073709551616 by omega)]
    simp only [go_sem,ya]<;>rfl,fg,by omega,oc,MB,rfl⟩
   exact behind iL q t0 t1 t5 t6 g1 g2 g3
  ·have n8:u0=v1:=by omega
   have f1:=Ct (P:=P) (f:=D P L) h.gG N6 E4 (c:=0) (by omega);rw [yW,show (uc 0)=AV.int .u64 0 from rfl] at f1;have N7:=hl.digit
   simp only [go_sem,ya,yj,rz,H2,hw.len,hl.lv,pC,wrapN (n:=n-1) (by omega),eP,cU 0 pre.length (show n<n+1 by omega),cU 0 pre.length (show n-1<n+1 by omega),BF,BG,show (v1:Int)<=(u0:Int) by omega,f1];generalize kI:D P L (.loop [0,1,5,6,7,8] sY) _=qq;obtain ⟨ex,s,rfl,iL,q,rfl,rfl,t0,t1,t5,t6,g1,g2,g3⟩:=bI kI (aa7 (P:=P) (L:=L) h.mw h.gG hw hl (pre:=pre) (post:=post) (qs:=qs) 18446744073709551615) ⟨18446744073709551615,u1+v1,by
    rw [pR (by simp only [go_sem,ya,yE,mg,mO,ma,lX,su,wZ]) (by simp only [go_sem,ya,yc,yE,aE hw.pu])]
    simp only [go_sem,ya]<;>rfl,by rw [n8];omega,by omega,by decide,by omega,rfl⟩
   exact behind iL q t0 t1 t5 t6 g1 g2 g3
 obtain ⟨tm,x',g1,g2,g3,g4,g5⟩:=jd;refine ⟨x',?_,g3,g4,g5⟩;exact HR h.auV g1 (.inr rfl) (by show gY _ [RV.t 4]=_;rw [JB,IU,g2])
end
def WN (v:AV) (m:Nat):Prop:=∃l,bB v l/\lo 18446744073709551616 l/\gI l/\bv 18446744073709551616 l=m
def amh (i:Nat) (q:List Nat) (x:Nat):(yC (i+1) 0++q).set i x=yC i 0++x::q:=by
 rw [List.replicate_succ',xr]
 simp_all
def Mi {b:Nat} {l:List Nat} {i:Nat} (h:i<l.length):bv b (l.drop i)=l.getD i 0+b*bv b (l.drop (i+1)):=by
 rw [yO h,gd h];rfl
def RS {v w:AV} {x y:List Nat} (hv:bB v x) (hw:bB w y) (hp:Hp):result hp (.ap [v,w])=some (.ap [v,w]):=by
 rcases hv with ⟨rfl,_⟩ | ⟨e,rfl⟩<;>rcases hw with ⟨rfl,_⟩ | ⟨e',rfl⟩<;>rfl
def aoF {hp:Hp} {id n l h:Nat} {pu ex:Bool} {cs:List AV} {tm:Env} {x y:X} (hg:an hp id=some (.cells true pu ex 1 cs)) (hx:cC tm 0 (some x)=some l) (hy:cC tm n (some y)=some h) (h1:l<h) (h2:h<=n):
  fB hp (.sl 1) (.ay id 0 n) tm (some x) (some y)=some (.ay id l (h-l)):=by
 simp only [fB,hg,hx,hy,yy (Nat.le_of_lt h1),yy h2,xG,wQ,yx,cd (Nat.ne_of_lt h1),wN,yH,yf,yj]
def Zq {hp:Hp} {id n h:Nat} {pu ex:Bool} {cs:List AV} {tm:Env} {y:X} (hg:an hp id=some (.cells true pu ex 1 cs)) (hy:cC tm n (some y)=some h) (h1:0<h) (h2:h<=n):
  fB hp (.sl 1) (.ay id 0 n) tm none (some y)=some (.ay id 0 h):=by
 have hx:cC tm 0 none=some 0:=rfl;simp only [fB,hg,hx,hy,yy (tu h),yy h2,xG,wQ,yx,cd (show (0:Nat)≠h by omega),wN,yH,wU,yW,Nat.sub_zero]
def acr (P:aG) (L:Lib) (f:cw) (hp:Hp) (ct n:Nat) (xs:List AV):dA P L f hp ct .heap (.fn (.f n) [] []) xs=iC P L f hp ct n xs:=by
 simp only [dA,xX,xW]
section
variable {P:aG} {L:Lib}
def aq6 (h:Wd P L) {v w:AV} {x:List Nat} (hv:bB v x) (hx:lo 18446744073709551616 x) (lx:x.length<=99999999999) {d:Nat} (hw:bB w [d]) (fW:0<d) (VB:d<18446744073709551616) {n:Nat} (hn:n=x.length):
  ∀k s,(∃(i r:Nat) (q:List Nat),aM [0,1,6,7,8] s=⟨[(0,v),(1,w),(6,.ay 0 0 n),(7,uc r),(8,aa ((i:Int)-1))],[(0,.cells true true true 1 ((yC i 0++q).map uc))],1,0⟩/\i=k/\i+q.length=n/\lo 18446744073709551616 q/\r<d/\bv 18446744073709551616 (x.drop i)=bv 18446744073709551616 q*d+r)->
   ∃ex s',D P L (.loop [0,1,6,7,8] H7) s=some (ex,s')/\∃tm r q,s'=⟨tm,[(0,.cells true true true 1 (q.map uc))],1,0⟩/\ex= .exit 0/\aj tm 6= .ay 0 0 n/\aj tm 7=uc r/\q.length=n/\lo 18446744073709551616 q/\r<d/\bv 18446744073709551616 x=bv 18446744073709551616 q*d+r:=by
 intro dq sq;generalize bf:aM [0,1,6,7,8] sq=s0;revert bf s0 sq dq;apply dh;rintro k s ⟨i,r,q,rfl,rfl,hlen,aZ,hr,aI⟩
 cases i with
 | zero=>
  right
  simp only [go_sem,ya,H7,show ¬(0:Int)<=((0:Nat):Int)-1 by omega];exact ⟨_,_,rfl,by simp,_,r,q,rfl,rfl,by simp only [go_sem,ya],by simp only [go_sem,ya],by omega,aZ,hr,by simpa using aI⟩
 | succ i=>
  left
  have gx:=gC (show 0<18446744073709551616 by decide) hx i;have e1:=hv.bn (i:=i) (by omega);have e2:=hw.bn (i:=0) (by simp);have ir:=Mi (b:=18446744073709551616) (l:=x) (i:=i) (by omega);rw [show ([d]:List Nat).getD 0 0=d from rfl] at e2;generalize x.getD i 0=a at*
  have e3:=adu (P:=P) (L:=L) h.adz h.JH hr gx VB;have fg:=wb (r*18446744073709551616+a) d;have lM:=xE (r*18446744073709551616+a) fW;have oc:(r*18446744073709551616+a)/d<18446744073709551616:=by
   refine (wu fW).2 ?_;omega
  generalize (r*18446744073709551616+a)/d=q1 at*
  generalize (r*18446744073709551616+a)%d=r1 at*
  have aQ:=fun (hp:Hp) (ct:Nat)=>kH (hp:=hp) (ct:=ct) (id:=0) (v:=q1) (ex:=true) (l:=yC (i+1) 0++q) (o:=i) (by simp;omega)
  simp only [go_sem,ya,yj,H7,show ((i+1:Nat):Int)-1=(i:Int) by omega,show (0:Int)<=(i:Int) by omega,e1,e2,e3,cU 0 0 (show i<n by omega),yf,aQ,amh];refine ⟨_,i,rfl,by omega,i,r1,q1::q,?_,rfl,by simp;omega,LA.2 ⟨Er.2 oc,aZ⟩,lM,?_⟩
  ·rw [wrap64 (by omega) (by omega)];simp only [go_sem,ya,yc,ax,aE hv.pu,aH _ hv.pu,aE hw.pu,aH _ hw.pu]<;>rfl
  ·rw [ir,aI];simp only [bv];rw [we,xC,<-xm 18446744073709551616];rw [xA d q1] at fg;omega
def aj0 {s u u1:Nat} (hs:s<64) (hu:u<18446744073709551616):u/2^s<18446744073709551616/\(0<s->u/2^s|||(u1*2^(64-s)%18446744073709551616)<18446744073709551616)/\
  (if 0<s then (u/2^s|||(u1*2^(64-s)%18446744073709551616)) else u/2^s)*2^s+u%2^s=u+18446744073709551616*(u1%2^s):=by
 have e:18446744073709551616=2^s*2^(64-s):=by rw [<-xP,show s+(64-s)=64 by omega]
 have h1:u1*2^(64-s)%18446744073709551616=(u1%2^s)*2^(64-s):=by rw [e,tE]
 have hp:=xt s;have h2:u/2^s<2^(64-s):=by
  refine (wu hp).2 ?_
  grind
 have h3:u/2^s|||(u1*2^(64-s)%18446744073709551616)=(u1%2^s)*2^(64-s)+u/2^s:=by rw [h1,Nat.or_comm,RR h2]
 have h4:(u1%2^s)*2^(64-s)+u/2^s<18446744073709551616:=by
  have:=yS (2^(64-s)) (show u1%2^s+1<=2^s from xE _ hp)
  grind
 have h5:=Nat.mod_add_div u (2^s)
 grind
def aq7 {us qs:List Nat} {n la m s:Nat} (hs:s<64) (lu:us.length=la) (gu:lo 18446744073709551616 us) (hn:n<la) (Kx:la<=100000000000):
  ∀k st,(∃(i:Nat) (rs:List Nat),aM [9,11,12,13,96,97] st=⟨[(9,aa s),(11,.ay 0 0 la),(12,aa n),(13,.ay 1 0 m),(96,aa n),(97,aa i)],H2 qs (rs++us.drop i),2,0⟩/\i+k=n/\rs.length=i/\lo 18446744073709551616 rs/\bv 18446744073709551616 rs*2^s+us.getD 0 0%2^s=bv 18446744073709551616 (us.take i)+18446744073709551616^i*(us.getD i 0%2^s))->
   ∃ex st',D P L (.loop [9,11,12,13,96,97] Ef) st=some (ex,st')/\∃tm rs,st'=⟨tm,H2 qs (rs++us.drop n),2,0⟩/\ex= .exit 4/\aj tm 11= .ay 0 0 la/\aj tm 12=aa n/\aj tm 13= .ay 1 0 m/\rs.length=n/\lo 18446744073709551616 rs/\bv 18446744073709551616 rs*2^s+us.getD 0 0%2^s=bv 18446744073709551616 (us.take n)+18446744073709551616^n*(us.getD n 0%2^s):=by
 intro dq sq;generalize bf:aM [9,11,12,13,96,97] sq=s0;revert bf s0 sq dq;apply dh;rintro k st ⟨i,rs,rfl,hk,lr,gr,aI⟩;by_cases hi:i<n
 ·left
  have df:(0:Nat)<18446744073709551616:=by decide
  have g0:=gC df gu i;have g1:=gC df gu (i+1);have d0:us.drop i=us.getD i 0::us.getD (i+1) 0::us.drop (i+2):=by
   rw [yO (show i<us.length by omega),yO (show i+1<us.length by omega),gd,gd]
  have dz:=iW (b:=18446744073709551616) (l:=us) i;have jc:∀r,r<18446744073709551616->r*2^s+us.getD i 0%2^s=us.getD i 0+18446744073709551616*(us.getD (i+1) 0%2^s)->lo 18446744073709551616 (rs++[r])/\bv 18446744073709551616 (rs++[r])*2^s+us.getD 0 0%2^s=bv 18446744073709551616 (us.take (i+1))+18446744073709551616^(i+1)*(us.getD (i+1) 0%2^s):=fun r h1 h2=>by
   refine ⟨LA.2 ⟨gr,Er.2 h1⟩,?_⟩;rw [qO,AG,lr,dz,we,y9,xm,xm];have e2:=congrArg (fun t=>18446744073709551616^i*t) h2;simp only [xC] at e2;generalize 18446744073709551616^i*(r*2^s)=p1 at*
   generalize 18446744073709551616^i*(us.getD i 0%2^s)=p2 at*
   generalize 18446744073709551616^i*us.getD i 0=p3 at*
   generalize 18446744073709551616^i*(18446744073709551616*(us.getD (i+1) 0%2^s))=p4 at*
   omega
  have TA:us.drop (i+1)=us.getD (i+1) 0::us.drop (i+2):=by
   rw [yO (show i+1<us.length by omega),gd]
  generalize us.getD i 0=a at*
  obtain ⟨c,hc⟩:∃c,c=us.getD (i+1) 0:=⟨_,rfl⟩;rw [<-hc] at g1 d0 TA jc;generalize us.drop (i+2)=dr at*
  rw [d0];obtain ⟨n1,n2,n3⟩:=aj0 (u1:=c) hs g0;have o1:=JG .i64 a (s:=s) (by omega);have o2:=JF .i64 c (s:=64-s) (by omega);have o3:binOp .sub (.int .i64 64) (aa s)=some (aa (64-s:Nat)):=by
   rw [Mf,wrap64 (by omega) (by omega)];congr 2;omega
  have o4:=O7 n1 (xE (c*2^(64-s)) df);have sa:∀z y,(rs++z::y).set i a=rs++a::y:=fun z y=>by rw [yay _ _ (by omega),lr];simp
  have e0:∀z y,vH i ((rs++z::y).map uc)=uc z::y.map uc:=fun z y=>by
   rw [xu,tr (by simp [lr])];rfl
  have e1:∀z y u,vH (i+1) ((rs++z::y::u).map uc)=uc y::u.map uc:=fun z y u=>by
   rw [show rs++z::y::u=(rs++[z])++y::u by simp,xu,tr (by simp [lr])];rfl
  have Fu:∀(hp:Hp) (ct x z:Nat) (y:List Nat),gW hp ct 0 i 1 [.int .u64 (x:Int)] (some (.cells true true true 1 ((rs++z::y).map uc)))=some (.ap [],aU hp 0 (.cells true true true 1 ((rs++x::y).map uc)),ct):=fun hp ct x z y=>by
   rw [kH (by simp;omega),yay _ _ (by omega),lr];simp
  by_cases h0:0<s
  ·rw [yM h0] at n3;obtain ⟨f1,f2⟩:=jc _ (n2 h0) n3;generalize a/2^s=a1 at*
   generalize a1|||(c*2^(64-s)%18446744073709551616)=r at*
   simp only [go_sem,ya,yj,Ef,H2,show (i:Int)<(n:Int) by omega,cU 0 0 (show i<la by omega),yf,e0,o1,Fu,show (0:Int)<(s:Int) by omega,show (i:Int)+1=((i+1:Nat):Int) from rfl,wrapN (n:=i+1) (by omega),show ((i+1:Nat):Int)<(la:Int) by omega,cU 0 0 (show i+1<la by omega),e1,o3,o2,o4];refine ⟨_,k-1,rfl,by omega,i+1,rs++[r],by simp only [go_sem,ya,yc,ax];rw [TA];simp,by omega,by simp [lr],f1,by rw [<-hc];exact f2⟩
  ·rw [yB h0] at n3;obtain ⟨f1,f2⟩:=jc _ n1 n3;generalize a/2^s=a1 at*
   simp only [go_sem,ya,yj,Ef,H2,show (i:Int)<(n:Int) by omega,cU 0 0 (show i<la by omega),yf,e0,o1,Fu,show ¬(0:Int)<(s:Int) by omega,show (i:Int)+1=((i+1:Nat):Int) from rfl,wrapN (n:=i+1) (by omega)];refine ⟨_,k-1,rfl,by omega,i+1,rs++[a1],by simp only [go_sem,ya,yc,ax];rw [TA];simp,by omega,by simp [lr],f1,by rw [<-hc];exact f2⟩
 ·right
  have:i=n:=by omega
  subst this;simp only [go_sem,ya,Ef,H2,show ¬(i:Int)<(i:Int) by omega];exact ⟨_,_,rfl,by simp,_,rs,rfl,rfl,by simp only [go_sem,ya],by simp only [go_sem,ya],by simp only [go_sem,ya],lr,gr,aI⟩
end
def Yu {b p A V bu bq0 U0 pre:Nat} (h1:bu=pre+p*A) (h2:bu+bq0*V=U0):(pre+p*(A%V))+(bq0+p*(A/V))*V=U0:=by
 have fg:=wb A V
 grind
def atv (hp:Hp) (ct:Nat) (ex:Bool) (sz n:Nat) (cs:List AV):own hp ct (.cf ex sz n cs)=(.ay ct 0 n,(ct,.cells true true ex sz cs)::hp,ct+1):=rfl
section
variable {P:aG} {L:Lib}
def aq8 (h:Wd P L) {w:AV} {vs:List Nat} (hw:bB w vs) (gv:lo 18446744073709551616 vs) {n la m:Nat} (lv:vs.length=n) (dn:2<=n) (J8:n<=la) (Kx:la<=99999999999) (hm:m=la-n+1) (dY:0<vs.getD (n-1) 0) {s U0:Nat}:
  ∀k st,(∃(j:Nat) (us qs:List Nat),aM [9,10,11,12,13,14] st=⟨[(9,aa s),(10,w),(11,.ay 0 0 (la+1)),(12,aa n),(13,.ay 1 0 m),(14,aa ((j:Int)-1))],H2 qs us,2,0⟩/\j=k/\j<=m/\us.length=la+1/\qs.length=m/\lo 18446744073709551616 us/\lo 18446744073709551616 qs/\(∀i,i<j->qs.getD i 0=0)/\
    bv 18446744073709551616 us+bv 18446744073709551616 qs*bv 18446744073709551616 vs=U0/\bv 18446744073709551616 (us.drop j)<bv 18446744073709551616 vs)->
   ∃ex st',D P L (.loop [9,10,11,12,13,14] H8) st=some (ex,st')/\∃tm us qs,st'=⟨tm,H2 qs us,2,0⟩/\ex= .exit 2/\aj tm 9=aa s/\aj tm 11= .ay 0 0 (la+1)/\aj tm 12=aa n/\aj tm 13= .ay 1 0 m/\us.length=la+1/\qs.length=m/\lo 18446744073709551616 us/\lo 18446744073709551616 qs/\
    bv 18446744073709551616 us+bv 18446744073709551616 qs*bv 18446744073709551616 vs=U0/\bv 18446744073709551616 us<bv 18446744073709551616 vs:=by
 intro dq sq;generalize bf:aM [9,10,11,12,13,14] sq=s0;revert bf s0 sq dq;apply dh;rintro k st ⟨j,us,qs,rfl,rfl,hj,lu,lq,gu,gq,hz,aI,nN⟩
 cases j with
 | zero=>
  right
  simp only [go_sem,ya,H8,H2,show ¬(0:Int)<=((0:Nat):Int)-1 by omega];exact ⟨_,_,rfl,by simp,_,us,qs,rfl,rfl,by simp only [go_sem,ya],by simp only [go_sem,ya],by simp only [go_sem,ya],by simp only [go_sem,ya],lu,lq,gu,gq,aI,by simpa using nN⟩
 | succ j=>
  left
  have df:(0:Nat)<18446744073709551616:=by decide
  obtain ⟨pre,eU⟩:∃p,p=us.take j:=⟨_,rfl⟩;obtain ⟨x,hx⟩:∃p,p=(us.drop j).take (n+1):=⟨_,rfl⟩;obtain ⟨post,gi⟩:∃p,p=us.drop (j+(n+1)):=⟨_,rfl⟩;have lp:pre.length=j:=by rw [eU,yT];omega
  have lx:x.length=n+1:=by rw [hx,yT,xN];omega
  have j9:us=pre++x++post:=by
   rw [eU,hx,gi,<-vN,xr,wa,wa]
  have gx:lo 18446744073709551616 x:=by rw [hx];exact sT (aah gu _) _
  have TB:lo 18446744073709551616 pre:=by rw [eU];exact sT gu _
  have atw:lo 18446744073709551616 post:=by rw [gi];exact aah gu _
  have hA:bv 18446744073709551616 (us.drop j)=us.getD j 0+18446744073709551616*bv 18446744073709551616 (us.drop (j+1)):=Mi (by omega);have hgj:=gC df gu j;have VD:us.drop j=x++post:=by rw [gi,hx,<-vN,wa]
  have zW:bv 18446744073709551616 (us.drop j)=bv 18446744073709551616 x+18446744073709551616^(n+1)*bv 18446744073709551616 post:=by rw [VD,qO,lx]
  have Kv:=lD gv;rw [lv] at Kv;have aP:bv 18446744073709551616 (us.drop j)<18446744073709551616*bv 18446744073709551616 vs:=by omega
  have hp0:bv 18446744073709551616 post=0:=by
   rcases xn (bv 18446744073709551616 post) with e | e
   ·exact e
   ·have h1:=yU (18446744073709551616^(n+1)) e;rw [yj,y9] at h1;rw [y9] at zW;omega
  rw [hp0,xx,yW] at zW;have hl:gQ x vs n (vs.getD (n-1) 0) (vs.getD (n-2) 0) (x.getD n 0) (x.getD (n-1) 0) (x.getD (n-2) 0):=
   ⟨dn,by omega,lx,lv,gx,gv,rfl,rfl,rfl,rfl,rfl,dY,by rw [<-zW];exact aP⟩
  have N7:=hl.digit;obtain ⟨x',e1,VF,Pc,Ky⟩:=au1 h hw hl (pre:=pre) (post:=post) (qs:=qs);rw [lp,<-j9] at e1;have VG:bv 18446744073709551616 us=bv 18446744073709551616 pre+18446744073709551616^j*bv 18446744073709551616 x:=by
   have:=Hx (b:=18446744073709551616) us j (by omega)
   rw [zW,<-eU] at this;exact this
  have TC:bv 18446744073709551616 (pre++x'++post)=bv 18446744073709551616 pre+18446744073709551616^j*bv 18446744073709551616 x':=by
   rw [xr,qO,qO,hp0,xx,yW,lp]
  have aU:=nE (b:=18446744073709551616) (l:=qs) (i:=j) (x:=bv 18446744073709551616 x/bv 18446744073709551616 vs) (by omega);rw [hz j (by omega),xx,yW] at aU;have jc:=Yu (b:=0) VG aI;have aQ:=fun (hp:Hp) (ct:Nat)=>kH (hp:=hp) (ct:=ct) (id:=1) (v:=bv 18446744073709551616 x/bv 18446744073709551616 vs) (ex:=true) (l:=qs) (o:=j) (by omega)
  have qw:0<bv 18446744073709551616 vs:=by omega
  have lM:=xE (bv 18446744073709551616 x) qw;have lL:∀tm (x y:X),cC tm 0 (some x)=some j->cC tm (la+1) (some y)=some (j+n+1)->fB (H2 qs us) (.sl 1) (.ay 0 0 (la+1)) tm (some x) (some y)=some (.ay 0 j (n+1)):=fun tm x y h1 h2=>by
   rw [aoF (cs:=us.map uc) (pu:=true) (ex:=true) rfl h1 h2 (by omega) (by omega),show j+n+1-j=n+1 by omega]
  simp only [go_sem,ya,yj,H8,H2,show ((j+1:Nat):Int)-1=(j:Int) by omega,show (0:Int)<=(j:Int) by omega,show (j:Int)+(n:Int)=((j+n:Nat):Int) from rfl,wrapN (n:=j+n) (by omega),show ((j+n:Nat):Int)+1=((j+n+1:Nat):Int) from rfl,wrapN (n:=j+n+1) (by omega),lL,dH,acr,e1,cU 1 0 (show j<m by omega),yf,aQ];refine ⟨_,j,rfl,by omega,j,pre++x'++post,qs.set j (bv 18446744073709551616 x/bv 18446744073709551616 vs),?_,rfl,by omega,by rw [oE,lp,VF,gi,xN];omega,by simp [lq],LA.2 ⟨LA.2 ⟨TB,Pc⟩,atw⟩,me gq N7,fun i hi=>by rw [oD (by omega)];exact hz i (by omega),?_,?_⟩
  ·rw [wrap64 (by omega) (by omega)];simp only [go_sem,ya,yc,ax,aE hw.pu,aH _ hw.pu]<;>rfl
  ·rw [TC,Ky,aU];exact jc
  ·rw [xr,tr lp,qO,hp0,xx,yW,Ky];exact lM
def atx {l:List Nat} {n:Nat} (h:l.length=n+1):18446744073709551616^n*l.getD n 0<=bv 18446744073709551616 l:=by
 have:=iW (b:=18446744073709551616) (l:=l) n
 grind
def mX {m K:Nat} {l:List Nat} (hn:gI l) (hv:bv 18446744073709551616 l=m) (h:m<18446744073709551616^K):l.length<=K:=ajd (b:=18446744073709551616) (by decide) hn (by rw [hv];exact h)
def aq9 (h:Wd P L) {v w:AV} {x:List Nat} {d:Nat} (hv:bB v x) (hw:bB w [d]) (gx:lo 18446744073709551616 x) (lx:x.length<=90000000000) (fW:0<d) (VB:d<18446744073709551616) (ec:ab P L 158 [v,w] (aa (dP (bv 18446744073709551616 x) d))) (hc:d<=bv 18446744073709551616 x):
  ∃q r,ab P L 137 [v,w] (.ap [q,r])/\WN q (bv 18446744073709551616 x/d)/\WN r (bv 18446744073709551616 x%d):=by
 have ef:¬dP (bv 18446744073709551616 x) d<0:=by unfold dP;rw [yB (by omega)];split<;>decide
 obtain ⟨n,hn⟩:∃n,n=x.length:=⟨_,rfl⟩;have main:∃r l,(∀c:Nat->AV->AV->Option AV,True)/\r<d/\l.length=n/\lo 18446744073709551616 l/\bv 18446744073709551616 x=bv 18446744073709551616 l*d+r/\
   ∃q1 r1,bB q1 (dT l)/\bB r1 (dT [r])/\ab P L 137 [v,w] (.ap [q1,r1]):=by
  unfold ab;rw [aA h.Tz]
  simp only [go_sem,ya,Jc,hv.len,hv.ai,hw.len,hw.ai,ec,ef,yv,yI,yf,show ((1:Nat):Int)=(1:Int) from rfl,<-hn,C2 (n:=n) _ (by omega)];generalize hq:D P L (.loop [0,1,6,7,8] H7) _=q;obtain ⟨ex,s,rfl,tm,r,l,rfl,rfl,t6,t7,po,aZ,hr,aI⟩:=bI hq (aq6 (P:=P) (L:=L) h hv gx (by omega) hw fW VB hn n) ⟨n,0,[],by
   rw [wrap64 (by omega) (by omega),xW]
   simp only [go_sem,ya,yc,ax,aE hv.pu,aH _ hv.pu,aE hw.pu,aH _ hw.pu]<;>rfl,rfl,rfl,Mw,fW,by rw [List.drop_eq_nil_of_le (by omega)];simp [bv]⟩
  have hf:=mL true l;rw [po] at hf;obtain ⟨q1,e1,ff⟩:=A7 h.mv hf (by omega);obtain ⟨r1,e2,bW⟩:=A7 h.mv (mL true [r]) (by simp);simp only [yv,yI,yf,xj,List.map_nil] at e2;refine ⟨r,l,fun _=>trivial,hr,po,aZ,aI,q1,r1,ff,bW,?_⟩
  simp only [go_sem,ya,yc,yE,ym,yj,ax,t6,t7,A6 _ (n:=n) (l:=l) po true,e1,ff.shut,e2,bW.shut];exact RS ff bW _
 obtain ⟨r,l,_,hr,po,aZ,aI,q1,r1,ff,bW,e⟩:=main;have hq:bv 18446744073709551616 l=bv 18446744073709551616 x/d:=by
  rw [aI,xA,yaG fW,xO hr,yW]
 have hm:r=bv 18446744073709551616 x%d:=by
  rw [aI,xA,yaH,yL hr]
 exact ⟨q1,r1,e,⟨_,ff,Aq aZ,Ap _,by rw [Ao,hq]⟩,⟨_,bW,Aq (Er.2 (by omega)),Ap _,by rw [Ao,AG,hm]⟩⟩
def ara (h:Wd P L) {v w:AV} {x y:List Nat} (hv:bB v x) (hw:bB w y) (gx:lo 18446744073709551616 x) (gy:lo 18446744073709551616 y) (nx:gI x) (ny:gI y) (lx:x.length<=90000000000) (ly:2<=y.length) (ec:ab P L 158 [v,w] (aa (dP (bv 18446744073709551616 x) (bv 18446744073709551616 y)))) (hc:bv 18446744073709551616 y<=bv 18446744073709551616 x):
  ∃q r,ab P L 137 [v,w] (.ap [q,r])/\WN q (bv 18446744073709551616 x/bv 18446744073709551616 y)/\WN r (bv 18446744073709551616 x%bv 18446744073709551616 y):=by
 have df:(0:Nat)<18446744073709551616:=by decide
 have ef:¬dP (bv 18446744073709551616 x) (bv 18446744073709551616 y)<0:=by unfold dP;rw [yB (by omega)];split<;>decide
 have hyx:y.length<=x.length:=by
  by_cases hh:x.length<y.length
  ·have:=Me (b:=18446744073709551616) (by decide) gx ny hh;omega
  ·omega
 obtain ⟨n,hn⟩:∃n,n=y.length:=⟨_,rfl⟩;obtain ⟨la,Kx⟩:∃la,la=x.length:=⟨_,rfl⟩;have kP:=Hy ny (fun e=>by subst e;simp at ly);have qD:=gC df gy (y.length-1);have VH:=hw.bn (i:=y.length-1) (by omega);have ji:=atx (l:=y) (n:=n-1) (by omega);rw [<-hn] at kP qD VH;obtain ⟨top,nN⟩:∃top,y.getD (n-1) 0=top:=⟨_,rfl⟩;rw [nN] at kP qD VH ji;have elz:=aa5 (P:=P) (f:=D P L) h.JH qD;obtain ⟨z1,z2,z3⟩:=QK (uJ kP) qD;generalize 64-dw 64 top=s at*
 obtain ⟨ov,ev,lov,gov,vov⟩:=adv h.adA hw gy (by omega) z1;obtain ⟨ou,eu,lou,gou,vou⟩:=adv h.adA hv gx (by omega) z1;obtain ⟨v',VI,ew⟩:=A7 h.mv (mL true ov) (by omega);rw [lov,<-hn] at VI;rw [<-hn] at ev;rw [<-Kx] at eu lou;have jk:=xt s;obtain ⟨vs,zH⟩:∃vs,vs=dT ov:=⟨_,rfl⟩;rw [<-zH] at ew;have Dz:lo 18446744073709551616 vs:=by rw [zH];exact Aq gov
 have Kz:gI vs:=by rw [zH];exact Ap _
 have sA:bv 18446744073709551616 vs=bv 18446744073709551616 y*2^s:=by rw [zH,Ao,vov]
 have hyW:bv 18446744073709551616 y*2^s<18446744073709551616^n:=by
  have e:18446744073709551616=2^(64-s)*2^s:=by rw [<-xP,show 64-s+s=64 by omega]
  have e1:=iW (b:=18446744073709551616) (l:=y) (n-1);rw [show n-1+1=n by omega,yN (by omega),nN] at e1;have e2:=lD (sT gy (n-1));rw [yT,Nat.min_eq_left (by omega)] at e2;have e3:top<2^(64-s):=Nat.lt_of_mul_lt_mul_right (a:=2^s) (Nat.lt_of_lt_of_eq z3 e);have e4:=yS (2^s) (show top+1<=2^(64-s) from e3);rw [<-e] at e4;have e5:bv 18446744073709551616 y<18446744073709551616^(n-1)*(top+1):=by rw [xC,yj];omega
  have e6:=xZ e5 jk;rw [xm] at e6;have e7:=yU (18446744073709551616^(n-1)) e4;rw [<-y9,show (n-1).succ=n by omega] at e7;exact yA e6 e7
 have au2:18446744073709551616^(n-1)*2^s<=bv 18446744073709551616 vs:=by
  rw [sA];refine yS _ (xg ?_ ji)
  have:=yU (18446744073709551616^(n-1)) (show 1<=top by omega)
  omega
 have zX:vs.length=n:=by
  have h1:vs.length<=n:=by
   refine mX Kz sA ?_;exact hyW
  have h2:¬vs.length<n:=fun hh=>by
   have e1:=lD Dz;have e2:18446744073709551616^vs.length<=18446744073709551616^(n-1):=yV df (by omega);have e3:=yS (2^s) ji;rw [xm,<-sA] at e3;have e4:=yU (18446744073709551616^(n-1)) (show 1<=top*2^s by omega);omega
  omega
 have dY:0<vs.getD (n-1) 0:=by
  have:=Hy Kz (fun e=>by rw [e] at zX;simp at zX;omega)
  rw [zX] at this;exact uJ this
 obtain ⟨m,hm⟩:∃m,m=la-n+1:=⟨_,rfl⟩;have Sz:bv 18446744073709551616 (ou.drop m)<bv 18446744073709551616 vs:=by
  have e1:=Hx (b:=18446744073709551616) ou m (by omega);have e2:=lD gx;rw [<-Kx] at e2;have e3:=xZ e2 jk;rw [<-vou] at e3;have e4:18446744073709551616^la=18446744073709551616^m*18446744073709551616^(n-1):=by rw [<-xP];congr 1;omega
  rw [e4,xm] at e3;have e5:18446744073709551616^m*bv 18446744073709551616 (ou.drop m)<18446744073709551616^m*(18446744073709551616^(n-1)*2^s):=by omega
  exact yA (Nat.lt_of_mul_lt_mul_left e5) au2
 have e1y:(y.length:Int)-1=((n-1:Nat):Int):=by omega
 have au3:((la:Nat):Int)-(n:Int)=((m-1:Nat):Int):=by omega
 have jd:∃tm us qs rs,(us.length=la+1/\qs.length=m/\lo 18446744073709551616 us/\lo 18446744073709551616 qs/\bv 18446744073709551616 us+bv 18446744073709551616 qs*bv 18446744073709551616 vs=bv 18446744073709551616 x*2^s/\bv 18446744073709551616 us<bv 18446744073709551616 vs/\
   rs.length=n/\lo 18446744073709551616 rs/\bv 18446744073709551616 rs*2^s+us.getD 0 0%2^s=bv 18446744073709551616 (us.take n)+18446744073709551616^n*(us.getD n 0%2^s))/\aj tm 0=v/\
   ∃q1 r1,bB q1 (dT qs)/\bB r1 (dT rs)/\ab P L 137 [v,w] (.ap [q1,r1]):=by
  unfold ab at ec ev eu VI;unfold ab;rw [aA h.Tz];have hfo:=A6 (n:=n+1) (l:=ov) (hp:=[]) (by omega) true
  simp only [go_sem,ya,yc,Jc,hv.len,hv.ai,hw.len,hw.ai,ec,ef,show ¬(y.length:Int)=1 by omega,e1y,wrapN (n:=n-1) (by omega),VH,elz,ev,atv,A6 _ (n:=n+1) (l:=ov) (by omega) true,VI,ew.len,ew.shut,eu,zX,<-Kx,au3,wrapN (n:=m-1) (by omega),show ((m-1:Nat):Int)+1=(m:Int) by omega,wrapN (n:=m) (by omega),C2 (n:=m) _ (by omega)];generalize kI:D P L (.loop [9,10,11,12,13,14] H8) _=qq;obtain ⟨ex,st,rfl,tm,us,qs,rfl,rfl,t9,t11,t12,t13,Pd,Pe,FT,VJ,aI,aP⟩:=bI kI (aq8 (P:=P) (L:=L) h ew Dz zX (by omega) (by omega) (by omega) hm dY (s:=s) (U0:=bv 18446744073709551616 x*2^s) m) ⟨m,ou,yC m 0,by
   rw [show ((m-1:Nat):Int)=(m:Int)-1 by omega]
   simp only [go_sem,ya,yc,ax,aE ew.pu,aH _ ew.pu]<;>rfl,rfl,yz _,lou,by simp,gou,Es df m,fun i _=>B9 m i,by rw [Et,wU,yW,vou],Sz⟩
  simp only [go_sem,ya,yc,ax,t9,t11,t12,t13];generalize C4:D P L (.loop [9,11,12,13,96,97] Ef) _=Vx;obtain ⟨ex,st,rfl,nV,rs,rfl,rfl,t11,t12,t13,VK,VL,N8⟩:=bI C4 (aq7 (P:=P) (L:=L) (qs:=qs) (m:=m) (la:=la+1) (n:=n) z1 Pd FT (by omega) (by omega) n) ⟨0,[],by simp only [go_sem,ya,yc,ax]<;>rfl,by omega,rfl,Mw,by simp [bv]⟩
  have lL:∀(hp:Hp) tm (y:X),an hp 0=some (.cells true true true 1 ((rs++us.drop n).map uc))->cC tm (la+1) (some y)=some n->fB hp (.sl 1) (.ay 0 0 (la+1)) tm none (some y)=some (.ay 0 0 n):=fun hp tm y h1 h2=>Zq h1 h2 (by omega) (by omega)
  have KA:=mL true qs;rw [Pe] at KA;obtain ⟨q1,f1,ff⟩:=A7 h.mv KA (by omega);have dz:(rs++us.drop n).take n=rs:=by rw [List.take_append_of_le_length (by omega),yN (by omega)]
  have KB:∃e,∀hp:Hp,lK 0 n (some (true,1,(rs++us.drop n).map uc,hp))=some (.aC e n (rs.map uc),hp):=by
   refine ⟨true&&yK 0 1&&yt n ((rs++us.drop n).map uc).length,fun hp=>?_⟩;simp only [lK,yf,yj,slice,yp,<-List.map_take,dz];rw [yy (by simp;omega)];rfl
  obtain ⟨e,KB⟩:=KB;have iv:=mL e rs;rw [VK] at iv;obtain ⟨r1,f2,bW⟩:=A7 h.mv iv (by omega);unfold ab at f1 f2;refine ⟨[(0,v)],us,qs,rs,⟨Pd,Pe,FT,VJ,aI,aP,VK,VL,N8⟩,rfl,q1,r1,ff,bW,?_⟩
  simp only [go_sem,ya,yc,ax,t11,t12,t13,A6 _ (n:=m) (l:=qs) Pe true,f1,ff.shut,lL,dH,KB,f2,bW.shut];exact RS ff bW _
 obtain ⟨tm,us,qs,rs,⟨Pd,Pe,FT,VJ,aI,aP,VK,VL,N8⟩,_,q1,r1,ff,bW,e⟩:=jd;have fO:0<bv 18446744073709551616 y:=by
  have:=yU (18446744073709551616^(n-1)) (show 1<=top by omega)
  have:=yax (n:=n-1) df
  omega
 rw [sA] at aI aP;have JI:bv 18446744073709551616 qs=bv 18446744073709551616 x/bv 18446744073709551616 y:=by
  rw [<-Nat.mul_div_mul_right _ _ jk,<-aI,tf,xA,yaG (Nat.mul_pos fO jk),xO aP,yW]
 have Pf:bv 18446744073709551616 us=(bv 18446744073709551616 x%bv 18446744073709551616 y)*2^s:=by
  rw [<-tE,<-aI,tf,xA (bv _ qs),yaH,yL aP]
 have j9:=Hx (b:=18446744073709551616) us n (by omega);have fW:bv 18446744073709551616 (us.drop n)=0:=by
  rcases xn (bv 18446744073709551616 (us.drop n)) with h0 | h0
  ·exact h0
  ·have:=yU (18446744073709551616^n) h0
   omega
 have hun:us.getD n 0=0:=by
  have:=Mi (b:=18446744073709551616) (l:=us) (i:=n) (by omega)
  omega
 rw [fW,xx,yW] at j9;have BC:us.getD 0 0%2^s=0:=by
  have e1:=Mi (b:=18446744073709551616) (l:=us) (i:=0) (by omega);rw [yp,Pf] at e1;have e2:18446744073709551616=2^s*2^(64-s):=by rw [<-xP,show s+(64-s)=64 by omega]
  have e3:(us.getD 0 0+18446744073709551616*bv 18446744073709551616 (us.drop (0+1)))%2^s=us.getD 0 0%2^s:=by
   conv=>lhs;rw [e2,xm]
   exact Nat.add_mul_mod_self_left _ _ _
  rw [<-e3,<-e1,Nat.mul_mod_left]
 rw [hun,BC,Nat.zero_mod,xx,yW,yW,<-j9,Pf] at N8;have acs:bv 18446744073709551616 rs=bv 18446744073709551616 x%bv 18446744073709551616 y:=Nat.eq_of_mul_eq_mul_right jk N8;exact ⟨q1,r1,e,⟨_,ff,Aq VJ,Ap _,by rw [Ao,JI]⟩,⟨_,bW,Aq VL,Ap _,by rw [Ao,acs]⟩⟩
def adD (h:Wd P L) {v w:AV} {a b K:Nat} (hv:WN v a) (hw:WN w b) (hb:0<b) (ha:a<18446744073709551616^K) (hbK:b<18446744073709551616^K) (hK:K<=90000000000):
  ∃q r,ab P L 137 [v,w] (.ap [q,r])/\WN q (a/b)/\WN r (a%b):=by
 obtain ⟨x,FU,gx,nx,vx⟩:=hv;obtain ⟨y,Pg,gy,ny,vy⟩:=hw;have lx:x.length<=90000000000:=xg (mX nx vx ha) hK;have ly:y.length<=90000000000:=xg (mX ny vy hbK) hK;have ec:=adq h.adB FU Pg gx gy nx ny (by omega) (by omega);subst vx;subst vy;by_cases hc:bv 18446744073709551616 x<bv 18446744073709551616 y
 ·have ef:dP (bv 18446744073709551616 x) (bv 18446744073709551616 y)= -1:=by unfold dP;rw [yM hc]
  rw [ef] at ec;refine ⟨.af,v,?_,⟨[],pQ,Mw,rfl,by rw [xO hc];rfl⟩,⟨x,FU,gx,nx,by rw [yL hc]⟩⟩
  unfold ab;rw [aA h.Tz];simp only [go_sem,ya,Jc,FU.ai,Pg.ai,ec,show (-1:Int)<0 by decide];exact RS pQ FU _
 ·rcases (show y.length=0\/y.length=1\/2<=y.length by omega) with h0 | h1 | h2
  ·rw [yJ h0] at hb;simp [bv] at hb
  ·obtain ⟨d,rfl⟩:∃d,y=[d]:=by
    cases y with
    | nil=>simp at h1
    | cons d r=>cases r with
     | nil=>exact ⟨d,rfl⟩
     | cons e r=>simp at h1
   exact aq9 h FU Pg gx lx hb (Er.1 gy) ec (by omega)
  ·exact ara h FU Pg gx gy nx ny lx h2 ec (by omega)
end
def iT (v:AV) (n:Int):Prop:=∃w l,v= .agg [.bool (decide (n<0)),w]/\a8 w l/\dg l/\nz l/\dv l=n.natAbs
def hZ {l:List Int} {k:Nat} (hd:dg l) (hn:nz l) (h:dv l<1000000000^k):l.length<=k:=by
 by_cases h0:l=[]
 ·grind
 ·have h1:=MV hn hd h0;have h2:1000000000^(l.length-1)<1000000000^k:=xR h1 h;have h3:=(Nat.pow_lt_pow_iff_right (show 1<1000000000 by decide)).1 h2;omega
def eJ {hp:Hp} {ct id:Nat} {a b x y:AV} (h1:bc a=true) (h2:bc b=true) (p1:aV a=true) (p2:aV b=true):
  gW hp ct id 0 2 [a,b] (some (.cells true true true 2 [x,y]))=some (.ap [],aU hp id (.cells true true true 2 [a,b]),ct):=by
 rw [ri (by rfl) (by simp) (by simp [bK,h1,h2])];simp [aF,p1,p2,over]
section
variable {P:aG} {L:Lib}
def bY (neg:Bool) (m:Nat):Int:=if neg=true then -(m:Int) else m
def nO (h:Has P L 294 A2) (cG:Has P L 300 lJ) (neg:Bool) {v:AV} {l:List Int} (hv:a8 v l) (hd:dg l) (hl:l.length<=20000000000):
  ∃r,ab P L 294 [.bool neg,v] r/\iT r (bY neg (dv l)):=by
 obtain ⟨w,e1,hw,jm⟩:=A5 cG hv hl;have pE:=sM l;have BH:=D7 l;have lc:=An hd;have hc:(neg&&decide ((0:Int)<((dS l).length:Nat)))=decide (bY neg (dv l)<0):=by
  unfold bY
  cases neg with
  | false=>simp
  | true=>
   simp only [wP,xB];by_cases h0:dS l=[]
   ·rw [h0] at pE ⊢;simp only [dv] at pE;simp [<-pE]
   ·have h1:0<(dS l).length:=vL.2 h0;have h2:0<dv l:=by
     rw [<-pE];rcases xn (dv (dS l)) with h | h
     ·exact absurd (Q2 BH lc h) h0
     ·exact h
    rw [xp (by omega),xp (by omega)]
 refine ⟨.agg [.bool (decide (bY neg (dv l)<0)),w],?_,w,dS l,rfl,hw,lc,BH,?_⟩
 ·rw [<-hc];unfold ab at e1 ⊢;rw [aA h]
  cases neg with
  | false=>
   simp only [go_sem,ya,yc,ym,A2,aO,hv.ai,e1,hw.pu,hw.shut,hw.one,hw.cells,eJ];rcases hw with ⟨rfl,_⟩ | ⟨e,rfl⟩<;>rfl
  | true=>
   simp only [go_sem,ya,yc,ym,A2,aO,hv.ai,e1,hw.len,hw.pu,hw.shut,hw.one,hw.cells,eJ];rcases hw with ⟨rfl,_⟩ | ⟨e,rfl⟩<;>rfl
 ·rw [pE];unfold bY;split<;>omega
def adE (h:Has P L 298 NO) (gR:Has P L 294 A2) (cG:Has P L 300 lJ) {v:AV} {n:Int} {K:Nat} (hK:K<=20000000000) (hv:iT v n) (hn:n.natAbs<1000000000^K):∃r,ab P L 298 [v] r/\iT r (-n):=by
 obtain ⟨w,l,rfl,hw,hd,hz,pE⟩:=hv;obtain ⟨r,e1,hr⟩:=nO gR cG (!decide (n<0)) hw hd (xg (hZ hd hz (by rw [pE];exact hn)) hK)
 have e:bY (!decide (n<0)) (dv l)= -n:=by
  rw [pE];unfold bY;by_cases h0:n<0
  ·simp [h0];omega
  ·simp [h0];omega
 rw [e] at hr;obtain ⟨w2,l2,rfl,gX,gT,iP,zB⟩:=hr;refine ⟨_,?_,w2,l2,rfl,gX,gT,iP,zB⟩;unfold ab at e1 ⊢;rw [aA h];simp only [go_sem,ya,yc,NO,aO,hw.pu,hw.ai,hw.one,gX.pu,gX.one,bq,yf,cm,e1,eJ,bg];rcases gX with ⟨rfl,_⟩ | ⟨e,rfl⟩<;>rfl
end
def cT (s:Int) (w:AV) (z:Int):Prop:=
 (w= .af/\s=z/\-9223372036854775808<=z/\z<9223372036854775808)\/
 (∃e l,w= .aC e l.length (l.map uc)/\lo 18446744073709551616 l/\gI l/\bv 18446744073709551616 l=z.natAbs/\s=(if z<0 then -1 else 1)/\9223372036854775808<=z.natAbs)
def cp (v:AV) (z:Int):Prop:=∃s w,v= .agg [aa s,w]/\cT s w z
def Bd (k:Nat) (z:Int):Prop:=z.natAbs<2^k
def AI (k:Nat):2^k<=18446744073709551616^k:=vm (by decide) k
def Bd.mono {k m:Nat} {z:Int} (h:Bd k z) (hk:k<=m):Bd m z:=yA h (yV (by decide) hk)
def Bd.neg {k:Nat} {z:Int} (h:Bd k z):Bd k (-z):=by unfold Bd at h ⊢;rwa [Int.natAbs_neg]
def Bd.add {k m:Nat} {a b:Int} (ha:Bd k a) (hb:Bd m b):Bd (max k m+1) (a+b):=by
 have h1:Bd (max k m) a:=ha.mono (by omega);have h2:Bd (max k m) b:=hb.mono (by omega);unfold Bd at h1 h2 ⊢
 grind
def Bd.mul {k m:Nat} {a b:Int} (ha:Bd k a) (hb:Bd m b):Bd (k+m) (a*b):=by
 unfold Bd at*
 rw [ybS,xP];exact tp ha hb
def Bd.le {k:Nat} {a b:Int} (hb:Bd k b) (h:a.natAbs<=b.natAbs):Bd k a:=xR h hb
def WN.pos {v:AV} {m:Nat} (h:WN v m) (h0:0<m):∃e l,v= .aC e l.length (l.map uc)/\l≠[]/\lo 18446744073709551616 l/\gI l/\bv 18446744073709551616 l=m:=by
 obtain ⟨l,hv,g,n,hb⟩:=h;have hl:l≠[]:=fun e=>by subst e;simp [bv] at hb;omega
 rcases hv with ⟨_,e⟩ | ⟨e,rfl⟩
 ·simp_all
 ·exact ⟨e,l,by simp,hl,g,n,hb⟩
def WN.aD {v:AV} {m:Nat} (h:WN v m):∃l,bB v l/\lo 18446744073709551616 l/\gI l/\bv 18446744073709551616 l=m:=h
def nF (e:Bool) (n:Nat) (cs:List AV):jS .sl (.aC e n cs) .af=some false:=rfl
def gF:jS .sl .af .af=some true:=rfl
def Mj (hp:Hp) (ct id:Nat) (a:Int) (e:Bool) (n:Nat) (cs:List AV) (x y:AV):gW hp ct id 0 2 [.int .i64 a,.aC e n cs] (some (.cells true true true 2 [x,y]))=some (.ap [],aU hp id (.cells true true true 2 [.int .i64 a,.aC e n cs]),ct):=eJ rfl rfl rfl rfl
def qU {tm:Env} {a x y:AV} {r:List (Nat×Nat×X)} (h:bc a=true):gE tm [x,y] 0 1 [a] r=fill tm [a,y] r:=Q6 (by simp) h
def cT.oy {z:Int} (h1: -9223372036854775808<=z) (h2:z<9223372036854775808):cp (.agg [aa z,.af]) z:=⟨z,.af,rfl,.inl ⟨rfl,rfl,h1,h2⟩⟩
def cT.bN {s:Int} {w:AV} {z:Int} (h:cT s w z):(s<0↔z<0)/\(s=0↔z=0)/\-9223372036854775808<=s/\s<9223372036854775808:=by
 rcases h with ⟨_,rfl,h1,h2⟩ | ⟨e,l,_,_,_,_,rfl,h1⟩
 ·grind
 ·grind
section
variable {P:aG} {L:Lib}
structure Nu (P:aG) (L:Lib):Prop extends Wd P L where
 au4:Has P L 117 Nv
 au5:Has P L 142 Nx
 TD:Has P L 136 Jb
 JJ:Has P L 145 zo
 au6:Has P L 146 S5
 TE:Has P L 147 Jd
 adF:Has P L 163 NB
 au7:Has P L 118 CR
 adG:Has P L 119 c119
 au8:Has P L 156 S8
 N9:Has P L 100 mo
 TF:Has P L 164 mq
 au9:Has P L 148 S6
 ava:Has P L 130 S4
def zC (h:Nu P L) {z:Int} (h1: -9223372036854775808<=z) (h2:z<9223372036854775808):ab P L 117 [aa z] (.agg [aa z,.af])/\cp (.agg [aa z,.af]) z:=⟨n117 h.au4 z,cT.oy h1 h2⟩
def TG (h:Nu P L) {n:Int} (h1: -9223372036854775808<=n) (h2:n<9223372036854775808):ab P L 142 [aa n] (uc n.natAbs):=by
 unfold ab;rw [aA h.au5];by_cases h0:n<0
 ·have e:IntKind.wrap .u64 (IntKind.wrap .i64 (0-n))=(n.natAbs:Int):=by
   by_cases hm:n= -9223372036854775808
   ·subst hm;rfl
   ·rw [wrap64 (by omega) (by omega),MY];omega
  simp only [go_sem,ya,Nx,h0,aaZ,e]
 ·have e:IntKind.wrap .u64 n=(n.natAbs:Int):=by rw [MY];omega
  simp only [go_sem,ya,Nx,h0,aaZ,e]
def rF (h:Nu P L) {s:Int} {w:AV} {z:Int} (hz:cT s w z):∃r,ab P L 136 [.agg [aa s,w]] (.ap [.bool (decide (z<0)),r])/\WN (bP r) z.natAbs:=by
 rcases hz with ⟨rfl,rfl,h1,h2⟩ | ⟨e,l,rfl,g,n,hb,hs,h1⟩
 ·by_cases h0:s=0
  ·subst h0;refine ⟨.af,?_,[],pQ,Mw,rfl,rfl⟩;unfold ab;rw [aA h.TD];simp only [go_sem,ya,yc,Jb,aO,bq,yf,cm,gF,Iz,ycv];rfl
  ·have e1:=TG h h1 h2;refine ⟨.cf true 1 1 [uc s.natAbs],?_,[s.natAbs],mL true [s.natAbs],Er.2 (by omega),DU (by omega) [],AG _⟩;unfold ab;rw [aA h.TD];simp only [go_sem,ya,yc,ym,yj,Jb,aO,bq,yf,cm,gF,Iz,h0,e1];rfl
 ·have kE:decide (s<0)=decide (z<0):=by rw [hs];split<;>simp<;>omega
  refine ⟨.aC e l.length (l.map uc),?_,l,mL e l,g,n,hb⟩;unfold ab;rw [aA h.TD];simp only [go_sem,ya,yc,Jb,aO,bq,yf,cm,nF,Iz,kE];rfl
def Yv {d:Nat} (h:d<=9223372036854775807):IntKind.wrap .i64 (d:Int)=d:=wrapN (by omega)
def C5 (h:Nu P L) (neg:Bool) {w:AV} {m K:Nat} (hw:WN w m) (hm:m<18446744073709551616^K) (hK:K<=90000000000):∃r,ab P L 145 [.bool neg,w] r/\cp r (bY neg m):=by
 obtain ⟨l,hu,g,n,hb⟩:=hw;have po:l.length<=90000000000:=xg (mX n hb hm) hK;by_cases h0:l=[]
 ·subst h0
  have:m=0:=by rw [<-hb];rfl
  subst this;have e:bY neg 0=0:=by unfold bY;cases neg<;>rfl
  rw [e];refine ⟨.agg [aa 0,.af],?_,cT.oy (by decide) (by decide)⟩;unfold ab;rw [aA h.JJ];simp only [go_sem,ya,yc,zo,aO,hu.len,yI,show (((0:Nat):Nat):Int)=0 from rfl,qZ];rfl
 ·have iO:0<l.length:=vL.2 h0;by_cases h1:l.length=1/\l.getD 0 0<=9223372036854775807
  ·obtain ⟨h1,h2⟩:=h1;obtain ⟨d,rfl⟩:∃d,l=[d]:=by
    cases l with
    | nil=>simp at h1
    | cons d r=>cases r with
     | nil=>exact ⟨d,rfl⟩
     | cons e r=>simp at h1
   have h2:d<=9223372036854775807:=h2;rw [AG] at hb;subst hb;have ex:=hu.bn (i:=0) (by simp);rw [show ([d]:List Nat).getD 0 0=d from rfl] at ex;have hlen:∀hp,jv hp 1 w=some (.int .i64 1):=fun hp=>hu.len
   cases neg with
   | true=>
    refine ⟨.agg [aa (0-(d:Int)),.af],?_,?_⟩
    ·unfold ab;rw [aA h.JJ]
     simp only [go_sem,ya,yc,ym,zo,aO,hlen,vv,ex,show (d:Int)<=9223372036854775807 by omega,Mz,Yv h2,wrap64 (n:=0-(d:Int)) (by omega) (by omega),qZ];rfl
    ·have:bY true d=0-(d:Int):=by unfold bY;simp
     rw [this];exact cT.oy (by omega) (by omega)
   | false=>
    refine ⟨.agg [aa (d:Int),.af],?_,?_⟩
    ·unfold ab;rw [aA h.JJ];simp only [go_sem,ya,yc,ym,zo,aO,hlen,vv,ex,show (d:Int)<=9223372036854775807 by omega,Mz,Yv h2,qZ];rfl
    ·have:bY false d=(d:Int):=by unfold bY;simp
     rw [this];exact cT.oy (by omega) (by omega)
  ·have qF:9223372036854775808<=m:=by
    rw [<-hb];by_cases h2:l.length=1
    ·obtain ⟨d,rfl⟩:∃d,l=[d]:=by
      cases l with
      | nil=>simp at h2
      | cons d r=>cases r with
       | nil=>exact ⟨d,rfl⟩
       | cons e r=>simp at h2
     have:¬d<=9223372036854775807:=fun hd=>h1 ⟨h2,hd⟩
     rw [AG];omega
    ·have h3:=RJ (b:=18446744073709551616) (by decide) n h0;have h4:18446744073709551616^1<=18446744073709551616^(l.length-1):=yV (by decide) (by omega);rw [ycJ] at h4;omega
   have cA:∃e,w= .aC e l.length (l.map uc):=by
    rcases hu with ⟨rfl,hh⟩ | ⟨e,rfl⟩
    ·simp at hh;exact absurd hh h0
    ·exact ⟨e,by simp⟩
   obtain ⟨e,rfl⟩:=cA;have ex:=hu.bn (i:=0) iO;have first:(decide ((l.length:Int)=1)=true/\¬((l.getD 0 0:Nat):Int)<=9223372036854775807)\/decide ((l.length:Int)=1)=false:=by
    by_cases h2:l.length=1
    ·left;refine ⟨by simp;omega,fun hd=>h1 ⟨h2,by omega⟩⟩
    ·right;simp;omega
   cases neg with
   | true=>
    refine ⟨.agg [aa (-1),.aC e l.length (l.map uc)],?_,-1,_,rfl,.inr ⟨e,l,rfl,g,n,by rw [hb];unfold bY;simp,by unfold bY;simp;omega,by unfold bY;simp;omega⟩⟩
    unfold ab;rw [aA h.JJ];rcases first with ⟨f1,f2⟩ | f1
    ·simp only [go_sem,ya,yc,ym,zo,aO,show ¬(l.length:Int)=0 by omega,f1,f2,ex,qU,Mj];rfl
    ·simp only [go_sem,ya,yc,ym,zo,aO,show ¬(l.length:Int)=0 by omega,f1,qU,Mj];rfl
   | false=>
    refine ⟨.agg [aa 1,.aC e l.length (l.map uc)],?_,1,_,rfl,.inr ⟨e,l,rfl,g,n,by rw [hb];unfold bY;simp,by unfold bY;simp,by unfold bY;simp;omega⟩⟩
    unfold ab;rw [aA h.JJ];rcases first with ⟨f1,f2⟩ | f1
    ·simp only [go_sem,ya,yc,ym,zo,aO,show ¬(l.length:Int)=0 by omega,f1,f2,ex,qU,Mj];rfl
    ·simp only [go_sem,ya,yc,ym,zo,aO,show ¬(l.length:Int)=0 by omega,f1,qU,Mj];rfl
end
def a6:VC->VC
 | .seq a _=>a
 | c=>c
def ami {a b:Int} {x y:Nat} (ha:a.natAbs=x) (hb:b.natAbs=y) (h:decide (a<0)=decide (b<0)):bY (decide (a<0)) (x+y)=a+b:=by
 unfold bY
 grind
def Zr {a b:Int} {m:Nat} (hm:m+b.natAbs=a.natAbs) (h:¬decide (a<0)=decide (b<0)):bY (decide (a<0)) m=a+b:=by
 unfold bY
 grind
def amj {a:Int}:bY (!decide (a<0)) a.natAbs= -a:=by
 unfold bY
 grind
def Zs {a b:Int}:bY (decide (a<0) !=decide (b<0)) (a.natAbs*b.natAbs)=a*b:=by
 unfold bY
 grind
def mh {s:Int} {w:AV} {l:List Nat} (h:bB w l) (hp:Hp):result hp (.agg [aa s,w])=some (.agg [aa s,w]):=by
 rcases h with ⟨rfl,_⟩ | ⟨e,rfl⟩<;>rfl
def dj {s:Int} {w:AV} {l:List Nat} (h:bB w l) (hp:Hp) (ct id:Nat) (x y:AV):gW hp ct id 0 2 [.int .i64 s,w] (some (.cells true true true 2 [x,y]))=some (.ap [],aU hp id (.cells true true true 2 [.int .i64 s,w]),ct):=eJ rfl h.one rfl h.pu
def cT.aD {s:Int} {w:AV} {z:Int} (h:cT s w z):∃l,bB w l:=by
 rcases h with ⟨rfl,_⟩ | ⟨e,l,rfl,_⟩
 ·exact ⟨[],pQ⟩
 ·exact ⟨l,mL e l⟩
def acu (hp:Hp) (sz:Nat) (ag:Bool):AV->Option AV
 | .ptr id o=>O5 sz ag o (an hp id)
 | .aJ cs=>gl sz ag cs
 | _=>none
def dt (tm:Env) (hp:Hp) (ct base i sz:Nat) (ag:Bool):results1 ⟨tm,hp,ct,base⟩ (.cell i sz ag)=acu hp sz ag (aj tm i):=by
 rfl
def du (hp:Hp) (sz:Nat) (ag:Bool) (id o:Nat):acu hp sz ag (.ptr id o)=O5 sz ag o (an hp id):=rfl
section
variable {P:aG} {L:Lib}
def E5 (h:Nu P L) {v:AV} {z:Int} (hv:cp v z):ab P L 146 [v] (aa (bN z)):=by
 obtain ⟨s,w,rfl,hn⟩:=hv;obtain ⟨l,hu⟩:=hn.aD;have e:bN s=bN z:=by
  obtain ⟨h1,h2,_⟩:=hn.bN;unfold bN;by_cases h0:z<0
  ·rw [yM h0,yM (h1.2 h0)]
  ·by_cases h3:z=0
   ·rw [yB (fun h=>h0 (h1.1 h)),yM (h2.2 h3),yB h0,yM h3]
   ·rw [yB (fun h=>h0 (h1.1 h)),yB (fun h=>h3 (h2.1 h)),yB h0,yB h3]
 unfold ab;rw [aA h.au6];simp only [go_sem,ya,yc,S5,aO,hu.pu,hu.one,bq,yf,aaY,oH,Zk,ow,aqW,e]
def E6 (h:Nu P L) {v:AV} {z:Int} {K:Nat} (hv:cp v z) (hz:Bd K z) (hK:K<=90000000000):∃r,ab P L 147 [v] r/\cp r (-z):=by
 obtain ⟨s,w,rfl,hn⟩:=hv;obtain ⟨p,e1,hp⟩:=rF h hn;obtain ⟨lp,iN,_⟩:=hp.aD;obtain ⟨r,e2,hr⟩:=C5 h (!decide (z<0)) hp (yA hz (AI K)) hK;rw [amj] at hr;have bC:=hr;obtain ⟨s',w',rfl,gU⟩:=hr;obtain ⟨l',jn⟩:=gU.aD;rcases hn with ⟨rfl,rfl,h1,h2⟩ | ⟨e,l0,rfl,g,n,hb,hs,h1⟩
 ·by_cases h0:s= -9223372036854775808
  ·refine ⟨_,?_,bC⟩;unfold ab;rw [aA h.TE];simp only [go_sem,ya,yc,Jd,aO,bq,yf,cm,gF,eb,h0];rw [h0] at e1 e2;simp only [go_sem,ya,bV,bw,e1,e2,iN.ai,bg,dt,du,bV,yp,mh jn,dj jn]
  ·refine ⟨.agg [aa (-s),.af],?_,cT.oy (by omega) (by omega)⟩;unfold ab;rw [aA h.TE]
   simp only [go_sem,ya,yc,Jd,aO,bq,yf,cm,gF,eb,h0,wrap64 (n:=0-s) (by omega) (by omega),qZ,qU];rw [Int.zero_sub];rfl
 ·refine ⟨_,?_,bC⟩;unfold ab;rw [aA h.TE];simp only [go_sem,ya,yc,Jd,aO,bq,yf,cm,nF,eb,bV,bw,e1,e2,iN.ai,bg,dt,du,bV,yp,mh jn,dj jn]
def TH (h:Nu P L) {v:AV} {z:Int} {K:Nat} (hv:cp v z) (hz:Bd K z) (hK:K<=90000000000):∃r,ab P L 163 [v] r/\cp r (z.natAbs:Nat):=by
 have ew:=hv;obtain ⟨s,w,rfl,hn⟩:=hv;obtain ⟨l,hu⟩:=hn.aD;have sB:=hn.bN.1;by_cases h0:z<0
 ·obtain ⟨r,e1,hr⟩:=E6 h ew hz hK;rw [show -z=(z.natAbs:Int) by omega] at hr;have bC:=hr;obtain ⟨s',w',rfl,gU⟩:=hr;obtain ⟨l',jn⟩:=gU.aD;refine ⟨_,?_,bC⟩;unfold ab;rw [aA h.adF];simp only [go_sem,ya,yc,NB,aO,hu.pu,hu.ai,hu.one,bq,yf,sB.2 h0,bV,bw,e1,bg,dt,du,bV,yp,mh jn,dj jn]
 ·rw [show ((z.natAbs:Nat):Int)=z by omega];refine ⟨_,?_,ew⟩;unfold ab;rw [aA h.adF];simp only [go_sem,ya,yc,NB,aO,hu.pu,hu.one,bq,yf,show ¬s<0 from fun h=>h0 (sB.1 h),bV,dt,du,bV,yp,mh hu,dj hu]
def arb (h:Nu P L) {s1 s2:Int} {w1 w2:AV} {a b:Int} {K:Nat} (ha:cT s1 w1 a) (hb:cT s2 w2 b) (ka:Bd K a) (kb:Bd K b) (hK:K<=40000000000):
  ∃r,cp r (a+b)/\∀tm,aj tm 2= .ptr 0 0->aj tm 3= .ptr 1 0->aj tm 4= .ptr 2 0->dV [.cell 4 2 true] (D P L (aw (aw c119.body)) ⟨tm,[(2,.cells true true true 2 [.int .i64 0,.af]),(1,.cells true true true 2 [aa s2,w2]),(0,.cells true true true 2 [aa s1,w1])],3,0⟩)=some r:=by
 obtain ⟨l1,u1⟩:=ha.aD;obtain ⟨l2,u2⟩:=hb.aD;obtain ⟨p,e1,hp⟩:=rF h ha;obtain ⟨q,e2,hq⟩:=rF h hb;obtain ⟨lp,iN,gp,np,vp⟩:=hp.aD;obtain ⟨lq,od,gq,nq,vq⟩:=hq.aD;have BI:=yA ka (AI K);have FV:=yA kb (AI K);have llp:lp.length<=40000000000:=xg (mX np vp BI) hK;have llq:lq.length<=40000000000:=xg (mX nq vq FV) hK;by_cases hs:decide (a<0)=decide (b<0)
 ·obtain ⟨o,nj,e3,ho,ni,no,vo⟩:=auM h.auW h.mv h.gG iN od gp gq (by omega) (by omega);obtain ⟨r,e4,hr⟩:=C5 h (decide (a<0)) ⟨nj,ho,ni,no,vo⟩ (K:=K+1) (by rw [vp,vq,y9];omega) (by omega);rw [ami vp.symm vq.symm hs] at hr;have bC:=hr;obtain ⟨s',w',rfl,gU⟩:=hr;obtain ⟨l',jn⟩:=gU.aD;refine ⟨_,bC,fun tm t2 t3 t4=>?_⟩;simp only [go_sem,ya,c119,aw,t2,t3,bV,bw,u1.ai,u2.ai,e1,e2,iN.ai,od.ai,eb,oM,hs,yat];rw [hs] at e4;simp only [go_sem,ya,t4,e3,ho.ai,ho.shut,e4,bg,dt,du,bV,yp,mh jn,dj jn]
 ·have KC:(decide (a<0)==decide (b<0))=false:=by simpa using hs
  have e3:=adq h.adB iN od gp gq np nq (by omega) (by omega);rw [vp,vq] at e3;by_cases hc:b.natAbs<=a.natAbs
  ·obtain ⟨o,nj,e4,ho,ni,no,vo⟩:=adr h.adC h.mv h.rD iN od gp gq nq (by omega) (by rw [vp,vq];exact hc)
   rw [vp,vq] at vo;obtain ⟨r,e5,hr⟩:=C5 h (decide (a<0)) ⟨nj,ho,ni,no,rfl⟩ (K:=K) (by omega) (by omega);rw [Zr vo hs] at hr;have bC:=hr;obtain ⟨s',w',rfl,gU⟩:=hr;obtain ⟨l',jn⟩:=gU.aD;have ef:(0:Int)<=dP a.natAbs b.natAbs:=by unfold dP;rw [yB (by omega)];split<;>decide
   refine ⟨_,bC,fun tm t2 t3 t4=>?_⟩;simp only [go_sem,ya,c119,aw,t2,t3,t4,bV,bw,u1.ai,u2.ai,e1,e2,iN.ai,od.ai,eb,oM,KC,e3,ef,e4,ho.ai,ho.shut,e5,bg,dt,du,bV,yp,mh jn,dj jn]
  ·obtain ⟨o,nj,e4,ho,ni,no,vo⟩:=adr h.adC h.mv h.rD od iN gq gp np (by omega) (by rw [vp,vq];omega);rw [vp,vq] at vo;obtain ⟨r,e5,hr⟩:=C5 h (decide (b<0)) ⟨nj,ho,ni,no,rfl⟩ (K:=K) (by omega) (by omega);rw [Zr vo (fun e=>hs e.symm),Int.add_comm] at hr;have bC:=hr;obtain ⟨s',w',rfl,gU⟩:=hr;obtain ⟨l',jn⟩:=gU.aD;have ef:¬(0:Int)<=dP a.natAbs b.natAbs:=by unfold dP;rw [yM (by omega)];decide
   refine ⟨_,bC,fun tm t2 t3 t4=>?_⟩;simp only [go_sem,ya,c119,aw,t2,t3,t4,bV,bw,u1.ai,u2.ai,e1,e2,iN.ai,od.ai,eb,oM,KC,e3,ef,e4,ho.ai,ho.shut,e5,bg,dt,du,bV,yp,mh jn,dj jn]
def JK (h:Nu P L) {v w:AV} {a b:Int} {K:Nat} (hv:cp v a) (hw:cp w b) (ka:Bd K a) (kb:Bd K b) (hK:K<=40000000000):∃r,ab P L 119 [v,w] r/\cp r (a+b):=by
 obtain ⟨s1,w1,rfl,h1⟩:=hv;obtain ⟨s2,w2,rfl,h2⟩:=hw;obtain ⟨l2,u2⟩:=h2.aD;obtain ⟨r,hr,tail⟩:=arb h h1 h2 ka kb hK;have fin:∀tm,aj tm 2= .ptr 0 0->aj tm 3= .ptr 1 0->aj tm 4= .ptr 2 0->
   D P L (.seq (a6 c119.body) (a6 (aw c119.body))) ⟨[(0,.agg [aa s1,w1]),(1,.agg [aa s2,w2])],[],0,0⟩=some (.normal,⟨tm,[(2,.cells true true true 2 [.int .i64 0,.af]),(1,.cells true true true 2 [aa s2,w2]),(0,.cells true true true 2 [aa s1,w1])],3,0⟩)->ab P L 119 [.agg [aa s1,w1],.agg [aa s2,w2]] r:=fun tm t2 t3 t4 e=>by
  unfold ab;rw [aA h.adG];show dV [.cell 4 2 true] (D P L (.seq (a6 c119.body) (.seq (a6 (aw c119.body)) (aw (aw c119.body)))) ⟨[(0,.agg [aa s1,w1]),(1,.agg [aa s2,w2])],[],0,0⟩)=_
  have e2:D P L (.seq (a6 c119.body) (.seq (a6 (aw c119.body)) (aw (aw c119.body)))) ⟨[(0,.agg [aa s1,w1]),(1,.agg [aa s2,w2])],[],0,0⟩=mR P L (D P L (.seq (a6 c119.body) (a6 (aw c119.body))) ⟨[(0,.agg [aa s1,w1]),(1,.agg [aa s2,w2])],[],0,0⟩) (aw (aw c119.body)):=by
   rw [iE,iE]
   cases D P L (a6 c119.body) ⟨[(0,.agg [aa s1,w1]),(1,.agg [aa s2,w2])],[],0,0⟩ with
   | none=>rfl
   | some q=>
    obtain ⟨ex,st⟩:=q
    cases ex with
    | normal=>rw [fF,fF,iE]
    | ret=>rfl
    | exit id=>rfl
  rw [e2,e,fF];exact tail tm t2 t3 t4
 rcases h1 with ⟨rfl,rfl,a1,a2⟩ | ⟨e,l,rfl,ga,na,va,sa,a1⟩
 ·rcases h2 with ⟨rfl,rfl,b1,b2⟩ | ⟨e,l,rfl,gb,nb,vb,sb,b1⟩
  ·by_cases il: -9223372036854775808<=s1+s2/\s1+s2<9223372036854775808
   ·refine ⟨.agg [aa (s1+s2),.af],?_,cT.oy il.1 il.2⟩;have e:decide (s1<s1+s2)=decide (0<s2):=by
     by_cases h:0<s2
     ·simp only [h,yq];exact xp (by omega)
     ·simp only [h,yu];exact yX (by omega)
    unfold ab;rw [aA h.adG]
    simp only [go_sem,ya,yc,c119,aO,qZ,gF,eb,oM,bq,yf,cm,wrap64 (n:=s1+s2) il.1 il.2,e,yat,qU];rfl
   ·have e:(decide (s1<IntKind.wrap .i64 (s1+s2))==decide (0<s2))=false:=by
     have hw:(9223372036854775808<=s1+s2/\IntKind.wrap .i64 (s1+s2)=s1+s2-18446744073709551616)\/(s1+s2< -9223372036854775808/\IntKind.wrap .i64 (s1+s2)=s1+s2+18446744073709551616):=by
      simp only [IntKind.wrap,IntKind.bits,IntKind.signed,wP]
      split<;>rename_i h<;>simp at h<;>omega
     by_cases h0:0<s2
     ·rw [xp h0,yX (by omega)];rfl
     ·rw [yX h0,xp (by omega)];rfl
    refine ⟨r,fin _ ?_ ?_ ?_ (by simp only [go_sem,ya,yc,a6,aw,c119,aO,gF,eb,oM,bq,yf,cm,e]<;>rfl),hr⟩<;>simp only [go_sem,ya]
  ·refine ⟨r,fin _ ?_ ?_ ?_ (by simp only [go_sem,ya,yc,a6,aw,c119,aO,gF,nF,eb,bq,yf,cm]<;>rfl),hr⟩<;>simp only [go_sem,ya]
 ·refine ⟨r,fin _ ?_ ?_ ?_ (by simp only [go_sem,ya,yc,a6,aw,c119,aO,u2.pu,u2.one,nF,eb,bq,yf,cm]<;>rfl),hr⟩<;>simp only [go_sem,ya]
end
def B4 {P:aG} {L:Lib} (a b c:VC) (s:St):D P L (.seq a (.seq b c)) s=mR P L (D P L (.seq a b) s) c:=by
 rw [iE,iE]
 cases D P L a s with
 | none=>rfl
 | some q=>
  obtain ⟨ex,st⟩:=q
  cases ex with
  | normal=>rw [fF,fF,iE]
  | ret=>rfl
  | exit id=>rfl
def aa8 {s s':Int} {w w':AV} {l l':List Nat} (h:bB w l) (h':bB w' l') (hp:Hp):result hp (.ap [.agg [aa s,w],.agg [aa s',w']])=some (.ap [.agg [aa s,w],.agg [aa s',w']]):=by
 rcases h with ⟨rfl,_⟩ | ⟨e,rfl⟩<;>rcases h' with ⟨rfl,_⟩ | ⟨e',rfl⟩<;>rfl
def Oa (tm:Env) (hp:Hp) (ct:Nat) (rs:List (Nat×Bool×Nat)) (sz:Nat) (p:AV) (new:List AV):fS:=match p with | .ptr id o=>bif nv tm id rs then gW hp ct id o sz new (an hp id) else none | _=>none
def Ob (id:Nat):AV->Bool | .ptr j _=> !yt j id | .aJ _=>true | _=>false
def RU {P:aG} {L:Lib} (f:cw) (tm:Env) (hp:Hp) (ct:Nat) (rs:List (Nat×Bool×Nat)) (sz:Nat) (x v:X):a7 P L f tm hp ct (.kC rs sz x v)=Oa tm hp ct rs sz (az tm x) (cellsOf (az tm v)):=by
 simp only [a7,Oa]
 cases hx:az tm x with
 | ptr id o=>
  rw [Zi,hx,aci]
 | _=>rfl
def RW {tm:Env} {hp:Hp} {ct:Nat} {rs:List (Nat×Bool×Nat)} {sz id o:Nat} {new:List AV} (h:nv tm id rs=true):Oa tm hp ct rs sz (.ptr id o) new=gW hp ct id o sz new (an hp id):=by
 simp only [Oa,h,yx]
def Re (tm:Env) (id:Nat):nv tm id []=true:=(rfl)
def QN (tm:Env) (id sz x:Nat) (ag:Bool) (r:List (Nat×Bool×Nat)):nv tm id ((sz,ag,x)::r)=(Ob id (aj tm x)&&nv tm id r):=by
 simp only [nv,Ob]
 grind
def RX {id j o:Nat} (h:j≠id):Ob id (.ptr j o)=true:=by simp only [Ob,cd h,yP]
section
variable {P:aG} {L:Lib}
def adH (h:Nu P L) {v w:AV} {a b:Int} {K:Nat} (hv:cp v a) (hw:cp w b) (ka:Bd K a) (kb:Bd K b) (hK:K<=40000000000):∃r,ab P L 156 [v,w] r/\cp r (a-b):=by
 obtain ⟨n,e1,hn⟩:=E6 h hw kb (by omega);obtain ⟨r,e2,hr⟩:=JK h hv hn ka kb.neg hK;have bC:=hr;obtain ⟨s1,w1,rfl,h1⟩:=hv;obtain ⟨s2,w2,rfl,h2⟩:=hw;obtain ⟨s3,w3,rfl,h3⟩:=hn;obtain ⟨s4,w4,rfl,h4⟩:=hr;obtain ⟨l1,u1⟩:=h1.aD;obtain ⟨l2,u2⟩:=h2.aD;obtain ⟨l3,u3⟩:=h3.aD;obtain ⟨l4,u4⟩:=h4.aD;refine ⟨_,?_,bC⟩;unfold ab;rw [aA h.au8];simp only [go_sem,ya,yc,S8,aO,u1.pu,u1.ai,u1.one,u2.pu,u2.ai,u2.one,u3.ai,bw,e1,e2,bg,dt,du,bV,yp,mh u4,dj u4]
def adI (h:Nu P L) {v w:AV} {a b:Int} {K:Nat} (hv:cp v a) (hw:cp w b) (ka:Bd K a) (kb:Bd K b) (hK:K<=40000000000):ab P L 118 [v,w] (aa (bN (a-b))):=by
 obtain ⟨d,e1,hd⟩:=adH h hv hw ka kb hK;have e2:=E5 h hd;obtain ⟨s1,w1,rfl,h1⟩:=hv;obtain ⟨s2,w2,rfl,h2⟩:=hw;obtain ⟨s3,w3,rfl,h3⟩:=hd;obtain ⟨l2,u2⟩:=h2.aD;obtain ⟨l3,u3⟩:=h3.aD;unfold ab;rw [aA h.au7];rcases h1 with ⟨rfl,rfl,a1,a2⟩ | ⟨e,l,rfl,ga,na,va,sa,a1⟩
 ·rcases h2 with ⟨rfl,rfl,b1,b2⟩ | ⟨e,l,rfl,gb,nb,vb,sb,b1⟩
  ·by_cases c1:s1<s2
   ·rw [show bN (s1-s2)= -1 by unfold bN;rw [yM (by omega)]];simp only [go_sem,ya,yc,CR,aO,gF,eb,bq,yf,cm,c1]
   ·by_cases c2:s2<s1
    ·rw [show bN (s1-s2)=1 by unfold bN;rw [yB (by omega),yB (by omega)]];simp only [go_sem,ya,yc,CR,aO,gF,eb,bq,yf,cm,c1,c2]
    ·rw [show bN (s1-s2)=0 by unfold bN;rw [yB (by omega),yM (by omega)]];simp only [go_sem,ya,yc,CR,aO,gF,eb,bq,yf,cm,c1,c2]
  ·simp only [go_sem,ya,yc,CR,aO,gF,nF,eb,bq,yf,cm,bV,bw,e1,e2,u3.ai,bg]
 ·simp only [go_sem,ya,yc,CR,aO,u2.pu,u2.ai,u2.one,nF,eb,bq,yf,cm,bV,bw,e1,e2,u3.ai,bg]
def arc (h:Nu P L) {s1 s2:Int} {w1 w2:AV} {a b:Int} {K:Nat} (ha:cT s1 w1 a) (hb:cT s2 w2 b) (ka:Bd K a) (kb:Bd K b) (hK:K<=40000000000):
  ∃r,cp r (a*b)/\∀tm,aj tm 2= .ptr 0 0->aj tm 3= .ptr 1 0->aj tm 4= .ptr 2 0->dV [.cell 4 2 true] (D P L (aw (aw mo.body)) ⟨tm,[(2,.cells true true true 2 [.int .i64 0,.af]),(1,.cells true true true 2 [aa s2,w2]),(0,.cells true true true 2 [aa s1,w1])],3,0⟩)=some r:=by
 obtain ⟨l1,u1⟩:=ha.aD;obtain ⟨l2,u2⟩:=hb.aD;obtain ⟨p,e1,hp⟩:=rF h ha;obtain ⟨q,e2,hq⟩:=rF h hb;obtain ⟨lp,iN,gp,np,vp⟩:=hp.aD;obtain ⟨lq,od,gq,nq,vq⟩:=hq.aD;have BI:=yA ka (AI K);have FV:=yA kb (AI K);have llp:lp.length<=40000000000:=xg (mX np vp BI) hK;have llq:lq.length<=40000000000:=xg (mX nq vq FV) hK;obtain ⟨o,nj,e3,ho,ni,no,vo⟩:=auP h.auX h.mv h.mw h.gG iN od gp gq (by omega) (by omega);obtain ⟨r,e4,hr⟩:=C5 h (decide (a<0) !=decide (b<0)) ⟨nj,ho,ni,no,vo⟩ (K:=K+K) (by rw [vp,vq,xP];exact tp BI FV) (by omega)
 rw [vp,vq,Zs] at hr;have bC:=hr;obtain ⟨s',w',rfl,gU⟩:=hr;obtain ⟨l',jn⟩:=gU.aD;refine ⟨_,bC,fun tm t2 t3 t4=>?_⟩;have rV:∀x y:Bool,Jz true (some (x==y))=some (.bool (x !=y)):=fun x y=>by cases x<;>cases y<;>rfl
 simp only [go_sem,ya,mo,aw,t2,t3,t4,bV,bw,u1.ai,u2.ai,e1,e2,iN.ai,od.ai,oM,rV,e3,ho.ai,ho.shut,e4,bg,dt,du,bV,yp,mh jn,dj jn]
def amk {a b:Int} {m:Nat} (h:a.natAbs*b.natAbs=m):a*b=if (decide (a<0)==decide (b<0))=true then (m:Int) else 0-(m:Int):=by
 have:=Zs (a:=a) (b:=b)
 rw [h] at this;unfold bY at this
 cases hd:(decide (a<0)==decide (b<0)) with
 | true=>simp only [bne,hd,yQ,yD,xk] at this;exact this.symm
 | false=>simp only [bne,hd,yP,xB] at this;rw [yB (by decide)];omega
def rG (h:Nu P L) {v w:AV} {a b:Int} {K:Nat} (hv:cp v a) (hw:cp w b) (ka:Bd K a) (kb:Bd K b) (hK:K<=40000000000):∃r,ab P L 100 [v,w] r/\cp r (a*b):=by
 obtain ⟨s1,w1,rfl,h1⟩:=hv;obtain ⟨s2,w2,rfl,h2⟩:=hw;obtain ⟨l1,u1⟩:=h1.aD;obtain ⟨l2,u2⟩:=h2.aD;obtain ⟨r,hr,tail⟩:=arc h h1 h2 ka kb hK;have fin:∀tm,aj tm 2= .ptr 0 0->aj tm 3= .ptr 1 0->aj tm 4= .ptr 2 0->
   D P L (.seq (a6 mo.body) (a6 (aw mo.body))) ⟨[(0,.agg [aa s1,w1]),(1,.agg [aa s2,w2])],[],0,0⟩=some (.normal,⟨tm,[(2,.cells true true true 2 [.int .i64 0,.af]),(1,.cells true true true 2 [aa s2,w2]),(0,.cells true true true 2 [aa s1,w1])],3,0⟩)->ab P L 100 [.agg [aa s1,w1],.agg [aa s2,w2]] r:=fun tm t2 t3 t4 e=>by
  unfold ab;rw [aA h.N9];show dV [.cell 4 2 true] (D P L (.seq (a6 mo.body) (.seq (a6 (aw mo.body)) (aw (aw mo.body)))) ⟨[(0,.agg [aa s1,w1]),(1,.agg [aa s2,w2])],[],0,0⟩)=_
  rw [B4,e,fF];exact tail tm t2 t3 t4
 rcases h1 with ⟨rfl,rfl,a1,a2⟩ | ⟨e,l,rfl,ga,na,va,sa,a1⟩
 ·rcases h2 with ⟨rfl,rfl,b1,b2⟩ | ⟨e,l,rfl,gb,nb,vb,sb,b1⟩
  ·have f1:=TG h a1 a2;have f2:=TG h b1 b2;have f3:=MA (P:=P) (f:=D P L) h.mw (x:=s1.natAbs) (y:=s2.natAbs) (by omega) (by omega);obtain ⟨m,hm⟩:∃m,s1.natAbs*s2.natAbs=m:=⟨_,rfl⟩;rw [hm] at f3;have nW:=amk hm;by_cases il:m<=9223372036854775807
   ·rw [xO (by omega),yL (by omega)] at f3;rw [show (uc 0)=AV.int .u64 0 from rfl] at f3;by_cases hs:(decide (s1<0)==decide (s2<0))=true
    ·rw [yM hs] at nW;refine ⟨.agg [aa (m:Int),.af],?_,by rw [nW];exact cT.oy (by omega) (by omega)⟩
     unfold ab;rw [aA h.N9]
     simp only [go_sem,ya,yc,mo,aO,qZ,gF,eb,Iz,oM,bq,yf,cm,f1,f2,f3,show (m:Int)<=9223372036854775807 by omega,hs,Mz,wrap64 (n:=(m:Int)) (by omega) (by omega),qU];rfl
    ·rw [yB hs] at nW;refine ⟨.agg [aa (0-(m:Int)),.af],?_,by rw [nW];exact cT.oy (by omega) (by omega)⟩
     unfold ab;rw [aA h.N9]
     simp only [go_sem,ya,yc,mo,aO,qZ,gF,eb,Iz,oM,bq,yf,cm,f1,f2,f3,show (m:Int)<=9223372036854775807 by omega,hs,Mz,wrap64 (n:=(m:Int)) (by omega) (by omega),wrap64 (n:=0-(m:Int)) (by omega) (by omega),qU];rfl
   ·by_cases pG:m/18446744073709551616=0
    ·rw [pG,yL (by omega)] at f3;rw [show (uc 0)=AV.int .u64 0 from rfl] at f3;refine ⟨r,fin _ ?_ ?_ ?_ (by simp only [go_sem,ya,yc,a6,aw,mo,aO,gF,eb,bq,yf,cm,f1,f2,f3,show ¬(m:Int)<=9223372036854775807 by omega]<;>rfl),hr⟩<;>simp only [go_sem,ya]
    ·obtain ⟨q,hq⟩:∃q,q=m/18446744073709551616:=⟨_,rfl⟩;rw [<-hq] at f3 pG;refine ⟨r,fin _ ?_ ?_ ?_ (by simp only [go_sem,ya,yc,a6,aw,mo,aO,gF,eb,bq,yf,cm,f1,f2,f3,show ¬(q:Int)=0 by omega]<;>rfl),hr⟩<;>simp only [go_sem,ya]
  ·refine ⟨r,fin _ ?_ ?_ ?_ (by simp only [go_sem,ya,yc,a6,aw,mo,aO,gF,nF,eb,bq,yf,cm]<;>rfl),hr⟩<;>simp only [go_sem,ya]
 ·refine ⟨r,fin _ ?_ ?_ ?_ (by simp only [go_sem,ya,yc,a6,aw,mo,aO,u2.pu,u2.one,nF,eb,bq,yf,cm]<;>rfl),hr⟩<;>simp only [go_sem,ya]
end
def aj1 {a b:Int} {q r:Nat} (hb:0<b) (h:q=a.natAbs/b.natAbs) (h2:r=a.natAbs%b.natAbs):
  (bY (decide (a<0)) r<0->a/b=bY (decide (a<0)) q-1/\a%b=bY (decide (a<0)) r+b)/\(¬bY (decide (a<0)) r<0->a/b=bY (decide (a<0)) q/\a%b=bY (decide (a<0)) r):=by
 have fg:=wb a.natAbs b.natAbs;have aP:r<b.natAbs:=by rw [h2];exact xE _ (by omega)
 unfold bY;by_cases h0:a<0
 ·simp only [h0,yq,xB];constructor
  ·intro h3;refine (tI hb).2 ⟨?_,by omega,by omega⟩
   grind
  ·intro h3;refine (tI hb).2 ⟨?_,by omega,by omega⟩
   grind
 ·grind
section
variable {P:aG} {L:Lib}
def ard (h:Nu P L) {s1 s2:Int} {w1 w2:AV} {a b:Int} {K:Nat} (ha:cT s1 w1 a) (hb:cT s2 w2 b) (df:0<b) (ka:Bd K a) (kb:Bd K b) (hK:K<=30000000000):
  ∃q r,cp q (a/b)/\cp r (a%b)/\∀tm,aj tm 2= .ptr 0 0->aj tm 3= .ptr 1 0->aj tm 4= .ptr 2 0->aj tm 5= .ptr 3 0->dV [.cell 4 2 true,.cell 5 2 true] (D P L (aw (aw mq.body)) ⟨tm,[(3,.cells true true true 2 [.int .i64 0,.af]),(2,.cells true true true 2 [.int .i64 0,.af]),(1,.cells true true true 2 [aa s2,w2]),(0,.cells true true true 2 [aa s1,w1])],4,0⟩)=some (.ap [q,r]):=by
 obtain ⟨l1,u1⟩:=ha.aD;obtain ⟨l2,u2⟩:=hb.aD;obtain ⟨p,e1,hp⟩:=rF h ha;obtain ⟨q,e2,hq⟩:=rF h hb;have bQ:cp (.agg [aa s2,w2]) b:=⟨s2,w2,rfl,hb⟩;obtain ⟨lp,iN,_⟩:=hp.aD;obtain ⟨lq,od,_⟩:=hq.aD;have BI:=yA ka (AI K);have FV:=yA kb (AI K);obtain ⟨dq,dr,e3,DA,ir⟩:=adD h.toWd hp hq (by omega) BI FV (by omega);obtain ⟨KD,uq,_⟩:=DA.aD;obtain ⟨lr1,ur,_⟩:=ir.aD;have hqk:a.natAbs/b.natAbs<18446744073709551616^K:=xR (wV _ _) BI;have hrk:a.natAbs%b.natAbs<18446744073709551616^K:=xR (ycS _ _) BI;have hqb:a.natAbs/b.natAbs<2^K:=xR (wV _ _) ka;have VM:a.natAbs%b.natAbs<2^K:=xR (ycS _ _) ka;obtain ⟨f1,f2⟩:=aj1 (a:=a) df rfl rfl;generalize a.natAbs/b.natAbs=Q at*
 generalize a.natAbs%b.natAbs=R at*
 obtain ⟨vq,e4,hvq⟩:=C5 h (decide (a<0)) DA hqk (by omega);obtain ⟨vr,e5,Kp⟩:=C5 h (decide (a<0)) ir hrk (by omega);have KE:Bd K (bY (decide (a<0)) Q):=by unfold Bd bY;split<;>omega
 have hsr:Bd K (bY (decide (a<0)) R):=by unfold Bd bY;split<;>omega
 generalize bY (decide (a<0)) R=Rs at*
 have e6:=E5 h Kp;have adJ:=hvq;have adK:=Kp;obtain ⟨s3,w3,rfl,h3⟩:=hvq;obtain ⟨s4,w4,rfl,h4⟩:=Kp;obtain ⟨l3,u3⟩:=h3.aD;obtain ⟨l4,u4⟩:=h4.aD;by_cases h0:Rs<0
 ·obtain ⟨g1,g2⟩:=f1 h0;have jj:Bd (K+1) 1:=Bd.mono (k:=1) (by unfold Bd;decide) (by omega)
  obtain ⟨o1,o2⟩:=zC h (z:=1) (by decide) (by decide);obtain ⟨vq2,e7,TI⟩:=adH h adJ o2 (K:=K+1) (KE.mono (by omega)) jj (by omega);obtain ⟨vr2,e8,TJ⟩:=JK h adK bQ (K:=K+1) (hsr.mono (by omega)) (kb.mono (by omega)) (by omega);rw [<-g1] at TI;rw [<-g2] at TJ;have mZ:bN Rs<0:=by unfold bN;rw [yM h0];decide
  have k1:=TI;have k2:=TJ;obtain ⟨s5,w5,rfl,h5⟩:=TI;obtain ⟨s6,w6,rfl,h6⟩:=TJ;obtain ⟨l5,u5⟩:=h5.aD;obtain ⟨l6,u6⟩:=h6.aD;refine ⟨_,_,k1,k2,fun tm t2 t3 t4 t5=>?_⟩;simp only [go_sem,ya,yc,mq,aw,t2,t3,t4,t5,RU,RW,Re,QN,RX,wQ,aO,bV,bw,u1.ai,u2.ai,e1,e2,iN.ai,od.ai,e3,uq.ai,uq.bP,ur.ai,ur.bP,e4,e5,bg,dt,du,bV,yp,dj u3,dj u4,u3.ai,u4.ai,e6,mZ,o1,e7,e8,dt,du,bV,yp,dj u5,dj u6,aa8 u5 u6]
 ·obtain ⟨g1,g2⟩:=f2 h0;have mZ:¬bN Rs<0:=by unfold bN;rw [yB h0];split<;>decide
  refine ⟨_,_,by rw [g1];exact adJ,by rw [g2];exact adK,fun tm t2 t3 t4 t5=>?_⟩
  simp only [go_sem,ya,yc,mq,aw,t2,t3,t4,t5,RU,RW,Re,QN,RX,wQ,aO,bV,bw,u1.ai,u2.ai,e1,e2,iN.ai,od.ai,e3,uq.ai,uq.bP,ur.ai,ur.bP,e4,e5,bg,dt,du,bV,yp,dj u3,dj u4,u4.ai,e6,mZ,aa8 u3 u4]
def TK (h:Nu P L) {v w:AV} {a b:Int} {K:Nat} (hv:cp v a) (hw:cp w b) (df:0<b) (ka:Bd K a) (kb:Bd K b) (hK:K<=30000000000):∃q r,ab P L 164 [v,w] (.ap [q,r])/\cp q (a/b)/\cp r (a%b):=by
 obtain ⟨s1,w1,rfl,h1⟩:=hv;obtain ⟨s2,w2,rfl,h2⟩:=hw;obtain ⟨l1,u1⟩:=h1.aD;obtain ⟨l2,u2⟩:=h2.aD;obtain ⟨q,r,hq,hr,tail⟩:=ard h h1 h2 df ka kb hK;have fin:∀tm,aj tm 2= .ptr 0 0->aj tm 3= .ptr 1 0->aj tm 4= .ptr 2 0->aj tm 5= .ptr 3 0->
   D P L (.seq (a6 mq.body) (a6 (aw mq.body))) ⟨[(0,.agg [aa s1,w1]),(1,.agg [aa s2,w2])],[],0,0⟩=some (.normal,⟨tm,[(3,.cells true true true 2 [.int .i64 0,.af]),(2,.cells true true true 2 [.int .i64 0,.af]),(1,.cells true true true 2 [aa s2,w2]),(0,.cells true true true 2 [aa s1,w1])],4,0⟩)->ab P L 164 [.agg [aa s1,w1],.agg [aa s2,w2]] (.ap [q,r]):=fun tm t2 t3 t4 t5 e=>by
  unfold ab;rw [aA h.TF];show dV [.cell 4 2 true,.cell 5 2 true] (D P L (.seq (a6 mq.body) (.seq (a6 (aw mq.body)) (aw (aw mq.body)))) ⟨[(0,.agg [aa s1,w1]),(1,.agg [aa s2,w2])],[],0,0⟩)=_
  rw [B4,e,fF];exact tail tm t2 t3 t4 t5
 rcases h1 with ⟨rfl,rfl,a1,a2⟩ | ⟨e,l,rfl,ga,na,va,sa,a1⟩
 ·rcases h2 with ⟨rfl,rfl,b1,b2⟩ | ⟨e,l,rfl,gb,nb,vb,sb,b1⟩
  ·by_cases hm:s1= -9223372036854775808
   ·refine ⟨q,r,fin _ ?_ ?_ ?_ ?_ (by simp only [go_sem,ya,yc,a6,aw,mq,aO,gF,eb,bq,yf,cm,hm]<;>rfl),hq,hr⟩<;>simp only [go_sem,ya]
   ·obtain ⟨f1,f2⟩:=ajN (a:=s1) df;have bJ:s1.tdiv s2=0\/(s1.tdiv s2).natAbs<=s1.natAbs:= .inr (Int.natAbs_tdiv_le_natAbs s1 s2);have bW:=Int.tmod_lt_of_pos s1 df;have eE:=Int.lt_tmod_of_pos s1 df;by_cases h0:s1.tmod s2<0
    ·obtain ⟨g1,g2⟩:=f1 h0;rw [g1,g2];refine ⟨.agg [aa (s1.tdiv s2-1),.af],.agg [aa (s1.tmod s2+s2),.af],?_,cT.oy (by omega) (by omega),cT.oy (by omega) (by omega)⟩;unfold ab;rw [aA h.TF]
     simp only [go_sem,ya,yc,mq,aO,qZ,gF,eb,bq,yf,cm,hm,eQ _ _ _ (show s2≠0 by omega),eI _ _ _ (show s2≠0 by omega),h0,wrap64 (n:=s1.tdiv s2) (by omega) (by omega),wrap64 (n:=s1.tdiv s2-1) (by omega) (by omega),wrap64 (n:=s1.tmod s2+s2) (by omega) (by omega),qU];rfl
    ·obtain ⟨g1,g2⟩:=f2 h0;rw [g1,g2];refine ⟨.agg [aa (s1.tdiv s2),.af],.agg [aa (s1.tmod s2),.af],?_,cT.oy (by omega) (by omega),cT.oy (by omega) (by omega)⟩;unfold ab;rw [aA h.TF]
     simp only [go_sem,ya,yc,mq,aO,qZ,gF,eb,bq,yf,cm,hm,eQ _ _ _ (show s2≠0 by omega),eI _ _ _ (show s2≠0 by omega),h0,wrap64 (n:=s1.tdiv s2) (by omega) (by omega),qU];rfl
  ·refine ⟨q,r,fin _ ?_ ?_ ?_ ?_ (by simp only [go_sem,ya,yc,a6,aw,mq,aO,gF,nF,eb,bq,yf,cm]<;>rfl),hq,hr⟩<;>simp only [go_sem,ya]
 ·refine ⟨q,r,fin _ ?_ ?_ ?_ ?_ (by simp only [go_sem,ya,yc,a6,aw,mq,aO,u2.pu,u2.one,nF,eb,bq,yf,cm]<;>rfl),hq,hr⟩<;>simp only [go_sem,ya]
def adL (h:Nu P L) {v w:AV} {a b:Int} {K:Nat} (hv:cp v a) (hw:cp w b) (df:0<b) (ka:Bd K a) (kb:Bd K b) (hK:K<=30000000000):∃r,ab P L 148 [v,w] r/\cp r (a/b):=by
 have e1:=E5 h hw;obtain ⟨q,r,e2,hq,hr⟩:=TK h hv hw df ka kb hK;have e3:bN b=1:=by unfold bN;rw [yB (by omega),yB (by omega)]
 rw [e3] at e1;have bJ:=hq;obtain ⟨s1,w1,rfl,h1⟩:=hv;obtain ⟨s2,w2,rfl,h2⟩:=hw;obtain ⟨s3,w3,rfl,h3⟩:=hq;obtain ⟨s4,w4,rfl,h4⟩:=hr;obtain ⟨l1,u1⟩:=h1.aD;obtain ⟨l2,u2⟩:=h2.aD;obtain ⟨l3,u3⟩:=h3.aD;obtain ⟨l4,u4⟩:=h4.aD;refine ⟨_,?_,bJ⟩;unfold ab;rw [aA h.au9];simp only [go_sem,ya,yc,S6,ycv,yu,aO,u1.pu,u1.ai,u1.one,u2.pu,u2.ai,u2.one,yf,bw,e1,e2,qP,dt,du,bV,yp,mh u3,dj u3,dj u4]
def are (h:Nu P L) (G:Nat) {K:Nat} (hK:K<=30000000000) {o1 o2:AV}:
  ∀k s,(∃(x y:Nat) (s1 s2:Int) (w1 w2:AV),aM [2,3,4] s=⟨[(2,.ptr 0 0),(3,.ptr 1 0),(4,.ptr 2 0)],[(2,.cells true true true 2 [o1,o2]),(1,.cells true true true 2 [aa s2,w2]),(0,.cells true true true 2 [aa s1,w1])],3,0⟩/\cT s1 w1 x/\cT s2 w2 y/\Bd K x/\Bd K y/\Nat.gcd x y=G/\y=k)->
   ∃ex s',D P L (.loop [2,3,4] H4) s=some (ex,s')/\∃tm s1 w1 c1,s'=⟨tm,[(2,.cells true true true 2 [o1,o2]),(1,c1),(0,.cells true true true 2 [aa s1,w1])],3,0⟩/\ex= .exit 0/\aj tm 2= .ptr 0 0/\aj tm 4= .ptr 2 0/\cT s1 w1 G:=by
 intro dq sq;generalize bf:aM [2,3,4] sq=s0;revert bf s0 sq dq;apply dh;rintro k s ⟨x,y,s1,s2,w1,w2,rfl,h1,h2,k1,k2,hG,rfl⟩;obtain ⟨l1,u1⟩:=h1.aD;obtain ⟨l2,u2⟩:=h2.aD;have i1:cp (.agg [aa s1,w1]) (x:Int):=⟨s1,w1,rfl,h1⟩;have i2:cp (.agg [aa s2,w2]) (y:Int):=⟨s2,w2,rfl,h2⟩;have e1:=E5 h i2;by_cases fO:y=0
 ·right
  subst fO;rw [show bN ((0:Nat):Int)=0 from rfl] at e1;simp only [go_sem,ya,H4,yq,yQ,bV,bw,u2.ai,e1];obtain rfl:x=G:=by rw [<-hG,Nat.gcd_zero_right]
  exact ⟨_,_,rfl,by simp,_,s1,w1,_,rfl,rfl,by simp only [go_sem,ya],by simp only [go_sem,ya],h1⟩
 ·left
  have e3:bN (y:Int)=1:=by unfold bN;rw [yB (by omega),yB (by omega)]
  rw [e3] at e1;obtain ⟨q,r,e2,hq,hr⟩:=TK h i1 i2 (by omega) k1 k2 hK;obtain ⟨s3,w3,rfl,h3⟩:=hq;obtain ⟨s4,w4,rfl,h4⟩:=hr;obtain ⟨l3,u3⟩:=h3.aD;obtain ⟨l4,u4⟩:=h4.aD;have aP:=xE x (show 0<y by omega);have kr:Bd K ((x%y:Nat):Int):=k2.le (by omega);simp only [go_sem,ya,yc,H4,RU,RW,Re,QN,RX,wQ,vv,yu,yP,aO,bV,bw,u1.ai,u2.ai,e1,e2,qP,bV,yp,dj u2,dj u3,dj u4];refine ⟨_,x%y,rfl,aP,y,x%y,s2,s4,w2,w4,?_,h2,h4,k2,kr,by rw [<-hG];exact al7 x y fO,rfl⟩
  simp only [go_sem,ya,yc,ax]
def adM (h:Nu P L) {v w:AV} {a b:Int} {K:Nat} (hv:cp v a) (hw:cp w b) (ka:Bd K a) (kb:Bd K b) (hK:K<=30000000000):∃r,ab P L 130 [v,w] r/\cp r (wR a b:Nat):=by
 obtain ⟨va,e1,ha⟩:=TH h hv ka (by omega);obtain ⟨vb,e2,hb⟩:=TH h hw kb (by omega);obtain ⟨s1,w1,rfl,h1⟩:=hv;obtain ⟨s2,w2,rfl,h2⟩:=hw;obtain ⟨s3,w3,rfl,h3⟩:=ha;obtain ⟨s4,w4,rfl,h4⟩:=hb;obtain ⟨l1,u1⟩:=h1.aD;obtain ⟨l2,u2⟩:=h2.aD;obtain ⟨l3,u3⟩:=h3.aD;obtain ⟨l4,u4⟩:=h4.aD;have jd:∃s w,ab P L 130 [.agg [aa s1,w1],.agg [aa s2,w2]] (.agg [aa s,w])/\cT s w (wR a b:Nat):=by
  unfold ab;rw [aA h.ava];simp only [go_sem,ya,yc,S4,aO,u1.pu,u1.ai,u1.one,u2.pu,u2.ai,u2.one,bV,bw,e1,e2,bg,bV,yp,dj u3,dj u4,yf];generalize hq:D P L (.loop [2,3,4] H4) _=q;obtain ⟨ex,s,rfl,tm,s5,w5,c1,rfl,rfl,t2,t4,h5⟩:=bI hq (are (P:=P) (L:=L) h (wR a b) (K:=K) hK (o1:= .int .i64 0) (o2:= .af) b.natAbs) ⟨a.natAbs,b.natAbs,s3,s4,w3,w4,by simp only [go_sem,ya,yc,ax],h3,h4,ka,kb,rfl,rfl⟩;obtain ⟨l5,u5⟩:=h5.aD;refine ⟨s5,w5,?_,h5⟩;simp only [go_sem,ya,yc,ax,t2,t4,dt,du,bV,yp,mh u5,dj u5]
 obtain ⟨s,w,e,hn⟩:=jd;exact ⟨_,e,s,w,rfl,hn⟩
end
def bS (v:AV) (r:Rat):Prop:=∃s1 w1 s2 w2,v= .agg [aa s1,w1,aa s2,w2]/\cT s1 w1 r.num/\cT s2 w2 (r.den:Int)
def Hq (k:Nat) (r:Rat):Prop:=Bd k r.num/\Bd k (r.den:Int)
def KZ {a b:Int} (hb:0<b):(wy a b).num=a/(wR a b:Nat)/\((wy a b).den:Int)=b/(wR a b:Nat):=by
 constructor
 ·rw [ybT,Int.sign_eq_one_of_pos hb,Int.one_mul,ycw]
 ·rw [ybU,yB (by omega),ycw]
  grind
def Hq.divInt {k:Nat} {a b:Int} (hb:0<b) (ka:Bd k a) (kb:Bd k b):Hq k (wy a b):=by
 obtain ⟨h1,h2⟩:=KZ (a:=a) hb;refine ⟨ka.le ?_,kb.le ?_⟩
 ·rw [h1,uz (Int.gcd_dvd_left a b)];exact wV _ _
 ·rw [h2,uz (Int.gcd_dvd_right a b)];exact wV _ _
section
def Au {tm:Env} {a b x y z w:AV} {r:List (Nat×Nat×X)} (h1:bc a=true) (h2:bc b=true):gE tm [x,y,z,w] 0 2 [a,b] r=fill tm [a,b,z,w] r:=by
 rw [kK (by rfl) (by simp) (by simp [bK,h1,h2])];rfl
def Aw {tm:Env} {a b x y z w:AV} {r:List (Nat×Nat×X)} (h1:bc a=true) (h2:bc b=true):gE tm [x,y,z,w] 2 2 [a,b] r=fill tm [x,y,a,b] r:=by
 rw [kK (by rfl) (by simp) (by simp [bK,h1,h2])];rfl
def jy {s t:Int} {v w:AV} {l m:List Nat} (hv:bB v l) (hw:bB w m) (hp:Hp) (ct id:Nat) (a b x y:AV):gW hp ct id 0 4 [.int .i64 s,v,.int .i64 t,w] (some (.cells true true true 4 [a,b,x,y]))=some (.ap [],aU hp id (.cells true true true 4 [.int .i64 s,v,.int .i64 t,w]),ct):=by
 rw [ri (by rfl) (by simp) (by simp [bK,hv.one,hw.one,HO])];simp [aF,hv.pu,hw.pu,over,Ev]
def jP {s t:Int} {v w:AV} {l m:List Nat} (hv:bB v l) (hw:bB w m) (hp:Hp):result hp (.agg [aa s,v,aa t,w])=some (.agg [aa s,v,aa t,w]):=by
 rcases hv with ⟨rfl,_⟩ | ⟨e,rfl⟩<;>rcases hw with ⟨rfl,_⟩ | ⟨e',rfl⟩<;>rfl
variable {P:aG} {L:Lib}
structure Fr' (P:aG) (L:Lib):Prop extends Nu P L where
 avb:Has P L 101 mV
 VN:Has P L 69 Va
 avc:Has P L 111 S3
 h98:Has P L 98 OV
 avd:Has P L 108 SZ
 ave:Has P L 102 SY
 h74:Has P L 74 Kj
 VO:Has P L 50 U6
 oe:Has P L 49 c49
 h73:Has P L 73 Vd
 h70:Has P L 70 Vb
 h71:Has P L 71 Vc
 avf:Has P L 149 S7
def aa9 (h:Fr' P L) {s1 s2:Int} {w1 w2:AV} {a b:Int} {K:Nat} (h1:cT s1 w1 a) (h2:cT s2 w2 b) (df:0<b) (ka:Bd K a) (kb:Bd K b) (hK:K<=30000000000):
  ∃r,bS r (wy a b)/\∀tm,aj tm 2= .ptr 0 0->aj tm 3= .ptr 1 0->aj tm 4= .ptr 2 0->dV [.cell 4 4 true] (D P L (aw (aw mV.body)) ⟨tm,[(2,.cells true true true 4 [.int .i64 0,.af,.int .i64 0,.af]),(1,.cells true true true 2 [aa s2,w2]),(0,.cells true true true 2 [aa s1,w1])],3,0⟩)=some r:=by
 have hv:cp (.agg [aa s1,w1]) a:=⟨s1,w1,rfl,h1⟩;have hw:cp (.agg [aa s2,w2]) b:=⟨s2,w2,rfl,h2⟩;obtain ⟨p1,p2⟩:=KZ (a:=a) df;have hgp:=HP (a:=a) df;have hgk:Bd K ((wR a b:Nat):Int):=kb.le (by
  have:=Int.gcd_le_natAbs_right a (show b≠0 by omega)
  omega)
 obtain ⟨g,e2,hg⟩:=adM h.toNu hv hw ka kb hK;obtain ⟨q1,e4,ff⟩:=adL h.toNu hv hg hgp ka hgk hK;obtain ⟨q2,e5,FR⟩:=adL h.toNu hw hg hgp kb hgk hK;rw [<-p1] at ff;rw [<-p2] at FR;obtain ⟨s3,w3,rfl,h3⟩:=hg;obtain ⟨s4,w4,rfl,h4⟩:=ff;obtain ⟨s5,w5,rfl,h5⟩:=FR;obtain ⟨l1,u1⟩:=h1.aD;obtain ⟨l2,u2⟩:=h2.aD;obtain ⟨l3,u3⟩:=h3.aD;obtain ⟨l4,u4⟩:=h4.aD;obtain ⟨l5,u5⟩:=h5.aD;by_cases fm:w2= .af/\s2=1
 ·obtain ⟨rfl,rfl⟩:=fm;have jj:b=1:=by
   rcases h2 with ⟨_,h,_⟩ | ⟨_,_,h,_⟩
   ·exact h.symm
   ·cases h
  subst jj;rw [Int.gcd_one] at p1 p2;have p1:(wy a 1).num=a:=by rw [p1];exact Int.ediv_one a
  refine ⟨.agg [aa s1,w1,aa 1,.af],⟨s1,w1,1,.af,rfl,by rw [p1];exact h1,by rw [p2];exact h2⟩,fun tm t2 t3 t4=>?_⟩
  have un:=pQ;simp only [go_sem,ya,mV,aw,t2,t3,t4,u1.one,bV,bq,yf,cm,gF,eb,Au,Aw,jy u1 un,dt,du,yp,dJ,jP u1 un]
 ·refine ⟨.agg [aa s4,w4,aa s5,w5],⟨s4,w4,s5,w5,rfl,h4,h5⟩,fun tm t2 t3 t4=>?_⟩;rcases u2 with ⟨rfl,_⟩ | ⟨e,rfl⟩
  ·simp only [go_sem,ya,yc,mV,aw,t2,t3,t4,aO,u1.ai,bV,bw,bq,yf,cm,gF,eb,show ¬s2=1 from fun e=>fm ⟨rfl,e⟩,e2,e4,e5,bg,dt,du,bV,yp,dj u3,u3.ai,u4.one,u5.one,Au,Aw,jy u4 u5,dJ,jP u4 u5]
  ·simp only [go_sem,ya,yc,mV,aw,t2,t3,t4,aO,u1.ai,bV,bw,bq,yf,cm,nF,eb,e2,e4,e5,bg,dt,du,bV,yp,dj u3,u3.ai,u4.one,u5.one,Au,Aw,jy u4 u5,dJ,jP u4 u5]
def Oc (h:Fr' P L) {v w:AV} {a b:Int} {K:Nat} (hv:cp v a) (hw:cp w b) (df:b≠0) (ka:Bd K a) (kb:Bd K b) (hK:K<=30000000000):∃r,ab P L 101 [v,w] r/\bS r (wy a b):=by
 have e1:=E5 h.toNu hw;have ew:=hv;have VP:=hw;obtain ⟨s1,w1,rfl,h1⟩:=hv;obtain ⟨s2,w2,rfl,h2⟩:=hw;obtain ⟨l1,u1⟩:=h1.aD;obtain ⟨l2,u2⟩:=h2.aD;have fin:∀r t1 t2 v1 v2 tm,(∀tm,aj tm 2= .ptr 0 0->aj tm 3= .ptr 1 0->aj tm 4= .ptr 2 0->dV [.cell 4 4 true] (D P L (aw (aw mV.body)) ⟨tm,[(2,.cells true true true 4 [.int .i64 0,.af,.int .i64 0,.af]),(1,.cells true true true 2 [aa t2,v2]),(0,.cells true true true 2 [aa t1,v1])],3,0⟩)=some r)->aj tm 2= .ptr 0 0->aj tm 3= .ptr 1 0->aj tm 4= .ptr 2 0->
   D P L (.seq (a6 mV.body) (a6 (aw mV.body))) ⟨[(0,.agg [aa s1,w1]),(1,.agg [aa s2,w2])],[],0,0⟩=some (.normal,⟨tm,[(2,.cells true true true 4 [.int .i64 0,.af,.int .i64 0,.af]),(1,.cells true true true 2 [aa t2,v2]),(0,.cells true true true 2 [aa t1,v1])],3,0⟩)->ab P L 101 [.agg [aa s1,w1],.agg [aa s2,w2]] r:=fun r t1 t2 v1 v2 tm tail k2 k3 k4 e=>by
  unfold ab;rw [aA h.avb];show dV [.cell 4 4 true] (D P L (.seq (a6 mV.body) (.seq (a6 (aw mV.body)) (aw (aw mV.body)))) ⟨[(0,.agg [aa s1,w1]),(1,.agg [aa s2,w2])],[],0,0⟩)=_
  rw [B4,e,fF];exact tail tm k2 k3 k4
 by_cases hn:b<0
 ·obtain ⟨n1,e2,eV⟩:=E6 h.toNu ew ka (by omega);obtain ⟨n2,e3,dn⟩:=E6 h.toNu VP kb (by omega);obtain ⟨s3,w3,rfl,h3⟩:=eV;obtain ⟨s4,w4,rfl,h4⟩:=dn;obtain ⟨l3,u3⟩:=h3.aD;obtain ⟨l4,u4⟩:=h4.aD;obtain ⟨r,hr,tail⟩:=aa9 h h3 h4 (by omega) ka.neg kb.neg hK;rw [Rat.neg_divInt_neg] at hr;have hs:bN b<0:=by unfold bN;rw [yM hn];decide
  refine ⟨r,fin r _ _ _ _ _ tail ?_ ?_ ?_ (by simp only [go_sem,ya,yc,mV,a6,aw,hs,aO,u1.pu,u1.ai,u1.one,u2.pu,u2.ai,u2.one,bV,bw,e1,e2,e3,bg,dj u3,dj u4]<;>rfl),hr⟩<;>simp only [go_sem,ya]
 ·obtain ⟨r,hr,tail⟩:=aa9 h h1 h2 (by omega) ka kb hK;have hs:¬bN b<0:=by unfold bN;rw [yB hn];split<;>decide
  refine ⟨r,fin r _ _ _ _ _ tail ?_ ?_ ?_ (by simp only [go_sem,ya,yc,mV,a6,aw,hs,aO,u1.pu,u1.one,u2.pu,u2.ai,u2.one,bV,bw,e1]<;>rfl),hr⟩<;>simp only [go_sem,ya]
end
def Hq.mono {k m:Nat} {r:Rat} (h:Hq k r) (hk:k<=m):Hq m r:=⟨h.1.mono hk,h.2.mono hk⟩
def Hq.neg {k:Nat} {r:Rat} (h:Hq k r):Hq k (-r):=⟨h.1.neg,h.2⟩
def add_eq (a b:Rat):a+b=wy (a.num*b.den+b.num*a.den) ((a.den:Int)*b.den):=by
 rw [Rat.add_def',<-ybA,wY]
def mul_eq (a b:Rat):a*b=wy (a.num*b.num) ((a.den:Int)*b.den):=by
 rw [Rat.mul_def',<-ybA,wY]
def LY (a:Rat):0<(a.den:Int):=by have:=a.den_pos;omega
def DP (a b:Rat):0<(a.den:Int)*b.den:=Int.mul_pos (LY a) (LY b)
def Bd.TL {k:Nat} {a b:Int} (ha:Bd k a) (hb:Bd k b):Bd (k+1) (a+b):=by
 have:=ha.add hb
 grind
def Hq.add {k m:Nat} {a b:Rat} (ha:Hq k a) (hb:Hq m b):Hq (k+m+1) (a+b):=by
 rw [add_eq];refine Hq.divInt (DP a b) ?_ ((ha.2.mul hb.2).mono (by omega));exact (ha.1.mul hb.2).TL ((hb.1.mul ha.2).mono (by omega))
def Hq.mul {k m:Nat} {a b:Rat} (ha:Hq k a) (hb:Hq m b):Hq (k+m) (a*b):=by
 rw [mul_eq];exact Hq.divInt (DP a b) (ha.1.mul hb.1) (ha.2.mul hb.2)
def Hq.sub {k m:Nat} {a b:Rat} (ha:Hq k a) (hb:Hq m b):Hq (k+m+1) (a-b):=by
 rw [ybg];exact ha.add hb.neg
def Hq.inv {k:Nat} {a:Rat} (ha:Hq k a):Hq k a⁻¹:=by
 have h1:(a⁻¹).num.natAbs<=a.den:=by
  rw [Rat.num_inv,ybS]
  grind
 refine ⟨ha.2.le (by simpa using h1),?_⟩;unfold Bd;rw [Rat.den_inv]
 split
 ·have h2:=ha.2;unfold Bd at h2
  simp_all
 ·exact ha.1
def Hq.div {k m:Nat} {a b:Rat} (ha:Hq k a) (hb:Hq m b):Hq (k+m) (a/b):=by
 rw [Rat.div_def];exact ha.mul hb.inv
def oU (a b:Rat):Int:=if a<b then -1 else if a=b then 0 else 1
def aoG (a b:Rat):bN (a.num*b.den-b.num*a.den)=oU a b:=by
 unfold bN oU;by_cases h:a<b
 ·rw [yM h]
  have:=(ycT a b).1 h
  grind
 ·rw [yB h];have h1:¬a.num*b.den<b.num*a.den:=fun e=>h ((ycT a b).2 e)
  rw [yB (by omega)];by_cases h2:a=b
  ·grind
  ·rw [yB h2,yB (by have:¬a.num*b.den=b.num*a.den:=fun e=>h2 (Rat.eq_iff_mul_eq_mul.2 e);omega)]
def Mk (a:Rat) (h:a.den=1):a=(a.num:Rat):=by
 have:=Rat.num_divInt_den a
 rw [h] at this;rw [<-this];exact (Rat.ext (by simp [ybT]) (by simp [ybU]))
def rk (a b c d:AV) (r:List AV):gl 2 true (vH 2 (a::b::c::d::r))=some (.agg [c,d]):=rfl
def nI (a b:AV) (r:List AV):gl 2 true (a::b::r)=some (.agg [a,b]):=rfl
section
variable {P:aG} {L:Lib}
def E7 (h:Fr' P L) {v:AV} {z:Int} (hv:cp v z):∃r,ab P L 111 [v] r/\bS r (z:Rat):=by
 obtain ⟨o1,o2⟩:=zC h.toNu (z:=1) (by decide) (by decide);obtain ⟨s1,w1,rfl,h1⟩:=hv;obtain ⟨l1,u1⟩:=h1.aD;have un:=pQ;refine ⟨.agg [aa s1,w1,aa 1,.af],?_,s1,w1,1,.af,rfl,h1,.inl ⟨rfl,rfl,(by show (-9223372036854775808:Int)<=1;decide),(by show (1:Int)<9223372036854775808;decide)⟩⟩
 unfold ab;rw [aA h.avc];simp only [go_sem,ya,yc,S3,aO,u1.pu,u1.one,bV,o1,bg,Au,Aw,jy u1 un,dt,du,yp,dJ,jP u1 un]
def FW (h:Fr' P L) {z:Int} (h1: -9223372036854775808<=z) (h2:z<9223372036854775808):∃r,ab P L 69 [aa z] r/\bS r (z:Rat):=by
 obtain ⟨o1,o2⟩:=zC h.toNu h1 h2;obtain ⟨r,e,hr⟩:=E7 h o2;have bC:=hr;obtain ⟨s1,w1,s2,w2,rfl,k1,k2⟩:=hr;obtain ⟨l1,u1⟩:=k1.aD;obtain ⟨l2,u2⟩:=k2.aD;refine ⟨_,?_,bC⟩;unfold ab;rw [aA h.VN];simp only [go_sem,ya,yc,Va,aO,bw,o1,e,bg,jy u1 u2,dt,du,yp,dJ,jP u1 u2]
def VQ (h:Fr' P L) {v:AV} {a:Rat} (hv:bS v a):ab P L 98 [v] (.bool (decide (a.den=1))):=by
 obtain ⟨s1,w1,s2,w2,rfl,h1,h2⟩:=hv;obtain ⟨l1,u1⟩:=h1.aD;unfold ab;rw [aA h.h98];rcases h2 with ⟨rfl,rfl,b1,b2⟩ | ⟨e,l,rfl,gb,nb,vb,sb,b1⟩
 ·have e:decide (((a.den:Nat):Int)=1)=decide (a.den=1):=by simp;omega
  simp only [go_sem,ya,yc,OV,aO,u1.pu,u1.one,bq,yf,ato,acm,gF,eb,e]
 ·have e:decide (a.den=1)=false:=yX (by omega);rw [e];simp only [go_sem,ya,yc,OV,aO,u1.pu,u1.one,bq,yf,acm,nF,eb]
def adN (h:Fr' P L) {v:AV} {a:Rat} (hv:bS v a):ab P L 108 [v] (aa (bN a.num)):=by
 obtain ⟨s1,w1,s2,w2,rfl,h1,h2⟩:=hv;obtain ⟨l1,u1⟩:=h1.aD;obtain ⟨l2,u2⟩:=h2.aD;have e1:=E5 h.toNu ⟨s1,w1,rfl,h1⟩;unfold ab;rw [aA h.avd];simp only [go_sem,ya,yc,SZ,aO,u1.pu,u1.ai,u1.one,u2.pu,u2.one,bq,yf,nI,bw,e1]
def avg (h:Fr' P L) {v:AV} {a:Rat} {K:Nat} (hv:bS v a) (ka:Hq K a) (hK:K<=30000000000):∃r,ab P L 102 [v] r/\bS r (-a):=by
 obtain ⟨s1,w1,s2,w2,rfl,h1,h2⟩:=hv;obtain ⟨l1,u1⟩:=h1.aD;obtain ⟨l2,u2⟩:=h2.aD;obtain ⟨n,e1,hn⟩:=E6 h.toNu ⟨s1,w1,rfl,h1⟩ ka.1 (by omega);obtain ⟨s3,w3,rfl,h3⟩:=hn;obtain ⟨l3,u3⟩:=h3.aD;refine ⟨.agg [aa s3,w3,aa s2,w2],?_,s3,w3,s2,w2,rfl,h3,h2⟩;unfold ab;rw [aA h.ave];simp only [go_sem,ya,yc,SY,aO,u1.pu,u1.ai,u1.one,u2.pu,u2.one,u3.one,bq,yf,nI,rk,bw,e1,bg,Au,Aw,jy u3 u2,dt,du,yp,dJ,jP u3 u2]
def m74 (h:Fr' P L) {v w:AV} {a b:Rat} {K:Nat} (hv:bS v a) (hw:bS w b) (ka:Hq K a) (kb:Hq K b) (hK:K<=10000000000):∃r,ab P L 74 [v,w] r/\bS r (a+b):=by
 have i1:=VQ h hv;have i2:=VQ h hw;obtain ⟨s1,w1,s2,w2,rfl,h1,h2⟩:=hv;obtain ⟨s3,w3,s4,w4,rfl,h3,h4⟩:=hw;obtain ⟨l1,u1⟩:=h1.aD;obtain ⟨l2,u2⟩:=h2.aD;obtain ⟨l3,u3⟩:=h3.aD;obtain ⟨l4,u4⟩:=h4.aD;have n1:cp (.agg [aa s1,w1]) a.num:=⟨s1,w1,rfl,h1⟩;have n2:cp (.agg [aa s2,w2]) a.den:=⟨s2,w2,rfl,h2⟩;have n3:cp (.agg [aa s3,w3]) b.num:=⟨s3,w3,rfl,h3⟩;have n4:cp (.agg [aa s4,w4]) b.den:=⟨s4,w4,rfl,h4⟩;by_cases so:a.den=1/\b.den=1
 ·obtain ⟨d1,d2⟩:=so;obtain ⟨p,e1,hp⟩:=JK h.toNu n1 n3 ka.1 kb.1 (by omega);obtain ⟨r,e2,hr⟩:=E7 h hp;have he:((a.num+b.num:Int):Rat)=a+b:=by
   rw [Rat.intCast_add,<-Mk a d1,<-Mk b d2]
  rw [he] at hr;have bC:=hr;obtain ⟨s5,w5,rfl,h5⟩:=hp;obtain ⟨s6,w6,s7,w7,rfl,h6,h7⟩:=hr;obtain ⟨l5,u5⟩:=h5.aD;obtain ⟨l6,u6⟩:=h6.aD;obtain ⟨l7,u7⟩:=h7.aD;refine ⟨_,?_,bC⟩;rw [d1] at i1;rw [d2] at i2;unfold ab;rw [aA h.h74];simp only [go_sem,ya,yc,Kj,aO,u1.pu,u1.ai,u1.one,u2.pu,u2.ai,u2.one,u3.pu,u3.ai,u3.one,u4.pu,u4.ai,u4.one,bq,yf,dJ,nI,bw,i1,i2,e1,u5.ai,e2,bg,jy u6 u7,dt,du,yp,dJ,jP u6 u7]
 ·obtain ⟨p1,e1,bj⟩:=rG h.toNu n1 n4 ka.1 kb.2 (by omega);obtain ⟨p2,e2,jC⟩:=rG h.toNu n3 n2 kb.1 ka.2 (by omega);obtain ⟨p3,e3,hp3⟩:=JK h.toNu bj jC (ka.1.mul kb.2) (kb.1.mul ka.2) (by omega);obtain ⟨p4,e4,hp4⟩:=rG h.toNu n2 n4 ka.2 kb.2 (by omega);obtain ⟨r,e5,hr⟩:=Oc h hp3 hp4 (by have:=DP a b;omega) ((ka.1.mul kb.2).TL (kb.1.mul ka.2)) ((ka.2.mul kb.2).mono (by omega)) (by omega);rw [<-add_eq] at hr;have bC:=hr;obtain ⟨s5,w5,rfl,h5⟩:=bj;obtain ⟨s6,w6,rfl,h6⟩:=jC;obtain ⟨s7,w7,rfl,h7⟩:=hp3;obtain ⟨s8,w8,rfl,h8⟩:=hp4;obtain ⟨s9,w9,s10,w10,rfl,h9,iQ⟩:=hr;obtain ⟨l5,u5⟩:=h5.aD;obtain ⟨l6,u6⟩:=h6.aD;obtain ⟨l7,u7⟩:=h7.aD;obtain ⟨l8,u8⟩:=h8.aD;obtain ⟨l9,u9⟩:=h9.aD;obtain ⟨l10,Ph⟩:=iQ.aD;refine ⟨_,?_,bC⟩;unfold ab;rw [aA h.h74];by_cases d1:a.den=1
  ·rw [d1] at i1;rw [yX (fun d2=>so ⟨d1,d2⟩)] at i2;simp only [go_sem,ya,yc,Kj,aO,u1.pu,u1.ai,u1.one,u2.pu,u2.ai,u2.one,u3.pu,u3.ai,u3.one,u4.pu,u4.ai,u4.one,bq,yf,dJ,nI,rk,bw,i1,i2,e1,e2,u5.ai,u6.ai,e3,e4,u7.ai,u8.ai,e5,bg,jy u9 Ph,dt,du,yp,dJ,jP u9 Ph]
  ·rw [yX d1] at i1;simp only [go_sem,ya,yc,Kj,aO,u1.pu,u1.ai,u1.one,u2.pu,u2.ai,u2.one,u3.pu,u3.ai,u3.one,u4.pu,u4.ai,u4.one,bq,yf,dJ,nI,rk,bw,i1,e1,e2,u5.ai,u6.ai,e3,e4,u7.ai,u8.ai,e5,bg,jy u9 Ph,dt,du,yp,dJ,jP u9 Ph]
def KF (h:Fr' P L) {v w:AV} {a b:Rat} {K:Nat} (hv:bS v a) (hw:bS w b) (ka:Hq K a) (kb:Hq K b) (hK:K<=10000000000):∃r,ab P L 50 [v,w] r/\bS r (a-b):=by
 obtain ⟨n,e1,hn⟩:=avg h hw kb (by omega);obtain ⟨r,e2,hr⟩:=m74 h hv hn ka kb.neg hK;rw [<-ybg] at hr;have bC:=hr;obtain ⟨s1,w1,s2,w2,rfl,h1,h2⟩:=hv;obtain ⟨s3,w3,s4,w4,rfl,h3,h4⟩:=hw;obtain ⟨s5,w5,s6,w6,rfl,h5,h6⟩:=hn;obtain ⟨s7,w7,s8,w8,rfl,h7,h8⟩:=hr;obtain ⟨l1,u1⟩:=h1.aD;obtain ⟨l2,u2⟩:=h2.aD;obtain ⟨l3,u3⟩:=h3.aD;obtain ⟨l4,u4⟩:=h4.aD;obtain ⟨l5,u5⟩:=h5.aD;obtain ⟨l6,u6⟩:=h6.aD;obtain ⟨l7,u7⟩:=h7.aD;obtain ⟨l8,u8⟩:=h8.aD;refine ⟨_,?_,bC⟩;unfold ab;rw [aA h.VO];simp only [go_sem,ya,yc,U6,aO,u1.pu,u1.ai,u1.one,u2.pu,u2.ai,u2.one,u3.pu,u3.ai,u3.one,u4.pu,u4.ai,u4.one,u5.ai,u6.ai,dJ,bw,e1,e2,bg,jy u7 u8,dt,du,yp,dJ,jP u7 u8]
def zY (h:Fr' P L) {v w:AV} {a b:Rat} {K:Nat} (hv:bS v a) (hw:bS w b) (ka:Hq K a) (kb:Hq K b) (hK:K<=10000000000):∃r,ab P L 49 [v,w] r/\bS r (a*b):=by
 obtain ⟨s1,w1,s2,w2,rfl,h1,h2⟩:=hv;obtain ⟨s3,w3,s4,w4,rfl,h3,h4⟩:=hw;obtain ⟨l1,u1⟩:=h1.aD;obtain ⟨l2,u2⟩:=h2.aD;obtain ⟨l3,u3⟩:=h3.aD;obtain ⟨l4,u4⟩:=h4.aD;obtain ⟨p1,e1,bj⟩:=rG h.toNu (v:= .agg [aa s1,w1]) (w:= .agg [aa s3,w3]) ⟨s1,w1,rfl,h1⟩ ⟨s3,w3,rfl,h3⟩ ka.1 kb.1 (by omega);obtain ⟨p2,e2,jC⟩:=rG h.toNu (v:= .agg [aa s2,w2]) (w:= .agg [aa s4,w4]) ⟨s2,w2,rfl,h2⟩ ⟨s4,w4,rfl,h4⟩ ka.2 kb.2 (by omega);obtain ⟨r,e3,hr⟩:=Oc h bj jC (by have:=DP a b;omega) (ka.1.mul kb.1) (ka.2.mul kb.2) (by omega);rw [<-mul_eq] at hr;have bC:=hr;obtain ⟨s5,w5,rfl,h5⟩:=bj;obtain ⟨s6,w6,rfl,h6⟩:=jC;obtain ⟨s7,w7,s8,w8,rfl,h7,h8⟩:=hr;obtain ⟨l5,u5⟩:=h5.aD;obtain ⟨l6,u6⟩:=h6.aD;obtain ⟨l7,u7⟩:=h7.aD;obtain ⟨l8,u8⟩:=h8.aD;refine ⟨_,?_,bC⟩;unfold ab;rw [aA h.oe]
 simp only [go_sem,ya,yc,c49,aO,u1.pu,u1.ai,u1.one,u2.pu,u2.ai,u2.one,u3.pu,u3.ai,u3.one,u4.pu,u4.ai,u4.one,u5.ai,u6.ai,bq,yf,nI,rk,bw,e1,e2,e3,bg,jy u7 u8,dt,du,yp,dJ,jP u7 u8]
def m73 (h:Fr' P L) {v:AV} {a:Rat} {K:Nat} (hv:bS v a) (h0:a≠0) (ka:Hq K a) (hK:K<=10000000000):∃r,ab P L 73 [v] r/\bS r a⁻¹:=by
 obtain ⟨s1,w1,s2,w2,rfl,h1,h2⟩:=hv;obtain ⟨l1,u1⟩:=h1.aD;obtain ⟨l2,u2⟩:=h2.aD;obtain ⟨r,e1,hr⟩:=Oc h (v:= .agg [aa s2,w2]) (w:= .agg [aa s1,w1]) ⟨s2,w2,rfl,h2⟩ ⟨s1,w1,rfl,h1⟩ (fun e=>h0 (Rat.num_eq_zero.1 e)) ka.2 ka.1 (by omega);rw [<-Rat.inv_def] at hr;have bC:=hr;obtain ⟨s7,w7,s8,w8,rfl,h7,h8⟩:=hr;obtain ⟨l7,u7⟩:=h7.aD;obtain ⟨l8,u8⟩:=h8.aD;refine ⟨_,?_,bC⟩;unfold ab;rw [aA h.h73];simp only [go_sem,ya,yc,Vd,aO,u1.pu,u1.ai,u1.one,u2.pu,u2.ai,u2.one,bq,yf,nI,rk,bw,e1,bg,jy u7 u8,dt,du,yp,dJ,jP u7 u8]
def m70 (h:Fr' P L) {v w:AV} {a b:Rat} {K:Nat} (hv:bS v a) (hw:bS w b) (h0:b≠0) (ka:Hq K a) (kb:Hq K b) (hK:K<=10000000000):∃r,ab P L 70 [v,w] r/\bS r (a/b):=by
 obtain ⟨n,e1,hn⟩:=m73 h hw h0 kb hK;obtain ⟨r,e2,hr⟩:=zY h hv hn ka kb.inv hK;have bC:=hr;obtain ⟨s1,w1,s2,w2,rfl,h1,h2⟩:=hv;obtain ⟨s3,w3,s4,w4,rfl,h3,h4⟩:=hw;obtain ⟨s5,w5,s6,w6,rfl,h5,h6⟩:=hn;obtain ⟨s7,w7,s8,w8,rfl,h7,h8⟩:=hr;obtain ⟨l1,u1⟩:=h1.aD;obtain ⟨l2,u2⟩:=h2.aD;obtain ⟨l3,u3⟩:=h3.aD;obtain ⟨l4,u4⟩:=h4.aD;obtain ⟨l5,u5⟩:=h5.aD;obtain ⟨l6,u6⟩:=h6.aD;obtain ⟨l7,u7⟩:=h7.aD;obtain ⟨l8,u8⟩:=h8.aD;refine ⟨_,?_,bC⟩;unfold ab;rw [aA h.h70];simp only [go_sem,ya,yc,Vb,aO,u1.pu,u1.ai,u1.one,u2.pu,u2.ai,u2.one,u3.pu,u3.ai,u3.one,u4.pu,u4.ai,u4.one,u5.ai,u6.ai,dJ,bw,e1,e2,bg,jy u7 u8,dt,du,yp,dJ,jP u7 u8]
def m71 (h:Fr' P L) {v w:AV} {a b:Rat} {K:Nat} (hv:bS v a) (hw:bS w b) (ka:Hq K a) (kb:Hq K b) (hK:K<=10000000000):ab P L 71 [v,w] (aa (oU a b)):=by
 obtain ⟨s1,w1,s2,w2,rfl,h1,h2⟩:=hv;obtain ⟨s3,w3,s4,w4,rfl,h3,h4⟩:=hw;obtain ⟨l1,u1⟩:=h1.aD;obtain ⟨l2,u2⟩:=h2.aD;obtain ⟨l3,u3⟩:=h3.aD;obtain ⟨l4,u4⟩:=h4.aD;obtain ⟨p1,e1,bj⟩:=rG h.toNu (v:= .agg [aa s1,w1]) (w:= .agg [aa s4,w4]) ⟨s1,w1,rfl,h1⟩ ⟨s4,w4,rfl,h4⟩ ka.1 kb.2 (by omega);obtain ⟨p2,e2,jC⟩:=rG h.toNu (v:= .agg [aa s3,w3]) (w:= .agg [aa s2,w2]) ⟨s3,w3,rfl,h3⟩ ⟨s2,w2,rfl,h2⟩ kb.1 ka.2 (by omega);have e3:=adI h.toNu bj jC (ka.1.mul kb.2) (kb.1.mul ka.2) (by omega);rw [aoG] at e3;obtain ⟨s5,w5,rfl,h5⟩:=bj;obtain ⟨s6,w6,rfl,h6⟩:=jC;obtain ⟨l5,u5⟩:=h5.aD;obtain ⟨l6,u6⟩:=h6.aD;unfold ab;rw [aA h.h71];simp only [go_sem,ya,yc,Vc,aO,u1.pu,u1.ai,u1.one,u2.pu,u2.ai,u2.one,u3.pu,u3.ai,u3.one,u4.pu,u4.ai,u4.one,u5.ai,u6.ai,bq,yf,nI,rk,bw,e1,e2,e3,bg]
def TM (h:Fr' P L) {v:AV} {a:Rat} {K:Nat} (hv:bS v a) (ka:Hq K a) (hK:K<=10000000000):∃r,ab P L 149 [v] r/\cp r a.floor:=by
 obtain ⟨s1,w1,s2,w2,rfl,h1,h2⟩:=hv;obtain ⟨l1,u1⟩:=h1.aD;obtain ⟨l2,u2⟩:=h2.aD;obtain ⟨q,r,e1,hq,hr⟩:=TK h.toNu (v:= .agg [aa s1,w1]) (w:= .agg [aa s2,w2]) ⟨s1,w1,rfl,h1⟩ ⟨s2,w2,rfl,h2⟩ (LY a) ka.1 ka.2 (by omega);rw [<-Rat.floor_def] at hq;have bJ:=hq;obtain ⟨s3,w3,rfl,h3⟩:=hq;obtain ⟨s4,w4,rfl,h4⟩:=hr;obtain ⟨l3,u3⟩:=h3.aD;obtain ⟨l4,u4⟩:=h4.aD;refine ⟨_,?_,bJ⟩;unfold ab;rw [aA h.avf];simp only [go_sem,ya,yc,S7,aO,u1.pu,u1.ai,u1.one,u2.pu,u2.ai,u2.one,bq,yf,nI,rk,bw,e1,qP,dt,du,yp,mh u3,dj u3,dj u4]
end
def q8:List AV->Option (List Nat)
 | []=>some []
 | .int .u64 (.ofNat d)::r=>bif yK d 18446744073709551616 then (match q8 r with | some l=>some (d::l) | none=>none) else none
 | _::_=>none
def rH:List Nat->Nat
 | []=>0
 | a::r=>a+18446744073709551616*rH r
def AU:List Nat->Bool
 | []=>false
 | [a]=> !yt a 0
 | _::r=>AU r
def Ml:List AV->Option AV
 | [.agg [.int .i64 s,.af]]=>bif AR s then some (.str (aT s)) else none
 | [.agg [.int .i64 s,.aC _ n cs]]=>
  match q8 cs with
  | some l=>
   bif yt l.length n&&(yG n 4000000000&&(AU l&&yG 9223372036854775808 (rH l))) then
    match s with
    | .ofNat 1=>some (.str (aq (rH l)))
    | .negSucc 0=>some (.str (45::aq (rH l)))
    | _=>none
   else none
  | none=>none
 | _=>none
def XI:∀{l:List Nat},lo 18446744073709551616 l->q8 (l.map uc)=some l
 | [],_=>rfl
 | a::l,h=>by
  have h1:=h a (by simp);have h2:=XI (l:=l) (fun x hx=>h x (by simp [hx]));show (bif yK a 18446744073709551616 then (match q8 (l.map uc) with | some l=>some (a::l) | none=>none) else none)=_
  rw [jO h1,h2];rfl
def Rg:∀l:List Nat,rH l=bv 18446744073709551616 l
 | []=>rfl
 | a::l=>by simp only [rH,bv,Rg l]
def Zt:∀{l:List Nat},l≠[]->gI l->AU l=true
 | [],h,_=>absurd rfl h
 | [a],_,h=>by
  have:a≠0:=fun e=>by
   subst e;have h:dT [0]=[0]:=h;simp [dT] at h
  simp [AU,cd this]
 | a::b::r,_,h=>by
  have h1:gI (b::r):=by
   have h:dT (a::b::r)=a::b::r:=h;rw [dT] at h
   grind
  have:=Zt (l:=b::r) (by simp) h1
  simpa [AU] using this
section
variable {P:aG} {L:Lib}
structure Tx (P:aG) (L:Lib):Prop extends Fr' P L where
 FX:L.pure 99=some Ml
 adO:L.pure 175=some HY
 adP:L.pure 152=some Ld
 TN:L.pure 153=some K0
 TO:L.pure 154=some IP
 TP:L.pure 109=some Nk
 p8:Has P L 155 EU
 TQ:Has P L 172 Jg
 avh:Has P L 151 Nz
 avi:Has P L 107 Ns
 VR:Has P L 46 OQ
 adQ:Has P L 110 Nt
 Pj:Has P L 62 OS
def VS (h:Tx P L) {v:AV} {z:Int} {K:Nat} (hv:cp v z) (hz:Bd K z) (hK:K<=4000000000):ab P L 99 [v] (.str (aT z)):=by
 obtain ⟨s,w,rfl,hn⟩:=hv;unfold ab;rw [iA h.FX];rcases hn with ⟨rfl,rfl,h1,h2⟩ | ⟨e,l,rfl,g,n,hb,hs,h1⟩
 ·show (bif AR s then some (AV.str (aT s)) else none)=_
  have:AR s=true:=by
   cases s with
   | ofNat k=>exact jO (by have:(Int.ofNat k)=(k:Int):=rfl;omega)
   | negSucc k=>exact jO (by omega)
  grind
 ·have iO:l≠[]:=fun e=>by subst e;simp [bv] at hb;omega
  have po:l.length<=4000000000:=xg (mX n hb (yA hz (AI K))) hK
  show (match q8 (l.map uc) with
   | some l'=>bif yt l'.length l.length&&(yG l.length 4000000000&&(AU l'&&yG 9223372036854775808 (rH l'))) then (match s with | .ofNat 1=>some (AV.str (aq (rH l'))) | .negSucc 0=>some (.str (45::aq (rH l'))) | _=>none) else none
   | none=>none)=_
  rw [XI g];simp only [xG,yy po,Zt iO n,Rg,hb,yy h1,wQ,yx];by_cases h0:z<0
  ·rw [yM h0] at hs;subst hs;rw [lW h0];rfl
  ·rw [yB h0] at hs;subst hs;obtain ⟨m,rfl⟩:∃m:Nat,z=m:=⟨z.toNat,by omega⟩;rfl
def RT (r:Rat):List Nat:=aT r.num++(if r.den=1 then [] else 47::aq r.den)
def Ho {z:Int} {k:Nat} (h:Bd k z):(aT z).length<=k+1:=by
 have h1:∀m:Nat,m<2^k->(aq m).length<=max k 1:=fun m hm=>by
  cases k with
  | zero=>
       have:m=0:=by simpa using hm
       subst this;decide
  | succ k=>
   rw [Nat.max_eq_left (by omega)];exact pP (k:=k) (yA hm (vm (by decide) _))
 by_cases h0:z<0
 ·rw [lW h0];unfold Bd at h
  grind
 ·obtain ⟨m,rfl⟩:∃m:Nat,z=m:=⟨z.toNat,by omega⟩
  have:=h1 m (by unfold Bd at h;simpa using h)
  rw [jX];omega
def m46 (h:Tx P L) {v:AV} {a:Rat} {K:Nat} (hv:bS v a) (ka:Hq K a) (hK:K<=4000000000):ab P L 46 [v] (.str (RT a)):=by
 have i1:=VQ h.toFr' hv;obtain ⟨s1,w1,s2,w2,rfl,h1,h2⟩:=hv;obtain ⟨l1,u1⟩:=h1.aD;obtain ⟨l2,u2⟩:=h2.aD;have e1:=VS h (v:= .agg [aa s1,w1]) ⟨s1,w1,rfl,h1⟩ ka.1 hK;have e2:=VS h (v:= .agg [aa s2,w2]) ⟨s2,w2,rfl,h2⟩ ka.2 hK;have b1:=Ho ka.1;have b2:=Ho ka.2;rw [jX] at e2 b2;unfold ab RT;rw [aA h.VR];by_cases hd:a.den=1
 ·rw [yM hd,xW];rw [hd] at i1;simp only [go_sem,ya,yc,OQ,aO,u1.pu,u1.ai,u1.one,u2.pu,u2.ai,u2.one,dJ,bw,i1,bq,yf,nI,e1]
 ·rw [yB hd];rw [yX hd] at i1;have hc:aT a.num++47::aq a.den=(aT a.num++[47])++aq a.den:=by simp
  rw [hc]
  simp only [go_sem,ya,yc,OQ,aO,u1.pu,u1.ai,u1.one,u2.pu,u2.ai,u2.one,dJ,bw,i1,bq,yf,nI,rk,e1,e2,gB (a:=aT a.num) (b:=[47]) (by simp;omega),gB (a:=aT a.num++[47]) (b:=aq a.den) (by simp;omega)]
end
def avj {n:Nat} (h:n<9223372036854775808):binOp .and (.int .i64 (n:Int)) (.int .i64 1)=some (.int .i64 ((n%2:Nat):Int)):=by
 show some (AV.int .i64 (IntKind.wrap .i64 ((xI 64 (n:Int)&&&xI 64 1).toNat:Int)))=_
 rw [show xI 64 (n:Int)=uS 64 n from BitVec.ofInt_natCast 64 n,show xI 64 1=uS 64 1 from rfl];rw [BitVec.toNat_and,vK,vK,show (1%2^64:Nat)=2^1-1 from rfl,Nat.and_two_pow_sub_one_eq_mod,wrapN (by omega)]
 grind
def avk (n:Nat):binOp .shr (.int .i64 (n:Int)) (.int .u64 1)=some (.int .i64 ((n/2:Nat):Int)):=by
 show some (AV.int .i64 ((n:Int).fdiv (2^1)))=_
 grind
def Bd.pow {k:Nat} {z:Int} (h:Bd k z):∀e,Bd (k*e+1) (z^e)
 | 0=>by rw [yaz,xx];unfold Bd;decide
 | e+1=>by
  have ih:=Bd.pow h e;rw [Int.pow_succ];exact (ih.mul h).mono (by rw [xC,yj];omega)
section
variable {P:aG} {L:Lib}
def arf (h:Nu P L) (N9:True) {z:Int} {K k0:Nat} (hz:Bd K z) (hK:K*k0+1<=30000000000) {o1 o2:AV}:
  ∀m st,(∃(k i e:Nat) (s1 s2:Int) (w1 w2:AV),aM [1,2,4,5] st=⟨[(1,aa k),(2,.ptr 0 0),(4,.ptr 1 0),(5,.ptr 2 0)],[(2,.cells true true true 2 [aa s2,w2]),(1,.cells true true true 2 [o1,o2]),(0,.cells true true true 2 [aa s1,w1])],3,0⟩/\cT s1 w1 (z^i)/\cT s2 w2 (z^e)/\e+i*k=k0/\(0<k->i<=k0)/\k<9223372036854775808/\k=m)->
   ∃ex st',D P L (.loop [1,2,4,5] Cj) st=some (ex,st')/\∃tm s2 w2 c0,st'=⟨tm,[(2,.cells true true true 2 [aa s2,w2]),(1,.cells true true true 2 [o1,o2]),(0,c0)],3,0⟩/\ex= .exit 0/\aj tm 4= .ptr 1 0/\aj tm 5= .ptr 2 0/\cT s2 w2 (z^k0):=by
 intro dq sq;generalize bf:aM [1,2,4,5] sq=s0;revert bf s0 sq dq;apply dh;rintro m st ⟨k,i,e,s1,s2,w1,w2,rfl,h1,h2,hk,hi,hkb,rfl⟩;obtain ⟨l1,u1⟩:=h1.aD;obtain ⟨l2,u2⟩:=h2.aD;by_cases OA:k=0
 ·right
  subst OA;rw [xx,yW] at hk;subst hk;simp only [go_sem,Cj,show ¬(0:Int)<((0:Nat):Int) by omega];exact ⟨_,_,rfl,by simp,_,s2,w2,_,rfl,rfl,by simp only [go_sem,ya],by simp only [go_sem,ya],h2⟩
 ·left
  have cD:=hi (by omega);have he:e<=k0:=by omega
  have hik:i*1<=i*k:=yU i (by omega);have b1:Bd (K*k0+1) (z^i):=(hz.pow i).mono (by have:=yU K cD;omega);have b2:Bd (K*k0+1) (z^e):=(hz.pow e).mono (by have:=yU K he;omega);have n1:cp (.agg [aa s1,w1]) (z^i):=⟨s1,w1,rfl,h1⟩;have n2:cp (.agg [aa s2,w2]) (z^e):=⟨s2,w2,rfl,h2⟩;obtain ⟨p,e1,hp⟩:=rG h n2 n1 b2 b1 (by omega);obtain ⟨q,e2,hq⟩:=rG h n1 n1 b1 b1 (by omega);rw [<-Int.pow_add] at hp hq;obtain ⟨s3,w3,rfl,h3⟩:=hp;obtain ⟨s4,w4,rfl,h4⟩:=hq;obtain ⟨l3,u3⟩:=h3.aD;obtain ⟨l4,u4⟩:=h4.aD;have fg:=wb k 2;have KG:=avj (n:=k) hkb;have VT:=avk k;have acv:(i+i)*(k/2)=i*(2*(k/2)):=by rw [<-Nat.two_mul,xA 2 i,xm]
  by_cases avl:k%2=1
  ·rw [avl] at KG fg;have qh:i*k=i*(2*(k/2))+i:=by
    conv=>lhs;rw [<-fg,xC,yj]
   by_cases fT:1<k
   ·simp only [go_sem,ya,Cj,show (0:Int)<(k:Int) by omega,KG,show ((1:Nat):Int)=1 from rfl,bV,bw,u1.ai,u2.ai,e1,bg,bV,yp,dj u3,dj u4,show (1:Int)<(k:Int) by omega,e2,VT]
    exact ⟨_,k/2,rfl,by omega,k/2,i+i,e+i,s4,s3,w4,w3,by simp only [go_sem,ya,yc,ax],h4,h3,by omega,fun h0=>by have:=yU (i+i) h0;omega,by omega,rfl⟩
   ·have fm:e+i+i*(k/2)=k0:=by
     have h1:k/2=0:=by omega
     rw [h1] at qh ⊢;omega
    simp only [go_sem,ya,Cj,show (0:Int)<(k:Int) by omega,KG,show ((1:Nat):Int)=1 from rfl,bV,bw,u1.ai,u2.ai,e1,bg,bV,yp,dj u3,show ¬(1:Int)<(k:Int) by omega,VT];exact ⟨_,k/2,rfl,by omega,k/2,i,e+i,s1,s3,w1,w3,by simp only [go_sem,ya,yc,ax],h1,h3,fm,fun h0=>by omega,by omega,rfl⟩
  ·have Dp:k%2=0:=by omega
   rw [Dp] at KG fg;have qh:i*k=i*(2*(k/2)):=by
    conv=>lhs;rw [<-fg,yW]
   simp only [go_sem,ya,Cj,show (0:Int)<(k:Int) by omega,KG,show ((0:Nat):Int)=0 from rfl,vv,bV,bw,u1.ai,bg,bV,yp,dj u4,show (1:Int)<(k:Int) by omega,e2,VT]
   exact ⟨_,k/2,rfl,by omega,k/2,i+i,e,s4,s2,w4,w2,by simp only [go_sem,ya,yc,ax],h4,h2,by omega,fun h0=>by have:=yU (i+i) h0;omega,by omega,rfl⟩
def TR (h:Nu P L) (p8:Has P L 155 EU) {v:AV} {z:Int} {K k:Nat} (hv:cp v z) (hz:Bd K z) (hK:K*k+1<=30000000000) (hk:k<9223372036854775808):∃r,ab P L 155 [v,aa k] r/\cp r (z^k):=by
 obtain ⟨o1,o2⟩:=zC h (z:=1) (by decide) (by decide);obtain ⟨s1,w1,rfl,h1⟩:=hv;obtain ⟨l1,u1⟩:=h1.aD;have un:=pQ;have jd:∃s w,ab P L 155 [.agg [aa s1,w1],aa k] (.agg [aa s,w])/\cT s w (z^k):=by
  unfold ab;rw [aA p8];simp only [go_sem,ya,yc,EU,aO,u1.pu,u1.one,o1,bg,dj un];generalize hq:D P L (.loop [1,2,4,5] Cj) _=q;obtain ⟨ex,st,rfl,tm,s5,w5,c1,rfl,rfl,t4,t5,h5⟩:=bI hq (arf (P:=P) (L:=L) h trivial hz (k0:=k) hK (o1:= .int .i64 0) (o2:= .af) k) ⟨k,1,0,s1,1,w1,.af,by simp only [go_sem,ya,yc,ax],by rw [Int.pow_one];exact h1,.inl ⟨rfl,(yaz z).symm,(by rw [yaz];decide)⟩,by omega,fun h0=>h0,hk,rfl⟩
  obtain ⟨l5,u5⟩:=h5.aD;refine ⟨s5,w5,?_,h5⟩;simp only [go_sem,ya,yc,ax,t4,t5,dt,du,bV,yp,mh u5,dj u5]
 obtain ⟨s,w,e,hn⟩:=jd;exact ⟨_,e,s,w,rfl,hn⟩
def HC:∀(l m:List Nat) (a:Nat),cL (l++m) a=(cL l a).bind (fun v=>cL m v)
 | [],m,a=>rfl
 | b::l,m,a=>by
  simp only [List.cons_append,cL]
  cases (yG 48 b&&yG b 57) with
  | true=>exact HC l m _
  | false=>rfl
def aml:∀{l:List Nat} {a v:Nat},cL l 0=some v->cL l a=some (a*10^l.length+v):=by
 intro l
 suffices h:∀{l:List Nat} {a b v:Nat},cL l b=some v->b*10^l.length<=v/\cL l (a+b)=some (a*10^l.length+v) by
  intro a v hv
  have:=(h (a:=a) hv).2
  grind
 intro l
 induction l with
 | nil=>intro a b v h;simp [cL] at h ⊢;omega
 | cons c l ih=>
  intro a b v h;simp only [cL] at h ⊢
  cases hb:(yG 48 c&&yG c 57) with
  | false=>rw [hb] at h;cases h
  | true=>
   rw [hb] at h;obtain ⟨h1,h2⟩:=ih (a:=10*a) h;simp only [yv,y9]
   grind
def Rh:∀{l:List Nat} {v:Nat},cL l 0=some v->v<10^l.length:=by
 suffices h:∀{l:List Nat} {b v:Nat},cL l b=some v->v<(b+1)*10^l.length by
  grind
 intro l
 induction l with
 | nil=>intro b v h;simp [cL] at h ⊢;omega
 | cons c l ih=>
  intro b v h;simp only [cL] at h
  cases hb:(yG 48 c&&yG c 57) with
  | false=>rw [hb] at h;cases h
  | true=>
   simp only [Bool.and_eq_true] at hb;have hc:=Nat.le_of_ble_eq_true hb.2;have h2:=yS (10^l.length) (show 10*b+(c-48)+1<=10*(b+1) by omega)
   grind
def aoH (TO:L.pure 154=some IP) {f:cw} {s:List Nat} {v:Nat} (h0:0<s.length) (h1:s.length<=18) (hv:cL s 0=some v):bF P L f 154 [.str s]=some (.ap [.int .i64 v,.undef]):=by
 rw [iA TO];show (bif yK 0 s.length&&yG s.length 18 then (match cL s 0 with | some n=>some (AV.ap [.int .i64 n,.undef]) | none=>none) else none)=_
 rw [jO h0,yy h1,hv];rfl
end
def Yw:∀j:Nat,gP [48] j++[48]=[48]++gP [48] j
 | 0=>rfl
 | j+1=>by
  show ([48]++gP [48] j)++[48]=[48]++([48]++gP [48] j)
  rw [xr,Yw j]
def D1:∀j:Nat,(gP [48] j).length=j
 | 0=>rfl
 | j+1=>by show ([48]++gP [48] j).length=_;rw [yR,D1 j];simp;omega
def aj2:∀(k n:Nat),n<10^k->0<k->iI k n=gP [48] (k-(aq n).length)++aq n:=by
 intro k
 induction k with
 | zero=>intro n _ h;omega
 | succ k ih=>
  intro n hn _;rw [iI];by_cases iQ:n<10
  ·rw [nn iQ,yL iQ]
   cases k with
   | zero=>rfl
   | succ k=>
    rw [ih (n/10) (by rw [xO iQ];exact yax (by decide)) (by omega),xO iQ]
    rw [show aq 0=[48] by decide];rw [Yw];rfl
  ·have hk:0<k:=by
    grind
   rw [ih (n/10) (by rw [y9] at hn;omega) hk,ox iQ,xr,yR]
   grind
def aj3 {m d r:Nat} (hd:d=m/1000000000000000000) (hr:r=m%1000000000000000000):(0<d->aq m=aq d++(gP [48] (18-(aq r).length)++aq r))/\(d=0->aq m=aq r):=by
 have VM:r<10^18:=by omega
 constructor
 ·intro h0;rw [<-aj2 18 r VM (by decide),<-LV 18 d r h0 VM]
  grind
 ·grind
section
variable {P:aG} {L:Lib}
def arh {f:cw} (h:L.pure 138=some Ac) {n:Nat} (hn:n<18446744073709551616):bF P L f 138 [uc n,aa 10]=some (.str (aq n)):=by
 rw [iA h];show (bif yK n 18446744073709551616 then some (AV.str (aq n)) else none)=_
 rw [jO hn];rfl
def RY {f:cw} (h:L.pure 139=some At) {n:Nat} (hn:n<=100):bF P L f 139 [.str [48],aa (n:Nat)]=some (.str (gP [48] n)):=by
 rw [iA h];show (bif yG n 1099511627776&&yG (1*n) 1099511627776 then some (AV.str (gP [48] n)) else none)=_
 rw [yy (by omega),yy (by omega)];rfl
def ari (h:Wd P L) (C6:L.pure 138=some Ac) (zD:L.pure 139=some At) {neg:Bool} {M K:Nat} (VU:0<M) (hK:K<=4000000000) (hlen:(aq M).length<=300000000000):
  ∀k s,(∃(m:Nat) (w:AV) (ps:List (List Nat)) (fl:Bool),m=k/\WN w m/\m<18446744073709551616^K/\aq M=(if m=0 then [] else aq m)++ps.reverse.flatten/\((ps=[]->m=M)/\18*ps.length<=(aq M).length+18)/\(m≠0->18*ps.length+(aq m).length=(aq M).length)/\
    ((ps=[]/\aM [3,4,5,6] s=⟨[(3,.bool neg),(4,w),(5,.ay 0 0 1),(6,.af)],[(0,.cells fl true true 1 [uc 1000000000000000000])],1,0⟩)\/
    (ps≠[]/\aM [3,4,5,6] s=⟨[(3,.bool neg),(4,w),(5,.ay 0 0 1),(6,.ay 1 0 ps.length)],[(1,.cells true true false 1 (ps.map .str)),(0,.cells fl true true 1 [uc 1000000000000000000])],2,0⟩)))->
   ∃ex s',D P L (.loop [3,4,5,6] oL) s=some (ex,s')/\∃tm ps fl,ex= .exit 0/\ps≠[]/\ps.length<=300000000000/\aq M=ps.reverse.flatten/\aj tm 3= .bool neg/\aj tm 6= .ay 1 0 ps.length/\s'=⟨tm,[(1,.cells true true false 1 (ps.map .str)),(0,.cells fl true true 1 [uc 1000000000000000000])],2,0⟩:=by
 intro dq sq;generalize bf:aM [3,4,5,6] sq=s0;revert bf s0 sq dq;apply dh;rintro k s ⟨m,w,ps,fl,rfl,hw,hmK,zZ,adR,mY,hs⟩;obtain ⟨lw,uw,gw,nw,vw⟩:=hw;by_cases hm:m=0
 ·right
  have iO:lw=[]:=yJ (Nat.le_zero.1 (mX (K:=0) nw vw (by rw [hm];decide)))
  subst iO;rw [yM hm,xX] at zZ;have fM:ps≠[]:=fun e=>by have:=adR.1 e;omega
  have Pk:ps.length<=300000000000:=by have:=adR.2;omega
  rcases hs with ⟨h0,_⟩ | ⟨_,rfl⟩
  ·exact absurd h0 fM
  ·simp only [go_sem,ya,oL,uw.len,yI,show ¬(0:Int)<((0:Nat):Int) by omega];exact ⟨_,_,rfl,by simp,_,ps,fl,rfl,fM,Pk,zZ,by simp only [go_sem,ya],by simp only [go_sem,ya],rfl⟩
 ·left
  have hw:WN w m:=⟨lw,uw,gw,nw,vw⟩;have hB:WN (.aC true 1 [uc 1000000000000000000]) 1000000000000000000:=⟨[1000000000000000000],mL true [1000000000000000000],Er.2 (by decide),by decide,by simp [bv]⟩;obtain ⟨q,r,e1,hq,hr⟩:=adD h hw hB (K:=K+1) (by decide) (yA hmK (yV (by decide) (by omega))) (by rw [y9];have:=yax (n:=K) (show 0<18446744073709551616 by decide);omega) (by omega)
  obtain ⟨t1,t2⟩:=aj3 (m:=m) rfl rfl;have fg:=wb m 1000000000000000000;have hrB:=xE m (show 0<1000000000000000000 by decide);obtain ⟨d,hd⟩:∃d,d=m/1000000000000000000:=⟨_,rfl⟩;obtain ⟨x,hx⟩:∃x,x=m%1000000000000000000:=⟨_,rfl⟩;rw [<-hd] at hq t1 t2 fg;rw [<-hx] at hr t1 t2 fg hrB;obtain ⟨lq,uq,gq,nq,vq⟩:=hq;obtain ⟨lr,ur,gr,nr,vr⟩:=hr;have hxl:(aq x).length<=18:=pP (k:=17) (by omega);have hxp:=sN x;have Kr:(lr=[]/\x=0)\/lr=[x]:=by
   have h1:lr.length<=1:=mX (K:=1) nr vr (by rw [ycJ];omega)
   cases lr with
   | nil=>exact .inl ⟨rfl,by rw [<-vr];rfl⟩
   | cons a l=>
    cases l with
    | nil=>rw [AG] at vr;exact .inr (by rw [vr])
    | cons b l=>simp at h1
  have FY:(lq=[]/\d=0)\/(0<lq.length/\0<d):=by
   cases lq with
   | nil=>exact .inl ⟨rfl,by rw [<-vq];rfl⟩
   | cons a l=>
    refine .inr ⟨by simp,?_⟩;rcases xn d with h0 | h0
    ·have:=mX (K:=0) nq vq (by rw [h0];decide)
     simp at this
    ·exact h0
  unfold ab at e1;have BJ:(0:Int)<(lw.length:Int):=by
   have:lw≠[]:=fun e=>by subst e;simp [bv] at vw;omega
   have:=vL.2 this
   omega
  have azS:=mY hm;have hmp:=sN m;have new:∀t:List Nat,aq m=(if d=0 then [] else aq d)++t->(d≠0->t.length=18)->
    aq M=(if d=0 then [] else aq d)++(ps++[t]).reverse.flatten/\((ps++[t]=[]->d=M)/\18*(ps++[t]).length<=(aq M).length+18)/\(d≠0->18*(ps++[t]).length+(aq d).length=(aq M).length):=fun t h1 h2=>by
   rw [yB hm,h1] at zZ;refine ⟨by rw [zZ];simp,⟨by simp,by simp only [yR,yv,yI];omega⟩,fun h0=>?_⟩
   have h3:=congrArg List.length h1;rw [yB h0,yR,h2 h0] at h3;simp only [yR,yv,yI];omega
  have A8:d<m:=by omega
  have BK:WN q d:=⟨lq,uq,gq,nq,vq⟩;have n9:lr=[x]->ju 1 0 r=some (.aJ (.int .u64 x::([]:List AV))):=fun e=>by
   subst e
   have:=ur.bn (i:=0) (by simp)
   simpa using this
  have f1:=arh (P:=P) (f:=D P L) C6 (n:=x) (by omega);have f2:=RY (P:=P) (f:=D P L) zD (n:=18-(aq x).length) (by omega);have TS:(18:Int)-((aq x).length:Int)=((18-(aq x).length:Nat):Int):=by omega
  have azT:18*ps.length<=300000000000:=by omega
  have zl:(gP [48] (18-(aq x).length)++aq x).length=18:=by rw [yR,D1];omega
  obtain ⟨z,hz⟩:∃z,z=aq x:=⟨_,rfl⟩;have jF:x=0->z=[48]:=fun e=>by rw [hz,e];decide
  rw [<-hz] at f1 f2 TS hxl hxp zl t1 t2;cases fl
  all_goals
   rcases FY with ⟨rfl,fW⟩ | ⟨Pm,fW⟩
   ·obtain ⟨n1,n2,n3⟩:=new z (by rw [yM fW,xX];exact t2 fW) (fun h=>absurd fW h)
    rcases Kr with ⟨rfl,zS⟩ | rfl
    ·have kZ:=jF zS;clear hz;subst kZ;rcases hs with ⟨fa,rfl⟩ | ⟨fa,rfl⟩
     ·subst fa;simp only [go_sem,ya,yc,xK,yE,ym,yj,oL,uw.len,uw.ai,uq.len,uq.bP,ur.len,ur.bP,BJ,e1,yI,yI,show ¬(0:Int)<((0:Nat):Int) by omega,jW];refine ⟨_,d,rfl,A8,d,q,[]++[[48]],false,rfl,BK,by omega,n1,n2,n3,.inr ⟨by simp,?_⟩⟩;simp only [go_sem,ya,yc,ax,aE uq.pu,aH _ uq.pu]<;>rfl
     ·simp only [go_sem,ya,yc,yE,ym,yj,oL,uw.len,uw.ai,uq.len,uq.bP,ur.len,ur.bP,BJ,e1,yI,yI,show ¬(0:Int)<((0:Nat):Int) by omega]
      rw [jG (ex:=false) (pu:=true) (cs:=ps.map .str) (by simp only [go_sem,ya]) (by simp) (by omega) (by omega) (by decide) (by simp only [go_sem])];simp only [go_sem,ya,yc];refine ⟨_,d,rfl,A8,d,q,ps++[[48]],false,rfl,BK,by omega,n1,n2,n3,.inr ⟨by simp,?_⟩⟩;rw [xu,yR];simp only [go_sem,ya,yc,ax,aE uq.pu,aH _ uq.pu]<;>rfl
    ·rcases hs with ⟨fa,rfl⟩ | ⟨fa,rfl⟩
     ·subst fa;simp only [go_sem,ya,yc,xK,yE,ym,yj,oL,uw.len,uw.ai,uq.len,uq.bP,ur.len,ur.bP,BJ,e1,yv,yI,yf,show (0:Int)<((1:Nat):Int) by omega,n9 rfl,f1,yI,show ¬(0:Int)<((0:Nat):Int) by omega,jW];refine ⟨_,d,rfl,A8,d,q,[]++[z],false,rfl,BK,by omega,n1,n2,n3,.inr ⟨by simp,?_⟩⟩;simp only [go_sem,ya,yc,ax,aE uq.pu,aH _ uq.pu]<;>rfl
     ·simp only [go_sem,ya,yc,yE,ym,yj,oL,uw.len,uw.ai,uq.len,uq.bP,ur.len,ur.bP,BJ,e1,yv,yI,yf,show (0:Int)<((1:Nat):Int) by omega,n9 rfl,f1,yI,show ¬(0:Int)<((0:Nat):Int) by omega]
      rw [jG (ex:=false) (pu:=true) (cs:=ps.map .str) (by simp only [go_sem,ya]) (by simp) (by omega) (by omega) (by decide) (by simp only [go_sem])];simp only [go_sem,ya,yc];refine ⟨_,d,rfl,A8,d,q,ps++[z],false,rfl,BK,by omega,n1,n2,n3,.inr ⟨by simp,?_⟩⟩;rw [xu,yR];simp only [go_sem,ya,yc,ax,aE uq.pu,aH _ uq.pu]<;>rfl
   ·obtain ⟨n1,n2,n3⟩:=new (gP [48] (18-z.length)++z) (by rw [yB (by omega)];exact t1 fW) (fun _=>zl)
    rcases Kr with ⟨rfl,zS⟩ | rfl
    ·have kZ:=jF zS;clear hz;subst kZ;rcases hs with ⟨fa,rfl⟩ | ⟨fa,rfl⟩
     ·subst fa
      simp only [go_sem,ya,yc,xK,yE,ym,yj,oL,uw.len,uw.ai,uq.len,uq.bP,ur.len,ur.bP,BJ,e1,yI,show ¬(0:Int)<((0:Nat):Int) by omega,show (0:Int)<(lq.length:Int) by omega,show (18:Int)-((1:Nat):Int)=((17:Nat):Int) from rfl,wrapN (n:=17) (by omega),RY (P:=P) (f:=D P L) zD (n:=17) (by omega),gB (a:=gP [48] 17) (b:=[48]) (by rw [D1];decide),jW]
      refine ⟨_,d,rfl,A8,d,q,[]++[gP [48] 17++[48]],false,rfl,BK,by omega,n1,n2,n3,.inr ⟨by simp,?_⟩⟩;simp only [go_sem,ya,yc,ax,aE uq.pu,aH _ uq.pu]<;>rfl
     ·simp only [go_sem,ya,yc,yE,ym,yj,oL,uw.len,uw.ai,uq.len,uq.bP,ur.len,ur.bP,BJ,e1,yI,show ¬(0:Int)<((0:Nat):Int) by omega,show (0:Int)<(lq.length:Int) by omega,show (18:Int)-((1:Nat):Int)=((17:Nat):Int) from rfl,wrapN (n:=17) (by omega),RY (P:=P) (f:=D P L) zD (n:=17) (by omega),gB (a:=gP [48] 17) (b:=[48]) (by rw [D1];decide)]
      rw [jG (ex:=false) (pu:=true) (cs:=ps.map .str) (by simp only [go_sem,ya]) (by simp) (by omega) (by omega) (by decide) (by simp only [go_sem])];simp only [go_sem,ya,yc];refine ⟨_,d,rfl,A8,d,q,ps++[gP [48] 17++[48]],false,rfl,BK,by omega,n1,n2,n3,.inr ⟨by simp,?_⟩⟩;rw [xu,yR];simp only [go_sem,ya,yc,ax,aE uq.pu,aH _ uq.pu]<;>rfl
    ·rcases hs with ⟨fa,rfl⟩ | ⟨fa,rfl⟩
     ·subst fa
      simp only [go_sem,ya,yc,xK,yE,ym,yj,oL,uw.len,uw.ai,uq.len,uq.bP,ur.len,ur.bP,BJ,e1,yv,yI,yf,show (0:Int)<((1:Nat):Int) by omega,n9 rfl,f1,show (0:Int)<(lq.length:Int) by omega,TS,wrapN (n:=18-z.length) (by omega),f2,gB (a:=gP [48] (18-z.length)) (b:=z) (by rw [D1];omega),jW];refine ⟨_,d,rfl,A8,d,q,[]++[gP [48] (18-z.length)++z],false,rfl,BK,by omega,n1,n2,n3,.inr ⟨by simp,?_⟩⟩;simp only [go_sem,ya,yc,ax,aE uq.pu,aH _ uq.pu]<;>rfl
     ·simp only [go_sem,ya,yc,yE,ym,yj,oL,uw.len,uw.ai,uq.len,uq.bP,ur.len,ur.bP,BJ,e1,yv,yI,yf,show (0:Int)<((1:Nat):Int) by omega,n9 rfl,f1,show (0:Int)<(lq.length:Int) by omega,TS,wrapN (n:=18-z.length) (by omega),f2,gB (a:=gP [48] (18-z.length)) (b:=z) (by rw [D1];omega)]
      rw [jG (ex:=false) (pu:=true) (cs:=ps.map .str) (by simp only [go_sem,ya]) (by simp) (by omega) (by omega) (by decide) (by simp only [go_sem])];simp only [go_sem,ya,yc];refine ⟨_,d,rfl,A8,d,q,ps++[gP [48] (18-z.length)++z],false,rfl,BK,by omega,n1,n2,n3,.inr ⟨by simp,?_⟩⟩;rw [xu,yR];simp only [go_sem,ya,yc,ax,aE uq.pu,aH _ uq.pu]<;>rfl
end
def p9:Nat->VC->VC
 | 0,c=>a6 c
 | n+1,c=> .seq (a6 c) (p9 n (aw c))
def cF:Nat->VC->VC
 | 0,c=>aw c
 | n+1,c=>cF n (aw c)
def adS:Nat->VC->Prop
 | 0,c=>c= .seq (a6 c) (aw c)
 | n+1,c=>c= .seq (a6 c) (aw c)/\adS n (aw c)
def aaq {P:aG} {L:Lib}:∀(n:Nat) {c:VC},adS n c->∀s,D P L c s=mR P L (D P L (p9 n c) s) (cF n c)
 | 0,c,h,s=>by
  conv=>lhs;rw [show c= .seq (a6 c) (aw c) from h]
  rw [iE];rfl
 | n+1,c,h,s=>by
  conv=>lhs;rw [show c= .seq (a6 c) (aw c) from h.1]
  show _=mR P L (D P L (.seq (a6 c) (p9 n (aw c))) s) (cF n (aw c))
  rw [iE,iE]
  cases D P L (a6 c) s with
  | none=>rfl
  | some q=>
   obtain ⟨ex,st⟩:=q
   cases ex with
   | normal=>rw [fF,fF];exact aaq n h.2 st
   | ret=>rfl
   | exit id=>rfl
section
variable {P:aG} {L:Lib}
def aii (h:Nu P L) (C6:L.pure 138=some Ac) (zD:L.pure 139=some At) {s z:Int} {e:Bool} {l:List Nat} (hn:cT s (.aC e l.length (l.map uc)) z) {K:Nat} (kZ:0<z.natAbs) (Pn:z.natAbs<18446744073709551616^K) (hK:K<=4000000000) (hlen:(aq z.natAbs).length<=300000000000):
  ∃ps:List (List Nat),ps≠[]/\ps.length<=300000000000/\aq z.natAbs=ps.reverse.flatten/\D P L (p9 5 Dr.body) ⟨[(0,.agg [aa s,.aC e l.length (l.map uc)])],[],0,0⟩=some (.normal,⟨[(3,.bool (decide (z<0))),(6,.ay 0 0 ps.length)],[(0,.cells true true false 1 (ps.map .str))],1,0⟩):=by
 obtain ⟨r,e1,hr⟩:=rF h hn;have bC:=hr;obtain ⟨lr,ur,gr,nr,vr⟩:=hr;simp only [go_sem,ya,yc,ym,yj,Dr,p9,a6,aw,aO,bq,yf,cm,nF,eb,bV,bw,e1];generalize kI:D P L (.loop [3,4,5,6] oL) _=qq;obtain ⟨ex,st,rfl,tm,ps,fl,rfl,fM,Pk,zZ,t3,t6,rfl⟩:=bI kI (ari (P:=P) (L:=L) h.toWd C6 zD (neg:=decide (z<0)) (M:=z.natAbs) (K:=K) kZ hK hlen z.natAbs) ⟨z.natAbs,bP r,[],true,rfl,bC,Pn,by rw [yB (by omega)];simp,⟨fun _=>rfl,by simp⟩,fun _=>by simp,.inl ⟨rfl,by
  simp only [go_sem,ya,yc,ax,aE ur.pu,aH _ ur.pu]<;>rfl⟩⟩
 refine ⟨ps,fM,Pk,zZ,?_⟩;simp only [go_sem,yc,ax,t3,t6]
end
section
open Go
variable {O:br}
def zg:Nat->wS->wS
 | 0,.seq _ b=>b
 | n+1,.seq _ b=>zg n b
 | _,c=>c
def Od:Nat->wS->Prop
 | 0,.seq _ _=>True
 | n+1,.seq _ b=>Od n b
 | _,_=>False
def Zu (hO:gN O) {h:Nat} {c:wS} {l k:Nat} {s:St} {ex:Ex} {s':St} (hv:D O.prog O.aX (comp O.P (O.hint h) c l k).1 s=some (ex,s')):AQ O h c s ex s':=by
 obtain ⟨n,hn⟩:=Tl hv
 cases n with
 | zero=>rw [HL] at hn;cases hn
 | succ n=>
  exact aac hO n (fun k _=>WW hO k) h c l k n (yz _) s ex s' hn
def aba (hO:gN O) {h:Nat} {ro:Option Nat} {lo:Nat} {Q:Exit->Act->yi->Prop}:∀(n:Nat) (c:wS) (l k:Nat),Od n c->∀(s s1:St),D O.prog O.aX (p9 n (comp O.P (O.hint h) c l k).1) s=some (.normal,s1)->
  ∀(m:Mp) (S:Nat->Prop) (w:yi) (a:Act),sX ro w->bT O m S w s.tm a.tmps->aR O m S w s.hp s.ct->s.base<=s.ct->(O.hint h).n<=a.tmps.size->O.w0.heap.size<=lo->lo<=w.heap.size->Marks lo S w a.defers->
  (∀a' w',eG O m S w s .normal s1 a.tmps.size lo .normal a' w'->(zg n c).wpIn (WF ro) 0 O.P Q a' w')->c.wpIn (WF ro) 0 O.P Q a w
 | n,c,l,k,hc,s,s1,hv=>by
  intro m S w a cS ht hh hb hn aZ fb cI hQ
  cases c with
  | seq x y=>
   cases n with
   | zero=>
    refine wpIn_seq (wpIn_mono (Zu hO (show D O.prog O.aX (comp O.P (O.hint h) x l k).1 s=some (.normal,s1) from hv) ro lo m S w a cS ht hh hb hn aZ fb cI) ?_);rintro e a' w' hp;have he:e= .normal:=hp.1;subst he;exact hQ a' w' hp
   | succ n=>
    have ew:D O.prog O.aX (.seq (comp O.P (O.hint h) x l k).1 (p9 n (comp O.P (O.hint h) y (comp O.P (O.hint h) x l k).2.1 (comp O.P (O.hint h) x l k).2.2).1)) s=some (.normal,s1):=hv;rw [iE] at ew
    cases hx:D O.prog O.aX (comp O.P (O.hint h) x l k).1 s with
    | none=>rw [hx] at ew;cases ew
    | some q=>
     obtain ⟨ex,st⟩:=q;rw [hx] at ew
     cases ex with
     | ret=>exact absurd ew (by intro h;cases h)
     | exit id=>exact absurd ew (by intro h;cases h)
     | normal=>
      refine wpIn_seq (wpIn_mono (Zu hO hx ro lo m S w a cS ht hh hb hn aZ fb cI) ?_);rintro e a' w' ⟨rfl,m',S',k1,k2,k3,k4,k5,k6,k7⟩;refine aba hO n y _ _ hc st s1 ew m' S' w' a' (Lw k5 cS) k1 k2 (by omega) (by omega) aZ (xg fb k5.size) k7 ?_;rintro a2 w2 ⟨_,m2,S2,g1,g2,g3,g4,g5,g6,g7⟩;exact hQ a2 w2 ⟨rfl,m2,S2,g1,g2,by omega,by omega,k5.trans (by rw [<-k3];exact g5),by omega,g7⟩
  | _=>cases n<;>exact hc.elim
def arj (hO:gN O) {n:Nat} {F:au} (hF:O.prog n=some F) {fn:yaq} {c:wS} (kY:O.P.funcs[O.ae n]? =some fn) (jl:fn.body=some c) {hp:Hp} {ct:Nat} {vals:List AV} {s:St}
  (hc:(comp O.P (O.hint n) c 0 0).1=F.body->∀m S w a,bT O m S w (eh 0 vals) a.tmps->aR O m S w hp ct->(O.hint n).n<=a.tmps.size->a.tmps.size=max fn.ntmps vals.length->O.w0.heap.size<=w.heap.size->a.defers=[]->
   c.wpIn (WF none) 0 O.P (eG O m S w ⟨eh 0 vals,hp,ct,ct⟩ .ret s a.tmps.size w.heap.size) a w) {v:AV} (hr:gY s F.dd=some v):AP O n hp ct vals v s.hp s.ct:=by
 intro m S w args hh fQ;obtain ⟨fn',q1,q2,q3⟩:=hO.prog n F hF;rw [kY] at q1;cases q1;obtain ⟨c',q4,q5,q6,q7⟩:=PG q2;rw [jl] at q4;cases q4;refine .inl ⟨LR kY (by rw [jl];rfl) q3,?_⟩
 have hlen:vals.length=args.size:=by have:=(gM _ _ fQ).symm;simpa using this
 have hw:=hc q5.symm m S w {tmps:=args++Array.replicate (fn.ntmps-args.size) undef,defers:=[]} (Yh _ fQ) hh (by simp;omega) (by simp;omega) hh.fP rfl
 refine callsIn_of_wp_marks (F:=ybh) kY jl trivial (wpIn_mono hw ?_);rintro e a' w' ⟨rfl,m',S',k1,k2,k3,k4,k5,k6,rs,k7,k8,k9⟩;show LeavesInM ybh 0 O.P fn a'.tmps (sL O m S w hp ct v s.hp s.ct) a'.defers .returning w'
 rw [k7];exact Qd q6 hr k4 rs w' k8 k9 hh.fP k2 k1 k5
def amm (hO:gN O) {n:Nat} {F:au} (hF:O.prog n=some F) {fn:yaq} {c:wS} (kY:O.P.funcs[O.ae n]? =some fn) (jl:fn.body=some c) {vals:List AV} {s:St}
  (hc:(comp O.P (O.hint n) c 0 0).1=F.body->∀m S w a,bT O m S w (eh 0 vals) a.tmps->aR O m S w [] 0->(O.hint n).n<=a.tmps.size->a.tmps.size=max fn.ntmps vals.length->O.w0.heap.size<=w.heap.size->a.defers=[]->
   c.wpIn (WF none) 0 O.P (eG O m S w ⟨eh 0 vals,[],0,0⟩ .ret s a.tmps.size w.heap.size) a w) {v r:AV} (hv:gY s F.dd=some v) (hr:result s.hp v=some r):ep O n vals r:=
 PB (arj hO hF kY jl hc hv) hr
end
section
open Go
def XJ {ae:Nat->Nat} {m:Mp} {S:Nat->Prop} {w:yi} {b:Nat}:∀{ps:List (List Nat)} {o:Nat},bL ae m S w (ps.map .str) b o->
  ∃ts:List ByteArray,(ts.map fun t=>t.data.toList.map xi)=ps/\∀i (h:i<ts.length),w.cell? ⟨b,o+i,none⟩=some (.string ts[i])
 | [],o,_=>⟨[],rfl,fun i h=>absurd h (Nat.not_lt_zero i)⟩
 | p::ps,o,h=>by
  obtain ⟨⟨u,h1,h2⟩,h3⟩:=h;obtain ⟨t,rfl,ht⟩:=h2;obtain ⟨ts,k1,k2⟩:=XJ h3;refine ⟨t::ts,by rw [xj,ht,k1],fun i hi=>?_⟩
  cases i with
  | zero=>exact h1
  | succ i=>
   grind
def nP (ts:List ByteArray):List UInt8:=(ts.map fun t=>t.data.toList).flatten
def aoI {ts:List ByteArray} {ps:List (List Nat)} (h:(ts.map fun t=>t.data.toList.map xi)=ps):(nP ts.reverse).map xi=ps.reverse.flatten:=by
 subst h;unfold nP;rw [List.map_flatten,ybn,<-yai];rfl
def aoJ {ts:List ByteArray} {ps:List (List Nat)} (h:(ts.map fun t=>t.data.toList.map xi)=ps):(ts.map (·.size)).sum=ps.reverse.flatten.length:=by
 subst h;rw [List.length_flatten,yai,List.sum_reverse,ybn]
 congr 1
 simp_all
def Ri (P:Program) (c:wS):Prop:=∀(Q:Exit->Act->yi->Prop) (a:Act) (w:yi) (neg:Bool) (ts:List ByteArray) (b o cc:Nat),a.tmps.size=69->a.tmps.getD 3 undef= .bool neg->a.tmps.getD 6 undef= .slice (some ⟨b,o,none⟩) ts.length cc->
  (∀i (h:i<ts.length),w.cell? ⟨b,o+i,none⟩=some (.string ts[i]))->(ts.map (·.size)).sum+1<=140737488355328->ts.length<=cc->ts.length<9223372036854775808->
  (∀a' w',Calm w w'->a'.tmps.size=69->a'.defers=a.defers->a'.tmps.getD 2 undef= .string ⟨((if neg then [45] else [])++nP ts.reverse).toArray⟩->Q .ret a' w')->
  (zg 5 c).wpIn Fence.wide 0 P Q a w
section
variable {O:br}
def aij {n K:Nat} (h:n<18446744073709551616^K):(aq n).length<=20*K+1:=by
 refine pP (k:=20*K) (yA h ?_);have h1:(10:Nat)^(20*K)=(10^20)^K:=Nat.pow_mul ..;exact xg (by rw [h1];exact vm (by decide) K) (yV (by decide) (Nat.le_succ _))
def amn (hO:gN O) (hN:Nu O.prog O.aX) (C6:O.aX.pure 138=some Ac) (zD:O.aX.pure 139=some At) (FX:O.prog 99=some Dr) {fn:yaq} {c:wS} (kY:O.P.funcs[O.ae 99]? =some fn) (jl:fn.body=some c) (OC:fn.ntmps=69)
  (TU:Od 5 c) (ht:Ri O.P c) {s z:Int} {e:Bool} {l:List Nat} (hn:cT s (.aC e l.length (l.map uc)) z) (kZ:0<z.natAbs) (hK:l.length<=4000000000) (Pn:z.natAbs<18446744073709551616^l.length):
  ep O 99 [.agg [aa s,.aC e l.length (l.map uc)]] (.str (aT z)):=by
 have hlen:=aij Pn;obtain ⟨ps,fM,Pk,zZ,e1⟩:=aii (P:=O.prog) (L:=O.aX) hN C6 zD hn kZ Pn hK (by omega)
 refine amm hO FX kY jl (s:=⟨[(2,.str (aT z))],[(0,.cells true true false 1 (ps.map .str))],1,0⟩) (v:= .str (aT z)) ?_ rfl rfl;intro aty m S w a htr hh r7 eH hgs DB;refine aba hO 5 c 0 0 TU _ _ (by rw [aty];exact e1) m S w a (fun l hl=>by cases hl) htr hh (yz _) r7 hgs (yz _) ⟨[],by rw [DB];rfl,by simp,by simp⟩ ?_
 rintro a' w' ⟨_,m',S',k1,k2,k3,k4,k5,k6,k7⟩;have r3:=k1 3;have r6:=k1 6;have g3:aj [(3,AV.bool (decide (z<0))),(6,.ay 0 0 ps.length)] 3= .bool (decide (z<0)):=rfl;have g6:aj [(3,AV.bool (decide (z<0))),(6,.ay 0 0 ps.length)] 6= .ay 0 0 ps.length:=rfl;rw [g3] at r3;rw [g6] at r6;simp only [ah] at r3 r6;obtain ⟨p,cc,hm,r6,hcc,_⟩:=r6;obtain ⟨p',arr,t,gm,_,_,_,_,_,Dd,_⟩:=k2.obj 0 _ p rfl hm;rw [hm] at gm;cases gm;obtain ⟨ts,mE,CC⟩:=XJ Dd;have mD:ts.length=ps.length:=by rw [<-mE,List.length_map]
 have A9:=aoJ mE;rw [<-zZ] at A9;have TV:=aoI mE;rw [<-zZ] at TV;refine ht _ a' w' (decide (z<0)) ts p.b p.o cc ?_ r3 (by rw [mD];exact r6) CC (by omega) (by omega) (by omega) ?_
 ·grind
 ·intro a2 w2 hc h1 h2 h3;have Kf:=B1 k2 hc (S':=S') (fun _ h=>h) (fun _ h=> .inl h) (fun b hb=>yA (k2.slt b hb) hc.size);refine ⟨rfl,m',S',?_,Kf,rfl,tu _,k5.trans (Al k2 hc (fun _ h=>h) (fun _ h=> .inl h)),?_,?_⟩
  ·intro i;by_cases hi:i=2
   ·subst hi;rw [h3];show ah O.ae m' S' w2 (.str (aT z)) _
    simp only [ah];refine ⟨_,rfl,?_⟩;by_cases h0:z<0
    ·rw [lW h0,xp h0];simp only [xB,xu];rw [TV];rfl
    ·obtain ⟨n,rfl⟩:∃n:Nat,z=n:=⟨z.toNat,by omega⟩;rw [yX h0];simp only [yD,xk,xX];rw [TV];rfl
   ·have:aj [(2,AV.str (aT z))] i= .undef:=by
     have hb:yt 2 i=false:=by
      cases hq:yt 2 i with
      | false=>rfl
      | true=>exact absurd (Nat.eq_of_beq_eq_true hq).symm hi
     simp only [aj,hb,yH]
    show ah O.ae m' S' w2 (aj [(2,AV.str (aT z))] i) _
    rw [this];simp only [ah]
  ·rw [h1,eH,OC];simp
  ·rw [h2]
   exact Aj k2 (Al (base:=0) k2 hc (fun _ h=>h) (fun _ h=> .inl h)) k7
end
end
end VE
