import Derived.Test.YtfdcefmdjiokdaaGreatDoorUah
import Derived.Test.YtfdcefmdjiokdaaGreatDoorUab
set_option linter.all false
set_option maxRecDepth 100000
open BitVec renaming ofInt→xH,ofNat→tf,toNat_ofNat→vP
open Bool renaming and_self→wM,false_and→wB,false_eq_true→yD,not_false→yU,not_true→yT,true_and→wF
open Go renaming Code→wU,Func→yaA,World→yi
open Go.Fence renaming wide→ybt
open Int renaming ediv_emod_unique→tS,gcd→wT,gcd_comm→ycL,natAbs_ediv_of_dvd→uJ,natAbs_mul→yck,natCast_mul→wN,pow_zero→yaI,reduceEq→vM,reduceLT→ycK
open List renaming append_assoc→xt,append_nil→xX,drop→vL,drop_drop→ub,drop_eq_getElem_cons→yP,drop_left'→yac,drop_zero→yo,eq_nil_of_length_eq_zero→yH,length_append→yR,length_cons→yz,length_drop→xO,length_nil→yK,length_pos_iff→vQ,length_take→yO,map_append→xC,map_cons→xm,map_map→ycp,map_reverse→yat,nil_append→xY,replicate→yy,set_append_right→yaH,take_append_drop→wa,take_of_length_le→yM
open Nat renaming add_comm→tx,add_mul→wh,add_zero→yW,beq→yr,beq_refl→xz,ble→yF,ble_eq_true_of_le→yv,blt→yJ,div_add_mod→xV,div_eq_of_lt→xP,div_le_self→wV,div_lt_iff_lt_mul→wz,eq_zero_or_pos→xi,le_refl→yA,le_trans→xg,lt_of_le_of_lt→we,lt_of_lt_of_le→yu,mod_eq_of_lt→yL,mod_le→ydh,mod_lt→xE,mul_add→xB,mul_add_div→yaP,mul_add_mod→ybZ,mul_assoc→xp,mul_comm→xy,mul_le_mul_left→yS,mul_le_mul_right→yQ,mul_lt_mul''→uQ,mul_lt_mul_of_pos_right→xS,mul_mod_mul_right→tN,mul_one→yk,mul_zero→xD,pos_of_ne_zero→uU,pow_add→xL,pow_le_pow_left→vn,pow_le_pow_right→yV,pow_one→ycW,pow_pos→yaG,pow_succ→y7,reduceAdd→yd,reduceEqDiff→ya,reduceLT→yI,reduceLeDiff→yp,reduceMul→xQ,two_pow_pos→xn,zero_add→yf,zero_le→tG,zero_mul→uv
open Rat renaming den_divInt→ycm,divInt→wi,divInt_ofNat→ybQ,lt_iff→ydi,num_divInt→ycl,sub_eq_add_neg→yaj
open UInt8 renaming toNat→xh
namespace VE
open Go (IntKind)
def step_end {A V q Y B bo:Nat} (hV:0<V) (h:Y+q*V=A+B*bo) (h1:A/V<=q) (h2:q<=A/V+1) (hY:Y<B) (hVB:V<=B) (je:bo<=1):
  (bo=0->q=A/V/\Y=A%V)/\(bo=1->q=A/V+1/\Y+V=B+A%V):=by
 have eR:=xV A V;have hm:=xE A hV;generalize A/V=Q at*
 have hq:q=Q\/q=Q+1:=by omega
 constructor
 ·rintro rfl;rcases hq with rfl | rfl
  ·grind
  ·grind
 ·grind
section
variable {P:aF} {L:Lib}
structure Wd (P:aF) (L:Lib):Prop where
 mf:L.pure 143=some qO
 gm:L.pure 171=some nn
 rn:L.pure 173=some Al
 IT:L.pure 167=some DZ
 ab6:Has P L 165 Io
 me:Has P L 166 AK
 ab7:Has P L 168 MO
 ate:Has P L 169 re
 ab8:Has P L 158 Ef
 atf:Has P L 157 Im
 ab9:Has P L 159 MM
 atg:Has P L 144 MK
 Sr:Has P L 137 Ik
def av:VC->VC
 | .seq _ b=>b
 | c=>c
def apR (h:Wd P L) {w:AV} {x vs pre post qs:List Nat} (hw:bB w vs) {n v1 v2 u0 u1 u2:Nat} (hl:gN x vs n v1 v2 u0 u1 u2) {q:Nat} (hq:q<18446744073709551616) (eQ:bv 18446744073709551616 x/bv 18446744073709551616 vs<=q) (E4:q<=bv 18446744073709551616 x/bv 18446744073709551616 vs+1):
  ∃tm x',D P L (av (av (av (av (av (av re.body)))))) ⟨[(0,.ay 0 pre.length (n+1)),(1,w),(5,aa n),(6,uc q)],H2 qs (pre++x++post),2,2⟩=some (.ret,⟨tm,H2 qs (pre++x'++post),2,2⟩)/\aj tm 4=uc (bv 18446744073709551616 x/bv 18446744073709551616 vs)/\x'.length=n+1/\lo 18446744073709551616 x'/\bv 18446744073709551616 x'=bv 18446744073709551616 x%bv 18446744073709551616 vs:=by
 have dd:=hl.n2;have oZ:=hl.nb;have dH:(0:Nat)<18446744073709551616:=by decide
 have hV:0<bv 18446744073709551616 vs:=by
  rcases xi (bv 18446744073709551616 vs) with h0 | h0
  ·have:=hl.lt;rw [h0] at this;simp at this
  ·exact h0
 have r7:below 2 w:=py hw.pu;have JA:=ll hl.gv;rw [hl.lv] at JA;have ayn:18446744073709551616^n<=18446744073709551616^(n+1):=yV (by decide) (by omega);have ayo:av (av (av (av (av (av re.body)))))=av (av (av (av (av (av re.body))))):=rfl;simp only [go_sem,ya,re,av,H2];generalize kO:D P L (.loop [0,1,5,6,11,12,104,105] Ht) _=qq;obtain ⟨ex,s,rfl,tm,c,bo,y,rfl,rfl,t0,t1,t5,t6,t11,t12,ly,gy,hc,je,aG⟩:=b9 kO (apP (P:=P) (L:=L) h.mf h.gm h.rn hw oZ hl.lv hl.gv hq (x:=x) (pre:=pre) (post:=post) (qs:=qs) n) ⟨0,0,0,x,by
  rw [pG (by simp only [go_sem,ya,yI,lW,mD,lR,lO,r7,vc]) (by simp only [go_sem,ya,yd,yI,aE hw.pu])]
  simp only [go_sem,ya]<;>rfl,by omega,hl.lx,hl.gx,dH,by omega,by simp [bv]⟩
 have Um:=gi dH gy n;have ey:=sZ (l:=pre++y++post) (o:=pre.length+n) (by rw [ow];omega);rw [BO (by omega)] at ey;obtain ⟨d,hd⟩:∃d,d=y.getD n 0:=⟨_,rfl⟩;rw [<-hd] at Um ey;have f3:=QM (P:=P) (f:=D P L) h.rn Um hc je;have fO:=PZ Um hc je;obtain ⟨z,hz⟩:∃t,t=(d+18446744073709551616*2-c-bo)%18446744073709551616:=⟨_,rfl⟩;obtain ⟨b',bX⟩:∃t,t=(if c+bo<=d then 0 else 1):=⟨_,rfl⟩;have mq:b'<=1:=by rw [bX];split<;>omega
 have E2:z<18446744073709551616:=by rw [hz];exact xE _ dH
 rw [<-hz,<-bX] at f3 fO;have aU:=nt (b:=18446744073709551616) (l:=y) (i:=n) (x:=z) (by omega);rw [<-hd] at aU;have aO:=fun (hp:Hp) (ct:Nat)=>jY (hp:=hp) (ct:=ct) (id:=0) (v:=z) (ex:=true) (l:=pre++y++post) (o:=pre.length+n) (by rw [ow];omega)
 have nH:=Ln (pre:=pre) (x:=y) (post:=post) (i:=n) z (by omega);have C0:lo 18446744073709551616 (y.set n z):=lU gy E2;have Bk:(y.set n z).length=n+1:=by simp [ly]
 have hY:=ll C0;rw [Bk] at hY;have ath:bv 18446744073709551616 (y.set n z)+q*bv 18446744073709551616 vs=bv 18446744073709551616 x+18446744073709551616^(n+1)*b':=by
  have e2:=congrArg (fun t=>18446744073709551616^n*t) fO;rw [y7,xp];simp only [xB] at e2 aG;generalize 18446744073709551616^n*(18446744073709551616*b')=p1 at*
  generalize 18446744073709551616^n*z=p2 at*
  generalize 18446744073709551616^n*d=p3 at*
  generalize 18446744073709551616^n*c=p4 at*
  generalize 18446744073709551616^n*bo=p5 at*
  omega
 obtain ⟨s0,s1⟩:=step_end hV ath eQ E4 hY (by omega) mq;simp only [go_sem,ya,yd,yI,yk,pG,lW,mD,lR,lO,r7,vc,aE hw.pu,t0,t1,t5,t6,t11,t12,cT 0 pre.length (show n<n+1 by omega),ey,f3,aO,nH];by_cases kN:b'=0
 ·obtain ⟨e1,e2⟩:=s0 kN;simp only [go_sem,ya,show (b':Int)=0 by omega];exact ⟨_,y.set n z,rfl,by rw [<-e1];simp only [go_sem],Bk,C0,e2⟩
 ·obtain ⟨e1,e2⟩:=s1 (by omega);simp only [go_sem,ya,show ¬(b':Int)=0 by omega];generalize Cv:D P L (.loop [0,1,5,6,17,156,157] Hu) _=Ul;obtain ⟨ex,s,rfl,mP,c2,y2,rfl,rfl,t0,t5,t6,t17,Un,Ol,oW,arS⟩:=b9 Cv (apQ (P:=P) (L:=L) h.gm hw oZ hl.lv hl.gv (y0:=y.set n z) (pre:=pre) (post:=post) (qs:=qs) (q:=q) n) ⟨0,0,y.set n z,by
   rw [pG (by simp only [go_sem,ya,yI,lW,mD,lR,lO,r7,vc]) (by simp only [go_sem,ya,yd,yI,aE hw.pu])]
   simp only [go_sem,ya]<;>rfl,by omega,Bk,C0,by omega,by simp [bv]⟩
  have ati:=gi dH Ol n;have Uo:=sZ (l:=pre++y2++post) (o:=pre.length+n) (by rw [ow];omega);rw [BO (by omega)] at Uo;obtain ⟨d2,gP⟩:∃d,d=y2.getD n 0:=⟨_,rfl⟩;rw [<-gP] at ati Uo;have f4:=AF d2 c2;have Mc:=nt (b:=18446744073709551616) (l:=y2) (i:=n) (x:=(d2+c2)%18446744073709551616) (by omega);rw [<-gP] at Mc;have jd:=Kk (18446744073709551616^n) 18446744073709551616 (d2+c2);have atj:(d2+c2)%18446744073709551616<18446744073709551616:=xE _ dH;have hc3:(d2+c2)/18446744073709551616<=1:=by omega
  generalize (d2+c2)%18446744073709551616=z2 at*
  generalize (d2+c2)/18446744073709551616=c3 at*
  have Na:=fun (hp:Hp) (ct:Nat)=>jY (hp:=hp) (ct:=ct) (id:=0) (v:=z2) (ex:=true) (l:=pre++y2++post) (o:=pre.length+n) (by rw [ow];omega)
  have Me:=Ln (pre:=pre) (x:=y2) (post:=post) (i:=n) z2 (by omega);have Om:lo 18446744073709551616 (y2.set n z2):=lU Ol atj;have JB:(y2.set n z2).length=n+1:=by simp [Un]
  have hY3:=ll Om;rw [JB] at hY3;have bt:0<q:=by rw [e1];exact Nat.succ_pos _
  have hq3:bv 18446744073709551616 x/bv 18446744073709551616 vs=q-1:=by rw [e1,Nat.add_sub_cancel]
  have f5:binOp .sub (uc q) (.int .u64 1)=some (uc (q-1)):=Cu (b:=1) (by omega) (by omega);simp only [go_sem,ya,yd,yI,yk,pG,lW,mD,lR,lO,vc,t0,t5,t6,t17,cT 0 pre.length (show n<n+1 by omega),Uo,f4,Na,Me,f5];refine ⟨_,y2.set n z2,rfl,by rw [hq3];simp only [go_sem],JB,Om,?_⟩;have e3:bv 18446744073709551616 (y2.set n z2)+18446744073709551616^(n+1)*c3=18446744073709551616^(n+1)+bv 18446744073709551616 x%bv 18446744073709551616 vs:=by
   rw [<-e2,<-arS,y7];rw [xB] at jd;omega
  rcases (show c3=0\/c3=1 by omega) with rfl | rfl
  ·omega
  ·omega
def atk (h:Wd P L) {w:AV} {x vs pre post qs:List Nat} (hw:bB w vs) {n v1 v2 u0 u1 u2:Nat} (hl:gN x vs n v1 v2 u0 u1 u2):
  ∃x',iw P L (D P L) (H2 qs (pre++x++post)) 2 169 [.ay 0 pre.length (n+1),w]=some (uc (bv 18446744073709551616 x/bv 18446744073709551616 vs),H2 qs (pre++x'++post),2)/\x'.length=n+1/\lo 18446744073709551616 x'/\bv 18446744073709551616 x'=bv 18446744073709551616 x%bv 18446744073709551616 vs:=by
 have dd:=hl.n2;have oZ:=hl.nb;have r7:below 2 w:=py hw.pu;have pf:(n:Int)-1=((n-1:Nat):Int):=by omega
 have eD:=hw.br (i:=n-1) (by have:=hl.lv;omega);rw [hl.dN] at eD;have Bl:=sZ (l:=pre++x++post) (o:=pre.length+n) (by rw [ow];have:=hl.lx;omega)
 rw [BO (by have:=hl.lx;omega),hl.h0] at Bl;have Bm:=sZ (l:=pre++x++post) (o:=pre.length+(n-1)) (by rw [ow];have:=hl.lx;omega)
 rw [BO (by have:=hl.lx;omega),hl.h1] at Bm;have En:=hl.Jx;have Nb:=hl.Jy;have nI:=hl.top;have iY:∃tm x',D P L re.body ⟨ew 0 [.ay 0 pre.length (n+1),w],H2 qs (pre++x++post),2,2⟩=some (.ret,⟨tm,H2 qs (pre++x'++post),2,2⟩)/\aj tm 4=uc (bv 18446744073709551616 x/bv 18446744073709551616 vs)/\x'.length=n+1/\lo 18446744073709551616 x'/\bv 18446744073709551616 x'=bv 18446744073709551616 x%bv 18446744073709551616 vs:=by
  have behind:∀(iF:Env) (q:Nat),aj iF 0= .ay 0 pre.length (n+1)->aj iF 1=w->aj iF 5=aa n->aj iF 6=uc q->q<18446744073709551616->bv 18446744073709551616 x/bv 18446744073709551616 vs<=q->q<=bv 18446744073709551616 x/bv 18446744073709551616 vs+1->
    ∃tm x',mI P L (mI P L (sW 0 (some (Ex.exit 0,⟨iF,H2 qs (pre++x++post),2,2⟩))) (.kp [0,1,5,6])) (av (av (av (av (av (av re.body))))))=some (.ret,⟨tm,H2 qs (pre++x'++post),2,2⟩)/\aj tm 4=uc (bv 18446744073709551616 x/bv 18446744073709551616 vs)/\x'.length=n+1/\lo 18446744073709551616 x'/\bv 18446744073709551616 x'=bv 18446744073709551616 x%bv 18446744073709551616 vs:=by
   intro iF q t0 t1 t5 t6 g1 g2 g3;have hk:cG iF [0,1,5,6]=[(0,.ay 0 pre.length (n+1)),(1,w),(5,aa n),(6,uc q)]:=by simp only [go_sem,t0,t1,t5,t6]
   rw [Qi,fe,Sg,pG (by rw [hk];simp only [go_sem,yI,lW,mD,lR,lO,r7,vc]) (by rw [hk];simp only [go_sem,yd,yI,aE hw.pu]),fe,hk];exact apR h hw hl g1 g2 g3
  by_cases hc:u0<v1
  ·have f1:=ab1 h.ab6 h.IT (P:=P) (L:=L) hc Nb En;have eR:=xV (u0*18446744073709551616+u1) v1;have mg:=xE (u0*18446744073709551616+u1) hl.pos;have nY:(u0*18446744073709551616+u1)/v1<18446744073709551616:=by
    refine (wz hl.pos).2 ?_
    have:=yQ 18446744073709551616 (show u0+1<=v1 from hc)
    rw [xy 18446744073709551616 v1];omega
   have LL:=hl.first;rw [xy] at eR;generalize (u0*18446744073709551616+u1)/v1=q0 at*
   generalize (u0*18446744073709551616+u1)%v1=r0 at*
   simp only [go_sem,ya,yk,re,H2,hw.len,hl.lv,pf,wrapN (n:=n-1) (by omega),eD,cT 0 pre.length (show n<n+1 by omega),cT 0 pre.length (show n-1<n+1 by omega),Bl,Bm,show ¬(v1:Int)<=(u0:Int) by omega,f1];generalize kO:D P L (.loop [0,1,5,6,7,8] sP) _=qq;obtain ⟨ex,s,rfl,iF,q,rfl,rfl,t0,t1,t5,t6,g1,g2,g3⟩:=b9 kO (ZP (P:=P) (L:=L) h.mf h.gm hw hl (pre:=pre) (post:=post) (qs:=qs) q0) ⟨q0,r0,by
    rw [pG (by simp only [go_sem,ya,yI,lW,mD,lR,lO,r7,vc]) (by simp only [go_sem,ya,yd,yI,aE hw.pu])];rw [yL (show r0<18446744073709551616 by omega),xP (show r0<18446744073709551616 by omega)]
    simp only [go_sem,ya]<;>rfl,eR,by omega,nY,LL,rfl⟩
   exact behind iF q t0 t1 t5 t6 g1 g2 g3
  ·have nW:u0=v1:=by omega
   have f1:=B1 (P:=P) (f:=D P L) h.gm Nb En (c:=0) (by omega);rw [yW,show (uc 0)=AV.int .u64 0 from rfl] at f1;have Nc:=hl.digit
   simp only [go_sem,ya,yk,re,H2,hw.len,hl.lv,pf,wrapN (n:=n-1) (by omega),eD,cT 0 pre.length (show n<n+1 by omega),cT 0 pre.length (show n-1<n+1 by omega),Bl,Bm,show (v1:Int)<=(u0:Int) by omega,f1];generalize kO:D P L (.loop [0,1,5,6,7,8] sP) _=qq;obtain ⟨ex,s,rfl,iF,q,rfl,rfl,t0,t1,t5,t6,g1,g2,g3⟩:=b9 kO (ZP (P:=P) (L:=L) h.mf h.gm hw hl (pre:=pre) (post:=post) (qs:=qs) 18446744073709551615) ⟨18446744073709551615,u1+v1,by
    rw [pG (by simp only [go_sem,ya,yI,lW,mD,lR,lO,r7,vc]) (by simp only [go_sem,ya,yd,yI,aE hw.pu])]
    simp only [go_sem,ya]<;>rfl,by rw [nW];omega,by omega,by decide,by omega,rfl⟩
   exact behind iF q t0 t1 t5 t6 g1 g2 g3
 obtain ⟨tm,x',g1,g2,g3,g4,g5⟩:=iY;refine ⟨x',?_,g3,g4,g5⟩;exact G5 h.ate g1 (.inr rfl) (by show gW _ [RV.t 4]=_;rw [IM,H0,g2])
end
def WN (v:AV) (m:Nat):Prop:=∃l,bB v l/\lo 18446744073709551616 l/\gB l/\bv 18446744073709551616 l=m
def akS (i:Nat) (q:List Nat) (x:Nat):(yy (i+1) 0++q).set i x=yy i 0++x::q:=by
 rw [List.replicate_succ',xt]
 simp_all
def Lo {b:Nat} {l:List Nat} {i:Nat} (h:i<l.length):bv b (l.drop i)=l.getD i 0+b*bv b (l.drop (i+1)):=by
 rw [yP h,gd h];rfl
def QO {v w:AV} {x y:List Nat} (hv:bB v x) (hw:bB w y) (hp:Hp):result hp (.au [v,w])=some (.au [v,w]):=by
 rcases hv with ⟨rfl,_⟩ | ⟨e,rfl⟩<;>rcases hw with ⟨rfl,_⟩ | ⟨e',rfl⟩<;>rfl
def anl {hp:Hp} {id n l h:Nat} {pu ex:Bool} {cs:List AV} {tm:Env} {x y:X} (hg:ak hp id=some (.cells true pu ex 1 cs)) (hx:cB tm 0 (some x)=some l) (hy:cB tm n (some y)=some h) (h1:l<h) (h2:h<=n):
  fg hp (.sl 1) (.ay id 0 n) tm (some x) (some y)=some (.ay id l (h-l)):=by
 simp only [fg,hg,hx,hy,yv (Nat.le_of_lt h1),yv h2,xz,wM,yt,bW (Nat.ne_of_lt h1),wB,yG,yf,yk]
def Yj {hp:Hp} {id n h:Nat} {pu ex:Bool} {cs:List AV} {tm:Env} {y:X} (hg:ak hp id=some (.cells true pu ex 1 cs)) (hy:cB tm n (some y)=some h) (h1:0<h) (h2:h<=n):
  fg hp (.sl 1) (.ay id 0 n) tm none (some y)=some (.ay id 0 h):=by
 have hx:cB tm 0 none=some 0:=rfl;simp only [fg,hg,hx,hy,yv (tG h),yv h2,xz,wM,yt,bW (show (0:Nat)≠h by omega),wB,yG,uv,yW,Nat.sub_zero]
def aa0 (P:aF) (L:Lib) (f:cu) (hp:Hp) (ct n:Nat) (xs:List AV):dj P L f hp ct .heap (.fn (.f n) [] []) xs=iw P L f hp ct n xs:=by
 simp only [dj,xY,xX]
section
variable {P:aF} {L:Lib}
def apS (h:Wd P L) {v w:AV} {x:List Nat} (hv:bB v x) (hx:lo 18446744073709551616 x) (lx:x.length<=99999999999) {d:Nat} (hw:bB w [d]) (fB:0<d) (Up:d<18446744073709551616) {n:Nat} (hn:n=x.length):
  ∀k s,(∃(i r:Nat) (q:List Nat),aT [0,1,6,7,8] s=⟨[(0,v),(1,w),(6,.ay 0 0 n),(7,uc r),(8,aa ((i:Int)-1))],[(0,.cells true true true 1 ((yy i 0++q).map uc))],1,0⟩/\i=k/\i+q.length=n/\lo 18446744073709551616 q/\r<d/\bv 18446744073709551616 (x.drop i)=bv 18446744073709551616 q*d+r)->
   ∃ex s',D P L (.loop [0,1,6,7,8] Hm) s=some (ex,s')/\∃tm r q,s'=⟨tm,[(0,.cells true true true 1 (q.map uc))],1,0⟩/\ex= .exit 0/\aj tm 6= .ay 0 0 n/\aj tm 7=uc r/\q.length=n/\lo 18446744073709551616 q/\r<d/\bv 18446744073709551616 x=bv 18446744073709551616 q*d+r:=by
 intro dq sq;generalize bt:aT [0,1,6,7,8] sq=s0;revert bt s0 sq dq;apply dU;rintro k s ⟨i,r,q,rfl,rfl,hlen,aY,hr,aG⟩
 cases i with
 | zero=>
  right
  simp only [go_sem,ya,Hm,show ¬(0:Int)<=((0:Nat):Int)-1 by omega];exact ⟨_,_,rfl,by simp,_,r,q,rfl,rfl,by simp only [go_sem,ya],by simp only [go_sem,ya],by omega,aY,hr,by simpa using aG⟩
 | succ i=>
  left
  have gx:=gi (show 0<18446744073709551616 by decide) hx i;have e1:=hv.br (i:=i) (by omega);have e2:=hw.br (i:=0) (by simp);have ik:=Lo (b:=18446744073709551616) (l:=x) (i:=i) (by omega);rw [show ([d]:List Nat).getD 0 0=d from rfl] at e2;generalize x.getD i 0=a at*
  have e3:=ab1 (P:=P) (L:=L) h.ab6 h.IT hr gx Up;have eR:=xV (r*18446744073709551616+a) d;have mg:=xE (r*18446744073709551616+a) fB;have nY:(r*18446744073709551616+a)/d<18446744073709551616:=by
   refine (wz fB).2 ?_;omega
  generalize (r*18446744073709551616+a)/d=q1 at*
  generalize (r*18446744073709551616+a)%d=r1 at*
  have aO:=fun (hp:Hp) (ct:Nat)=>jY (hp:=hp) (ct:=ct) (id:=0) (v:=q1) (ex:=true) (l:=yy (i+1) 0++q) (o:=i) (by simp;omega)
  simp only [go_sem,ya,yk,Hm,show ((i+1:Nat):Int)-1=(i:Int) by omega,show (0:Int)<=(i:Int) by omega,e1,e2,e3,cT 0 0 (show i<n by omega),yf,aO,akS];refine ⟨_,i,rfl,by omega,i,r1,q1::q,?_,rfl,by simp;omega,KB.2 ⟨DM.2 nY,aY⟩,mg,?_⟩
  ·rw [wrap64 (by omega) (by omega)];simp only [go_sem,ya,yd,az,aE hv.pu,aJ _ hv.pu,aE hw.pu,aJ _ hw.pu]<;>rfl
  ·rw [ik,aG];simp only [bv];rw [wh,xB,<-xp 18446744073709551616];rw [xy d q1] at eR;omega
def aiA {s u u1:Nat} (hs:s<64) (hu:u<18446744073709551616):u/2^s<18446744073709551616/\(0<s->u/2^s|||(u1*2^(64-s)%18446744073709551616)<18446744073709551616)/\
  (if 0<s then (u/2^s|||(u1*2^(64-s)%18446744073709551616)) else u/2^s)*2^s+u%2^s=u+18446744073709551616*(u1%2^s):=by
 have e:18446744073709551616=2^s*2^(64-s):=by rw [<-xL,show s+(64-s)=64 by omega]
 have h1:u1*2^(64-s)%18446744073709551616=(u1%2^s)*2^(64-s):=by rw [e,tN]
 have hp:=xn s;have h2:u/2^s<2^(64-s):=by
  refine (wz hp).2 ?_
  grind
 have h3:u/2^s|||(u1*2^(64-s)%18446744073709551616)=(u1%2^s)*2^(64-s)+u/2^s:=by rw [h1,Nat.or_comm,QN h2]
 have h4:(u1%2^s)*2^(64-s)+u/2^s<18446744073709551616:=by
  have:=yQ (2^(64-s)) (show u1%2^s+1<=2^s from xE _ hp)
  grind
 have h5:=Nat.mod_add_div u (2^s)
 grind
def apT {us qs:List Nat} {n la m s:Nat} (hs:s<64) (lu:us.length=la) (gu:lo 18446744073709551616 us) (hn:n<la) (JC:la<=100000000000):
  ∀k st,(∃(i:Nat) (rs:List Nat),aT [9,11,12,13,96,97] st=⟨[(9,aa s),(11,.ay 0 0 la),(12,aa n),(13,.ay 1 0 m),(96,aa n),(97,aa i)],H2 qs (rs++us.drop i),2,0⟩/\i+k=n/\rs.length=i/\lo 18446744073709551616 rs/\bv 18446744073709551616 rs*2^s+us.getD 0 0%2^s=bv 18446744073709551616 (us.take i)+18446744073709551616^i*(us.getD i 0%2^s))->
   ∃ex st',D P L (.loop [9,11,12,13,96,97] DF) st=some (ex,st')/\∃tm rs,st'=⟨tm,H2 qs (rs++us.drop n),2,0⟩/\ex= .exit 4/\aj tm 11= .ay 0 0 la/\aj tm 12=aa n/\aj tm 13= .ay 1 0 m/\rs.length=n/\lo 18446744073709551616 rs/\bv 18446744073709551616 rs*2^s+us.getD 0 0%2^s=bv 18446744073709551616 (us.take n)+18446744073709551616^n*(us.getD n 0%2^s):=by
 intro dq sq;generalize bt:aT [9,11,12,13,96,97] sq=s0;revert bt s0 sq dq;apply dU;rintro k st ⟨i,rs,rfl,hk,lr,gr,aG⟩;by_cases hi:i<n
 ·left
  have dH:(0:Nat)<18446744073709551616:=by decide
  have g0:=gi dH gu i;have g1:=gi dH gu (i+1);have d0:us.drop i=us.getD i 0::us.getD (i+1) 0::us.drop (i+2):=by
   rw [yP (show i<us.length by omega),yP (show i+1<us.length by omega),gd,gd]
  have di:=iP (b:=18446744073709551616) (l:=us) i;have iX:∀r,r<18446744073709551616->r*2^s+us.getD i 0%2^s=us.getD i 0+18446744073709551616*(us.getD (i+1) 0%2^s)->lo 18446744073709551616 (rs++[r])/\bv 18446744073709551616 (rs++[r])*2^s+us.getD 0 0%2^s=bv 18446744073709551616 (us.take (i+1))+18446744073709551616^(i+1)*(us.getD (i+1) 0%2^s):=fun r h1 h2=>by
   refine ⟨KB.2 ⟨gr,DM.2 h1⟩,?_⟩;rw [qF,Ar,lr,di,wh,y7,xp,xp];have e2:=congrArg (fun t=>18446744073709551616^i*t) h2;simp only [xB] at e2;generalize 18446744073709551616^i*(r*2^s)=p1 at*
   generalize 18446744073709551616^i*(us.getD i 0%2^s)=p2 at*
   generalize 18446744073709551616^i*us.getD i 0=p3 at*
   generalize 18446744073709551616^i*(18446744073709551616*(us.getD (i+1) 0%2^s))=p4 at*
   omega
  have Ss:us.drop (i+1)=us.getD (i+1) 0::us.drop (i+2):=by
   rw [yP (show i+1<us.length by omega),gd]
  generalize us.getD i 0=a at*
  obtain ⟨c,hc⟩:∃c,c=us.getD (i+1) 0:=⟨_,rfl⟩;rw [<-hc] at g1 d0 Ss iX;generalize us.drop (i+2)=dr at*
  rw [d0];obtain ⟨n1,n2,n3⟩:=aiA (u1:=c) hs g0;have o1:=IS .i64 a (s:=s) (by omega);have o2:=IR .i64 c (s:=64-s) (by omega);have o3:binOp .sub (.int .i64 64) (aa s)=some (aa (64-s:Nat)):=by
   rw [Ll,wrap64 (by omega) (by omega)];congr 2;omega
  have o4:=Oi n1 (xE (c*2^(64-s)) dH);have sa:∀z y,(rs++z::y).set i a=rs++a::y:=fun z y=>by rw [yaH _ _ (by omega),lr];simp
  have e0:∀z y,vL i ((rs++z::y).map uc)=uc z::y.map uc:=fun z y=>by
   rw [xC,yac (by simp [lr])];rfl
  have e1:∀z y u,vL (i+1) ((rs++z::y::u).map uc)=uc y::u.map uc:=fun z y u=>by
   rw [show rs++z::y::u=(rs++[z])++y::u by simp,xC,yac (by simp [lr])];rfl
  have EK:∀(hp:Hp) (ct x z:Nat) (y:List Nat),ij hp ct 0 i 1 [.int .u64 (x:Int)] (some (.cells true true true 1 ((rs++z::y).map uc)))=some (.au [],aU hp 0 (.cells true true true 1 ((rs++x::y).map uc)),ct):=fun hp ct x z y=>by
   rw [jY (by simp;omega),yaH _ _ (by omega),lr];simp
  by_cases h0:0<s
  ·rw [yN h0] at n3;obtain ⟨f1,f2⟩:=iX _ (n2 h0) n3;generalize a/2^s=a1 at*
   generalize a1|||(c*2^(64-s)%18446744073709551616)=r at*
   simp only [go_sem,ya,yk,DF,H2,show (i:Int)<(n:Int) by omega,cT 0 0 (show i<la by omega),yf,e0,o1,EK,show (0:Int)<(s:Int) by omega,show (i:Int)+1=((i+1:Nat):Int) from rfl,wrapN (n:=i+1) (by omega),show ((i+1:Nat):Int)<(la:Int) by omega,cT 0 0 (show i+1<la by omega),e1,o3,o2,o4];refine ⟨_,k-1,rfl,by omega,i+1,rs++[r],by simp only [go_sem,ya,yd,az];rw [Ss];simp,by omega,by simp [lr],f1,by rw [<-hc];exact f2⟩
  ·rw [yB h0] at n3;obtain ⟨f1,f2⟩:=iX _ n1 n3;generalize a/2^s=a1 at*
   simp only [go_sem,ya,yk,DF,H2,show (i:Int)<(n:Int) by omega,cT 0 0 (show i<la by omega),yf,e0,o1,EK,show ¬(0:Int)<(s:Int) by omega,show (i:Int)+1=((i+1:Nat):Int) from rfl,wrapN (n:=i+1) (by omega)];refine ⟨_,k-1,rfl,by omega,i+1,rs++[a1],by simp only [go_sem,ya,yd,az];rw [Ss];simp,by omega,by simp [lr],f1,by rw [<-hc];exact f2⟩
 ·right
  have:i=n:=by omega
  subst this;simp only [go_sem,ya,DF,H2,show ¬(i:Int)<(i:Int) by omega];exact ⟨_,_,rfl,by simp,_,rs,rfl,rfl,by simp only [go_sem,ya],by simp only [go_sem,ya],by simp only [go_sem,ya],lr,gr,aG⟩
end
def Xs {b p A V bu bq0 U0 pre:Nat} (h1:bu=pre+p*A) (h2:bu+bq0*V=U0):(pre+p*(A%V))+(bq0+p*(A/V))*V=U0:=by
 have eR:=xV A V
 grind
def arT (hp:Hp) (ct:Nat) (ex:Bool) (sz n:Nat) (cs:List AV):own hp ct (.cr ex sz n cs)=(.ay ct 0 n,(ct,.cells true true ex sz cs)::hp,ct+1):=rfl
section
variable {P:aF} {L:Lib}
def apU (h:Wd P L) {w:AV} {vs:List Nat} (hw:bB w vs) (gv:lo 18446744073709551616 vs) {n la m:Nat} (lv:vs.length=n) (dd:2<=n) (Jg:n<=la) (JC:la<=99999999999) (hm:m=la-n+1) (dN:0<vs.getD (n-1) 0) {s U0:Nat}:
  ∀k st,(∃(j:Nat) (us qs:List Nat),aT [9,10,11,12,13,14] st=⟨[(9,aa s),(10,w),(11,.ay 0 0 (la+1)),(12,aa n),(13,.ay 1 0 m),(14,aa ((j:Int)-1))],H2 qs us,2,0⟩/\j=k/\j<=m/\us.length=la+1/\qs.length=m/\lo 18446744073709551616 us/\lo 18446744073709551616 qs/\(∀i,i<j->qs.getD i 0=0)/\
    bv 18446744073709551616 us+bv 18446744073709551616 qs*bv 18446744073709551616 vs=U0/\bv 18446744073709551616 (us.drop j)<bv 18446744073709551616 vs)->
   ∃ex st',D P L (.loop [9,10,11,12,13,14] Hn) st=some (ex,st')/\∃tm us qs,st'=⟨tm,H2 qs us,2,0⟩/\ex= .exit 2/\aj tm 9=aa s/\aj tm 11= .ay 0 0 (la+1)/\aj tm 12=aa n/\aj tm 13= .ay 1 0 m/\us.length=la+1/\qs.length=m/\lo 18446744073709551616 us/\lo 18446744073709551616 qs/\
    bv 18446744073709551616 us+bv 18446744073709551616 qs*bv 18446744073709551616 vs=U0/\bv 18446744073709551616 us<bv 18446744073709551616 vs:=by
 intro dq sq;generalize bt:aT [9,10,11,12,13,14] sq=s0;revert bt s0 sq dq;apply dU;rintro k st ⟨j,us,qs,rfl,rfl,hj,lu,lq,gu,gq,hz,aG,nI⟩
 cases j with
 | zero=>
  right
  simp only [go_sem,ya,Hn,H2,show ¬(0:Int)<=((0:Nat):Int)-1 by omega];exact ⟨_,_,rfl,by simp,_,us,qs,rfl,rfl,by simp only [go_sem,ya],by simp only [go_sem,ya],by simp only [go_sem,ya],by simp only [go_sem,ya],lu,lq,gu,gq,aG,by simpa using nI⟩
 | succ j=>
  left
  have dH:(0:Nat)<18446744073709551616:=by decide
  obtain ⟨pre,eH⟩:∃p,p=us.take j:=⟨_,rfl⟩;obtain ⟨x,hx⟩:∃p,p=(us.drop j).take (n+1):=⟨_,rfl⟩;obtain ⟨post,fR⟩:∃p,p=us.drop (j+(n+1)):=⟨_,rfl⟩;have lp:pre.length=j:=by rw [eH,yO];omega
  have lx:x.length=n+1:=by rw [hx,yO,xO];omega
  have jO:us=pre++x++post:=by
   rw [eH,hx,fR,<-ub,xt,wa,wa]
  have gx:lo 18446744073709551616 x:=by rw [hx];exact sL (Y6 gu _) _
  have Su:lo 18446744073709551616 pre:=by rw [eH];exact sL gu _
  have arU:lo 18446744073709551616 post:=by rw [fR];exact Y6 gu _
  have hA:bv 18446744073709551616 (us.drop j)=us.getD j 0+18446744073709551616*bv 18446744073709551616 (us.drop (j+1)):=Lo (by omega);have hgj:=gi dH gu j;have Uq:us.drop j=x++post:=by rw [fR,hx,<-ub,wa]
  have zM:bv 18446744073709551616 (us.drop j)=bv 18446744073709551616 x+18446744073709551616^(n+1)*bv 18446744073709551616 post:=by rw [Uq,qF,lx]
  have JA:=ll gv;rw [lv] at JA;have aR:bv 18446744073709551616 (us.drop j)<18446744073709551616*bv 18446744073709551616 vs:=by omega
  have hp0:bv 18446744073709551616 post=0:=by
   rcases xi (bv 18446744073709551616 post) with e | e
   ·exact e
   ·have h1:=yS (18446744073709551616^(n+1)) e;rw [yk,y7] at h1;rw [y7] at zM;omega
  rw [hp0,xD,yW] at zM;have hl:gN x vs n (vs.getD (n-1) 0) (vs.getD (n-2) 0) (x.getD n 0) (x.getD (n-1) 0) (x.getD (n-2) 0):=
   ⟨dd,by omega,lx,lv,gx,gv,rfl,rfl,rfl,rfl,rfl,dN,by rw [<-zM];exact aR⟩
  have Nc:=hl.digit;obtain ⟨x',e1,Ur,On,JD⟩:=atk h hw hl (pre:=pre) (post:=post) (qs:=qs);rw [lp,<-jO] at e1;have Us:bv 18446744073709551616 us=bv 18446744073709551616 pre+18446744073709551616^j*bv 18446744073709551616 x:=by
   have:=GM (b:=18446744073709551616) us j (by omega)
   rw [zM,<-eH] at this;exact this
  have Sv:bv 18446744073709551616 (pre++x'++post)=bv 18446744073709551616 pre+18446744073709551616^j*bv 18446744073709551616 x':=by
   rw [xt,qF,qF,hp0,xD,yW,lp]
  have aU:=nt (b:=18446744073709551616) (l:=qs) (i:=j) (x:=bv 18446744073709551616 x/bv 18446744073709551616 vs) (by omega);rw [hz j (by omega),xD,yW] at aU;have iX:=Xs (b:=0) Us aG;have aO:=fun (hp:Hp) (ct:Nat)=>jY (hp:=hp) (ct:=ct) (id:=1) (v:=bv 18446744073709551616 x/bv 18446744073709551616 vs) (ex:=true) (l:=qs) (o:=j) (by omega)
  have qc:0<bv 18446744073709551616 vs:=by omega
  have mg:=xE (bv 18446744073709551616 x) qc;have lF:∀tm (x y:X),cB tm 0 (some x)=some j->cB tm (la+1) (some y)=some (j+n+1)->fg (H2 qs us) (.sl 1) (.ay 0 0 (la+1)) tm (some x) (some y)=some (.ay 0 j (n+1)):=fun tm x y h1 h2=>by
   rw [anl (cs:=us.map uc) (pu:=true) (ex:=true) rfl h1 h2 (by omega) (by omega),show j+n+1-j=n+1 by omega]
  simp only [go_sem,ya,yk,Hn,H2,show ((j+1:Nat):Int)-1=(j:Int) by omega,show (0:Int)<=(j:Int) by omega,show (j:Int)+(n:Int)=((j+n:Nat):Int) from rfl,wrapN (n:=j+n) (by omega),show ((j+n:Nat):Int)+1=((j+n+1:Nat):Int) from rfl,wrapN (n:=j+n+1) (by omega),lF,dA,aa0,e1,cT 1 0 (show j<m by omega),yf,aO];refine ⟨_,j,rfl,by omega,j,pre++x'++post,qs.set j (bv 18446744073709551616 x/bv 18446744073709551616 vs),?_,rfl,by omega,by rw [ow,lp,Ur,fR,xO];omega,by simp [lq],KB.2 ⟨KB.2 ⟨Su,On⟩,arU⟩,lU gq Nc,fun i hi=>by rw [ot (by omega)];exact hz i (by omega),?_,?_⟩
  ·rw [wrap64 (by omega) (by omega)];simp only [go_sem,ya,yd,az,aE hw.pu,aJ _ hw.pu]<;>rfl
  ·rw [Sv,JD,aU];exact iX
  ·rw [xt,yac lp,qF,hp0,xD,yW,JD];exact mg
def arV {l:List Nat} {n:Nat} (h:l.length=n+1):18446744073709551616^n*l.getD n 0<=bv 18446744073709551616 l:=by
 have:=iP (b:=18446744073709551616) (l:=l) n
 grind
def mN {m K:Nat} {l:List Nat} (hn:gB l) (hv:bv 18446744073709551616 l=m) (h:m<18446744073709551616^K):l.length<=K:=ahN (b:=18446744073709551616) (by decide) hn (by rw [hv];exact h)
def apV (h:Wd P L) {v w:AV} {x:List Nat} {d:Nat} (hv:bB v x) (hw:bB w [d]) (gx:lo 18446744073709551616 x) (lx:x.length<=90000000000) (fB:0<d) (Up:d<18446744073709551616) (ec:ah P L 158 [v,w] (aa (dG (bv 18446744073709551616 x) d))) (hc:d<=bv 18446744073709551616 x):
  ∃q r,ah P L 137 [v,w] (.au [q,r])/\WN q (bv 18446744073709551616 x/d)/\WN r (bv 18446744073709551616 x%d):=by
 have dR:¬dG (bv 18446744073709551616 x) d<0:=by unfold dG;rw [yB (by omega)];split<;>decide
 obtain ⟨n,hn⟩:∃n,n=x.length:=⟨_,rfl⟩;have main:∃r l,(∀c:Nat->AV->AV->Option AV,True)/\r<d/\l.length=n/\lo 18446744073709551616 l/\bv 18446744073709551616 x=bv 18446744073709551616 l*d+r/\
   ∃q1 r1,bB q1 (dJ l)/\bB r1 (dJ [r])/\ah P L 137 [v,w] (.au [q1,r1]):=by
  unfold ah;rw [aC h.Sr]
  simp only [go_sem,ya,Ik,hv.len,hv.ai,hw.len,hw.ai,ec,dR,yz,yK,yf,show ((1:Nat):Int)=(1:Int) from rfl,<-hn,Ct (n:=n) _ (by omega)];generalize hq:D P L (.loop [0,1,6,7,8] Hm) _=q;obtain ⟨ex,s,rfl,tm,r,l,rfl,rfl,t6,t7,rP,aY,hr,aG⟩:=b9 hq (apS (P:=P) (L:=L) h hv gx (by omega) hw fB Up hn n) ⟨n,0,[],by
   rw [wrap64 (by omega) (by omega),xX]
   simp only [go_sem,ya,yd,az,aE hv.pu,aJ _ hv.pu,aE hw.pu,aJ _ hw.pu]<;>rfl,rfl,rfl,LF,fB,by rw [List.drop_eq_nil_of_le (by omega)];simp [bv]⟩
  have hf:=mz true l;rw [rP] at hf;obtain ⟨q1,e1,eQ⟩:=AS h.me hf (by omega);obtain ⟨r1,e2,cg⟩:=AS h.me (mz true [r]) (by simp);simp only [yz,yK,yf,xm,List.map_nil] at e2;refine ⟨r,l,fun _=>trivial,hr,rP,aY,aG,q1,r1,eQ,cg,?_⟩
  simp only [go_sem,ya,yd,yI,yp,yk,az,t6,t7,AR _ (n:=n) (l:=l) rP true,e1,eQ.shut,e2,cg.shut];exact QO eQ cg _
 obtain ⟨r,l,_,hr,rP,aY,aG,q1,r1,eQ,cg,e⟩:=main;have hq:bv 18446744073709551616 l=bv 18446744073709551616 x/d:=by
  rw [aG,xy,yaP fB,xP hr,yW]
 have hm:r=bv 18446744073709551616 x%d:=by
  rw [aG,xy,ybZ,yL hr]
 exact ⟨q1,r1,e,⟨_,eQ,Ae aY,Ad _,by rw [Ac,hq]⟩,⟨_,cg,Ae (DM.2 (by omega)),Ad _,by rw [Ac,Ar,hm]⟩⟩
def apW (h:Wd P L) {v w:AV} {x y:List Nat} (hv:bB v x) (hw:bB w y) (gx:lo 18446744073709551616 x) (gy:lo 18446744073709551616 y) (nx:gB x) (ny:gB y) (lx:x.length<=90000000000) (ly:2<=y.length) (ec:ah P L 158 [v,w] (aa (dG (bv 18446744073709551616 x) (bv 18446744073709551616 y)))) (hc:bv 18446744073709551616 y<=bv 18446744073709551616 x):
  ∃q r,ah P L 137 [v,w] (.au [q,r])/\WN q (bv 18446744073709551616 x/bv 18446744073709551616 y)/\WN r (bv 18446744073709551616 x%bv 18446744073709551616 y):=by
 have dH:(0:Nat)<18446744073709551616:=by decide
 have dR:¬dG (bv 18446744073709551616 x) (bv 18446744073709551616 y)<0:=by unfold dG;rw [yB (by omega)];split<;>decide
 have hyx:y.length<=x.length:=by
  by_cases hh:x.length<y.length
  ·have:=Lk (b:=18446744073709551616) (by decide) gx ny hh;omega
  ·omega
 obtain ⟨n,hn⟩:∃n,n=y.length:=⟨_,rfl⟩;obtain ⟨la,JC⟩:∃la,la=x.length:=⟨_,rfl⟩;have lX:=GN ny (fun e=>by subst e;simp at ly);have qj:=gi dH gy (y.length-1);have Ut:=hw.br (i:=y.length-1) (by omega);have jF:=arV (l:=y) (n:=n-1) (by omega);rw [<-hn] at lX qj Ut;obtain ⟨top,nI⟩:∃top,y.getD (n-1) 0=top:=⟨_,rfl⟩;rw [nI] at lX qj Ut jF;have elz:=ZN (P:=P) (f:=D P L) h.IT qj;obtain ⟨z1,z2,z3⟩:=P0 (uU lX) qj;generalize 64-dh 64 top=s at*
 obtain ⟨ov,ev,lov,gov,vov⟩:=ab2 h.ab7 hw gy (by omega) z1;obtain ⟨ou,eu,lou,gou,vou⟩:=ab2 h.ab7 hv gx (by omega) z1;obtain ⟨v',Uu,dX⟩:=AS h.me (mz true ov) (by omega);rw [lov,<-hn] at Uu;rw [<-hn] at ev;rw [<-JC] at eu lou;have jd:=xn s;obtain ⟨vs,zx⟩:∃vs,vs=dJ ov:=⟨_,rfl⟩;rw [<-zx] at dX;have C1:lo 18446744073709551616 vs:=by rw [zx];exact Ae gov
 have JE:gB vs:=by rw [zx];exact Ad _
 have r8:bv 18446744073709551616 vs=bv 18446744073709551616 y*2^s:=by rw [zx,Ac,vov]
 have hyW:bv 18446744073709551616 y*2^s<18446744073709551616^n:=by
  have e:18446744073709551616=2^(64-s)*2^s:=by rw [<-xL,show 64-s+s=64 by omega]
  have e1:=iP (b:=18446744073709551616) (l:=y) (n-1);rw [show n-1+1=n by omega,yM (by omega),nI] at e1;have e2:=ll (sL gy (n-1));rw [yO,Nat.min_eq_left (by omega)] at e2;have e3:top<2^(64-s):=Nat.lt_of_mul_lt_mul_right (a:=2^s) (Nat.lt_of_lt_of_eq z3 e);have e4:=yQ (2^s) (show top+1<=2^(64-s) from e3);rw [<-e] at e4;have e5:bv 18446744073709551616 y<18446744073709551616^(n-1)*(top+1):=by rw [xB,yk];omega
  have e6:=xS e5 jd;rw [xp] at e6;have e7:=yS (18446744073709551616^(n-1)) e4;rw [<-y7,show (n-1).succ=n by omega] at e7;exact yu e6 e7
 have atl:18446744073709551616^(n-1)*2^s<=bv 18446744073709551616 vs:=by
  rw [r8];refine yQ _ (xg ?_ jF)
  have:=yS (18446744073709551616^(n-1)) (show 1<=top by omega)
  omega
 have zN:vs.length=n:=by
  have h1:vs.length<=n:=by
   refine mN JE r8 ?_;exact hyW
  have h2:¬vs.length<n:=fun hh=>by
   have e1:=ll C1;have e2:18446744073709551616^vs.length<=18446744073709551616^(n-1):=yV dH (by omega);have e3:=yQ (2^s) jF;rw [xp,<-r8] at e3;have e4:=yS (18446744073709551616^(n-1)) (show 1<=top*2^s by omega);omega
  omega
 have dN:0<vs.getD (n-1) 0:=by
  have:=GN JE (fun e=>by rw [e] at zN;simp at zN;omega)
  rw [zN] at this;exact uU this
 obtain ⟨m,hm⟩:∃m,m=la-n+1:=⟨_,rfl⟩;have Ry:bv 18446744073709551616 (ou.drop m)<bv 18446744073709551616 vs:=by
  have e1:=GM (b:=18446744073709551616) ou m (by omega);have e2:=ll gx;rw [<-JC] at e2;have e3:=xS e2 jd;rw [<-vou] at e3;have e4:18446744073709551616^la=18446744073709551616^m*18446744073709551616^(n-1):=by rw [<-xL];congr 1;omega
  rw [e4,xp] at e3;have e5:18446744073709551616^m*bv 18446744073709551616 (ou.drop m)<18446744073709551616^m*(18446744073709551616^(n-1)*2^s):=by omega
  exact yu (Nat.lt_of_mul_lt_mul_left e5) atl
 have e1y:(y.length:Int)-1=((n-1:Nat):Int):=by omega
 have atm:((la:Nat):Int)-(n:Int)=((m-1:Nat):Int):=by omega
 have iY:∃tm us qs rs,(us.length=la+1/\qs.length=m/\lo 18446744073709551616 us/\lo 18446744073709551616 qs/\bv 18446744073709551616 us+bv 18446744073709551616 qs*bv 18446744073709551616 vs=bv 18446744073709551616 x*2^s/\bv 18446744073709551616 us<bv 18446744073709551616 vs/\
   rs.length=n/\lo 18446744073709551616 rs/\bv 18446744073709551616 rs*2^s+us.getD 0 0%2^s=bv 18446744073709551616 (us.take n)+18446744073709551616^n*(us.getD n 0%2^s))/\aj tm 0=v/\
   ∃q1 r1,bB q1 (dJ qs)/\bB r1 (dJ rs)/\ah P L 137 [v,w] (.au [q1,r1]):=by
  unfold ah at ec ev eu Uu;unfold ah;rw [aC h.Sr];have hfo:=AR (n:=n+1) (l:=ov) (hp:=[]) (by omega) true
  simp only [go_sem,ya,yd,Ik,hv.len,hv.ai,hw.len,hw.ai,ec,dR,show ¬(y.length:Int)=1 by omega,e1y,wrapN (n:=n-1) (by omega),Ut,elz,ev,arT,AR _ (n:=n+1) (l:=ov) (by omega) true,Uu,dX.len,dX.shut,eu,zN,<-JC,atm,wrapN (n:=m-1) (by omega),show ((m-1:Nat):Int)+1=(m:Int) by omega,wrapN (n:=m) (by omega),Ct (n:=m) _ (by omega)];generalize kO:D P L (.loop [9,10,11,12,13,14] Hn) _=qq;obtain ⟨ex,st,rfl,tm,us,qs,rfl,rfl,t9,t11,t12,t13,Oo,Oq,E5,Uv,aG,aR⟩:=b9 kO (apU (P:=P) (L:=L) h dX C1 zN (by omega) (by omega) (by omega) hm dN (s:=s) (U0:=bv 18446744073709551616 x*2^s) m) ⟨m,ou,yy m 0,by
   rw [show ((m-1:Nat):Int)=(m:Int)-1 by omega]
   simp only [go_sem,ya,yd,az,aE dX.pu,aJ _ dX.pu]<;>rfl,rfl,yA _,lou,by simp,gou,DN dH m,fun i _=>BN m i,by rw [DO,uv,yW,vou],Ry⟩
  simp only [go_sem,ya,yd,az,t9,t11,t12,t13];generalize Cv:D P L (.loop [9,11,12,13,96,97] DF) _=Ul;obtain ⟨ex,st,rfl,mP,rs,rfl,rfl,t11,t12,t13,Uw,Ux,Nf⟩:=b9 Cv (apT (P:=P) (L:=L) (qs:=qs) (m:=m) (la:=la+1) (n:=n) z1 Oo E5 (by omega) (by omega) n) ⟨0,[],by simp only [go_sem,ya,yd,az]<;>rfl,by omega,rfl,LF,by simp [bv]⟩
  have lF:∀(hp:Hp) tm (y:X),ak hp 0=some (.cells true true true 1 ((rs++us.drop n).map uc))->cB tm (la+1) (some y)=some n->fg hp (.sl 1) (.ay 0 0 (la+1)) tm none (some y)=some (.ay 0 0 n):=fun hp tm y h1 h2=>Yj h1 h2 (by omega) (by omega)
  have JF:=mz true qs;rw [Oq] at JF;obtain ⟨q1,f1,eQ⟩:=AS h.me JF (by omega);have di:(rs++us.drop n).take n=rs:=by rw [List.take_append_of_le_length (by omega),yM (by omega)]
  have JG:∃e,∀hp:Hp,lE 0 n (some (true,1,(rs++us.drop n).map uc,hp))=some (.aA e n (rs.map uc),hp):=by
   refine ⟨true&&yJ 0 1&&yr n ((rs++us.drop n).map uc).length,fun hp=>?_⟩;simp only [lE,yf,yk,slice,yo,<-List.map_take,di];rw [yv (by simp;omega)];rfl
  obtain ⟨e,JG⟩:=JG;have il:=mz e rs;rw [Uw] at il;obtain ⟨r1,f2,cg⟩:=AS h.me il (by omega);unfold ah at f1 f2;refine ⟨[(0,v)],us,qs,rs,⟨Oo,Oq,E5,Uv,aG,aR,Uw,Ux,Nf⟩,rfl,q1,r1,eQ,cg,?_⟩
  simp only [go_sem,ya,yd,az,t11,t12,t13,AR _ (n:=m) (l:=qs) Oq true,f1,eQ.shut,lF,dA,JG,f2,cg.shut];exact QO eQ cg _
 obtain ⟨tm,us,qs,rs,⟨Oo,Oq,E5,Uv,aG,aR,Uw,Ux,Nf⟩,_,q1,r1,eQ,cg,e⟩:=iY;have iL:0<bv 18446744073709551616 y:=by
  have:=yS (18446744073709551616^(n-1)) (show 1<=top by omega)
  have:=yaG (n:=n-1) dH
  omega
 rw [r8] at aG aR;have IU:bv 18446744073709551616 qs=bv 18446744073709551616 x/bv 18446744073709551616 y:=by
  rw [<-Nat.mul_div_mul_right _ _ jd,<-aG,tx,xy,yaP (Nat.mul_pos iL jd),xP aR,yW]
 have Ot:bv 18446744073709551616 us=(bv 18446744073709551616 x%bv 18446744073709551616 y)*2^s:=by
  rw [<-tN,<-aG,tx,xy (bv _ qs),ybZ,yL aR]
 have jO:=GM (b:=18446744073709551616) us n (by omega);have fB:bv 18446744073709551616 (us.drop n)=0:=by
  rcases xi (bv 18446744073709551616 (us.drop n)) with h0 | h0
  ·exact h0
  ·have:=yS (18446744073709551616^n) h0
   omega
 have hun:us.getD n 0=0:=by
  have:=Lo (b:=18446744073709551616) (l:=us) (i:=n) (by omega)
  omega
 rw [fB,xD,yW] at jO;have Bh:us.getD 0 0%2^s=0:=by
  have e1:=Lo (b:=18446744073709551616) (l:=us) (i:=0) (by omega);rw [yo,Ot] at e1;have e2:18446744073709551616=2^s*2^(64-s):=by rw [<-xL,show s+(64-s)=64 by omega]
  have e3:(us.getD 0 0+18446744073709551616*bv 18446744073709551616 (us.drop (0+1)))%2^s=us.getD 0 0%2^s:=by
   conv=>lhs;rw [e2,xp]
   exact Nat.add_mul_mod_self_left _ _ _
  rw [<-e3,<-e1,Nat.mul_mod_left]
 rw [hun,Bh,Nat.zero_mod,xD,yW,yW,<-jO,Ot] at Nf;have aa1:bv 18446744073709551616 rs=bv 18446744073709551616 x%bv 18446744073709551616 y:=Nat.eq_of_mul_eq_mul_right jd Nf;exact ⟨q1,r1,e,⟨_,eQ,Ae Uv,Ad _,by rw [Ac,IU]⟩,⟨_,cg,Ae Ux,Ad _,by rw [Ac,aa1]⟩⟩
def aca (h:Wd P L) {v w:AV} {a b K:Nat} (hv:WN v a) (hw:WN w b) (hb:0<b) (ha:a<18446744073709551616^K) (hbK:b<18446744073709551616^K) (hK:K<=90000000000):
  ∃q r,ah P L 137 [v,w] (.au [q,r])/\WN q (a/b)/\WN r (a%b):=by
 obtain ⟨x,E6,gx,nx,vx⟩:=hv;obtain ⟨y,Ou,gy,ny,vy⟩:=hw;have lx:x.length<=90000000000:=xg (mN nx vx ha) hK;have ly:y.length<=90000000000:=xg (mN ny vy hbK) hK;have ec:=abX h.ab8 E6 Ou gx gy nx ny (by omega) (by omega);subst vx;subst vy;by_cases hc:bv 18446744073709551616 x<bv 18446744073709551616 y
 ·have dR:dG (bv 18446744073709551616 x) (bv 18446744073709551616 y)= -1:=by unfold dG;rw [yN hc]
  rw [dR] at ec;refine ⟨.ae,v,?_,⟨[],pE,LF,rfl,by rw [xP hc];rfl⟩,⟨x,E6,gx,nx,by rw [yL hc]⟩⟩
  unfold ah;rw [aC h.Sr];simp only [go_sem,ya,Ik,E6.ai,Ou.ai,ec,show (-1:Int)<0 by decide];exact QO pE E6 _
 ·rcases (show y.length=0\/y.length=1\/2<=y.length by omega) with h0 | h1 | h2
  ·rw [yH h0] at hb;simp [bv] at hb
  ·obtain ⟨d,rfl⟩:∃d,y=[d]:=by
    cases y with
    | nil=>simp at h1
    | cons d r=>cases r with
     | nil=>exact ⟨d,rfl⟩
     | cons e r=>simp at h1
   exact apV h E6 Ou gx lx hb (DM.1 gy) ec (by omega)
  ·exact apW h E6 Ou gx gy nx ny lx h2 ec (by omega)
end
def iM (v:AV) (n:Int):Prop:=∃w l,v= .agg [.bool (decide (n<0)),w]/\a8 w l/\dg l/\nz l/\dv l=n.natAbs
def gY {l:List Int} {k:Nat} (hd:dg l) (hn:nz l) (h:dv l<1000000000^k):l.length<=k:=by
 by_cases h0:l=[]
 ·grind
 ·have h1:=L6 hn hd h0;have h2:1000000000^(l.length-1)<1000000000^k:=we h1 h;have h3:=(Nat.pow_lt_pow_iff_right (show 1<1000000000 by decide)).1 h2;omega
def eI {hp:Hp} {ct id:Nat} {a b x y:AV} (h1:bn a=true) (h2:bn b=true) (p1:aW a=true) (p2:aW b=true):
  ij hp ct id 0 2 [a,b] (some (.cells true true true 2 [x,y]))=some (.au [],aU hp id (.cells true true true 2 [a,b]),ct):=by
 rw [sY (by rfl) (by simp) (by simp [bL,h1,h2])];simp [aD,p1,p2,over]
section
variable {P:aF} {L:Lib}
def bT (neg:Bool) (m:Nat):Int:=if neg=true then -(m:Int) else m
def nJ (h:Has P L 294 AN) (cD:Has P L 300 lD) (neg:Bool) {v:AV} {l:List Int} (hv:a8 v l) (hd:dg l) (hl:l.length<=20000000000):
  ∃r,ah P L 294 [.bool neg,v] r/\iM r (bT neg (dv l)):=by
 obtain ⟨w,e1,hw,jH⟩:=AQ cD hv hl;have ph:=sD l;have Bn:=Dx l;have kP:=Ab hd;have hc:(neg&&decide ((0:Int)<((dI l).length:Nat)))=decide (bT neg (dv l)<0):=by
  unfold bT
  cases neg with
  | false=>simp
  | true=>
   simp only [wF,xA];by_cases h0:dI l=[]
   ·rw [h0] at ph ⊢;simp only [dv] at ph;simp [<-ph]
   ·have h1:0<(dI l).length:=vQ.2 h0;have h2:0<dv l:=by
     rw [<-ph];rcases xi (dv (dI l)) with h | h
     ·exact absurd (Qg Bn kP h) h0
     ·exact h
    rw [xj (by omega),xj (by omega)]
 refine ⟨.agg [.bool (decide (bT neg (dv l)<0)),w],?_,w,dI l,rfl,hw,kP,Bn,?_⟩
 ·rw [<-hc];unfold ah at e1 ⊢;rw [aC h]
  cases neg with
  | false=>
   simp only [go_sem,ya,yd,yp,AN,aM,hv.ai,e1,hw.pu,hw.shut,hw.one,hw.cells,eI];rcases hw with ⟨rfl,_⟩ | ⟨e,rfl⟩<;>rfl
  | true=>
   simp only [go_sem,ya,yd,yp,AN,aM,hv.ai,e1,hw.len,hw.pu,hw.shut,hw.one,hw.cells,eI];rcases hw with ⟨rfl,_⟩ | ⟨e,rfl⟩<;>rfl
 ·rw [ph];unfold bT;split<;>omega
def acb (h:Has P L 298 MY) (gO:Has P L 294 AN) (cD:Has P L 300 lD) {v:AV} {n:Int} {K:Nat} (hK:K<=20000000000) (hv:iM v n) (hn:n.natAbs<1000000000^K):∃r,ah P L 298 [v] r/\iM r (-n):=by
 obtain ⟨w,l,rfl,hw,hd,hz,ph⟩:=hv;obtain ⟨r,e1,hr⟩:=nJ gO cD (!decide (n<0)) hw hd (xg (gY hd hz (by rw [ph];exact hn)) hK)
 have e:bT (!decide (n<0)) (dv l)= -n:=by
  rw [ph];unfold bT;by_cases h0:n<0
  ·simp [h0];omega
  ·simp [h0];omega
 rw [e] at hr;obtain ⟨w2,l2,rfl,gD,gP,iI,zn⟩:=hr;refine ⟨_,?_,w2,l2,rfl,gD,gP,iI,zn⟩;unfold ah at e1 ⊢;rw [aC h];simp only [go_sem,ya,yd,MY,aM,hw.pu,hw.ai,hw.one,gD.pu,gD.one,bl,yf,cC,e1,eI,bc];rcases gD with ⟨rfl,_⟩ | ⟨e,rfl⟩<;>rfl
end
def cS (s:Int) (w:AV) (z:Int):Prop:=
 (w= .ae/\s=z/\-9223372036854775808<=z/\z<9223372036854775808)\/
 (∃e l,w= .aA e l.length (l.map uc)/\lo 18446744073709551616 l/\gB l/\bv 18446744073709551616 l=z.natAbs/\s=(if z<0 then -1 else 1)/\9223372036854775808<=z.natAbs)
def ck (v:AV) (z:Int):Prop:=∃s w,v= .agg [aa s,w]/\cS s w z
def Bd (k:Nat) (z:Int):Prop:=z.natAbs<2^k
def At (k:Nat):2^k<=18446744073709551616^k:=vn (by decide) k
def Bd.mono {k m:Nat} {z:Int} (h:Bd k z) (hk:k<=m):Bd m z:=yu h (yV (by decide) hk)
def Bd.neg {k:Nat} {z:Int} (h:Bd k z):Bd k (-z):=by unfold Bd at h ⊢;rwa [Int.natAbs_neg]
def Bd.add {k m:Nat} {a b:Int} (ha:Bd k a) (hb:Bd m b):Bd (max k m+1) (a+b):=by
 have h1:Bd (max k m) a:=ha.mono (by omega);have h2:Bd (max k m) b:=hb.mono (by omega);unfold Bd at h1 h2 ⊢
 grind
def Bd.mul {k m:Nat} {a b:Int} (ha:Bd k a) (hb:Bd m b):Bd (k+m) (a*b):=by
 unfold Bd at*
 rw [yck,xL];exact uQ ha hb
def Bd.le {k:Nat} {a b:Int} (hb:Bd k b) (h:a.natAbs<=b.natAbs):Bd k a:=we h hb
def WN.pos {v:AV} {m:Nat} (h:WN v m) (h0:0<m):∃e l,v= .aA e l.length (l.map uc)/\l≠[]/\lo 18446744073709551616 l/\gB l/\bv 18446744073709551616 l=m:=by
 obtain ⟨l,hv,g,n,hb⟩:=h;have hl:l≠[]:=fun e=>by subst e;simp [bv] at hb;omega
 rcases hv with ⟨_,e⟩ | ⟨e,rfl⟩
 ·simp_all
 ·exact ⟨e,l,by simp,hl,g,n,hb⟩
def WN.aB {v:AV} {m:Nat} (h:WN v m):∃l,bB v l/\lo 18446744073709551616 l/\gB l/\bv 18446744073709551616 l=m:=h
def nv (e:Bool) (n:Nat) (cs:List AV):jE .sl (.aA e n cs) .ae=some false:=rfl
def gl:jE .sl .ae .ae=some true:=rfl
def Lq (hp:Hp) (ct id:Nat) (a:Int) (e:Bool) (n:Nat) (cs:List AV) (x y:AV):ij hp ct id 0 2 [.int .i64 a,.aA e n cs] (some (.cells true true true 2 [x,y]))=some (.au [],aU hp id (.cells true true true 2 [.int .i64 a,.aA e n cs]),ct):=eI rfl rfl rfl rfl
def qK {tm:Env} {a x y:AV} {r:List (Nat×Nat×X)} (h:bn a=true):jm tm [x,y] 0 1 [a] r=fill tm [a,y] r:=Zd (by simp) h
def cS.oe {z:Int} (h1: -9223372036854775808<=z) (h2:z<9223372036854775808):ck (.agg [aa z,.ae]) z:=⟨z,.ae,rfl,.inl ⟨rfl,rfl,h1,h2⟩⟩
def cS.bQ {s:Int} {w:AV} {z:Int} (h:cS s w z):(s<0↔z<0)/\(s=0↔z=0)/\-9223372036854775808<=s/\s<9223372036854775808:=by
 rcases h with ⟨_,rfl,h1,h2⟩ | ⟨e,l,_,_,_,_,rfl,h1⟩
 ·grind
 ·grind
section
variable {P:aF} {L:Lib}
structure Nu (P:aF) (L:Lib):Prop extends Wd P L where
 atn:Has P L 117 MH
 ato:Has P L 142 MJ
 Sw:Has P L 136 Ij
 IV:Has P L 145 zg
 atp:Has P L 146 R2
 Sx:Has P L 147 Il
 acd:Has P L 163 MN
 atq:Has P L 118 Cm
 ace:Has P L 119 c119
 atr:Has P L 156 R5
 Ng:Has P L 100 mb
 Sy:Has P L 164 mc
 ats:Has P L 148 R3
 att:Has P L 130 R1
def zo (h:Nu P L) {z:Int} (h1: -9223372036854775808<=z) (h2:z<9223372036854775808):ah P L 117 [aa z] (.agg [aa z,.ae])/\ck (.agg [aa z,.ae]) z:=⟨n117 h.atn z,cS.oe h1 h2⟩
def Sz (h:Nu P L) {n:Int} (h1: -9223372036854775808<=n) (h2:n<9223372036854775808):ah P L 142 [aa n] (uc n.natAbs):=by
 unfold ah;rw [aC h.ato];by_cases h0:n<0
 ·have e:IntKind.wrap .u64 (IntKind.wrap .i64 (0-n))=(n.natAbs:Int):=by
   by_cases hm:n= -9223372036854775808
   ·subst hm;rfl
   ·rw [wrap64 (by omega) (by omega),Ma];omega
  simp only [go_sem,ya,MJ,h0,ZH,e]
 ·have e:IntKind.wrap .u64 n=(n.natAbs:Int):=by rw [Ma];omega
  simp only [go_sem,ya,MJ,h0,ZH,e]
def ru (h:Nu P L) {s:Int} {w:AV} {z:Int} (hz:cS s w z):∃r,ah P L 136 [.agg [aa s,w]] (.au [.bool (decide (z<0)),r])/\WN (bM r) z.natAbs:=by
 rcases hz with ⟨rfl,rfl,h1,h2⟩ | ⟨e,l,rfl,g,n,hb,hs,h1⟩
 ·by_cases h0:s=0
  ·subst h0;refine ⟨.ae,?_,[],pE,LF,rfl,rfl⟩;unfold ah;rw [aC h.Sw];simp only [go_sem,ya,yd,Ij,aM,bl,yf,cC,gl,HI,ycK];rfl
  ·have e1:=Sz h h1 h2;refine ⟨.cr true 1 1 [uc s.natAbs],?_,[s.natAbs],mz true [s.natAbs],DM.2 (by omega),Di (by omega) [],Ar _⟩;unfold ah;rw [aC h.Sw];simp only [go_sem,ya,yd,yp,yk,Ij,aM,bl,yf,cC,gl,HI,h0,e1];rfl
 ·have ml:decide (s<0)=decide (z<0):=by rw [hs];split<;>simp<;>omega
  refine ⟨.aA e l.length (l.map uc),?_,l,mz e l,g,n,hb⟩;unfold ah;rw [aC h.Sw];simp only [go_sem,ya,yd,Ij,aM,bl,yf,cC,nv,HI,ml];rfl
def Xt {d:Nat} (h:d<=9223372036854775807):IntKind.wrap .i64 (d:Int)=d:=wrapN (by omega)
def Cw (h:Nu P L) (neg:Bool) {w:AV} {m K:Nat} (hw:WN w m) (hm:m<18446744073709551616^K) (hK:K<=90000000000):∃r,ah P L 145 [.bool neg,w] r/\ck r (bT neg m):=by
 obtain ⟨l,hu,g,n,hb⟩:=hw;have rP:l.length<=90000000000:=xg (mN n hb hm) hK;by_cases h0:l=[]
 ·subst h0
  have:m=0:=by rw [<-hb];rfl
  subst this;have e:bT neg 0=0:=by unfold bT;cases neg<;>rfl
  rw [e];refine ⟨.agg [aa 0,.ae],?_,cS.oe (by decide) (by decide)⟩;unfold ah;rw [aC h.IV];simp only [go_sem,ya,yd,zg,aM,hu.len,yK,show (((0:Nat):Nat):Int)=0 from rfl,qR];rfl
 ·have jt:0<l.length:=vQ.2 h0;by_cases h1:l.length=1/\l.getD 0 0<=9223372036854775807
  ·obtain ⟨h1,h2⟩:=h1;obtain ⟨d,rfl⟩:∃d,l=[d]:=by
    cases l with
    | nil=>simp at h1
    | cons d r=>cases r with
     | nil=>exact ⟨d,rfl⟩
     | cons e r=>simp at h1
   have h2:d<=9223372036854775807:=h2;rw [Ar] at hb;subst hb;have ex:=hu.br (i:=0) (by simp);rw [show ([d]:List Nat).getD 0 0=d from rfl] at ex;have hlen:∀hp,jk hp 1 w=some (.int .i64 1):=fun hp=>hu.len
   cases neg with
   | true=>
    refine ⟨.agg [aa (0-(d:Int)),.ae],?_,?_⟩
    ·unfold ah;rw [aC h.IV]
     simp only [go_sem,ya,yd,yp,zg,aM,hlen,vM,ex,show (d:Int)<=9223372036854775807 by omega,LJ,Xt h2,wrap64 (n:=0-(d:Int)) (by omega) (by omega),qR];rfl
    ·have:bT true d=0-(d:Int):=by unfold bT;simp
     rw [this];exact cS.oe (by omega) (by omega)
   | false=>
    refine ⟨.agg [aa (d:Int),.ae],?_,?_⟩
    ·unfold ah;rw [aC h.IV];simp only [go_sem,ya,yd,yp,zg,aM,hlen,vM,ex,show (d:Int)<=9223372036854775807 by omega,LJ,Xt h2,qR];rfl
    ·have:bT false d=(d:Int):=by unfold bT;simp
     rw [this];exact cS.oe (by omega) (by omega)
  ·have qt:9223372036854775808<=m:=by
    rw [<-hb];by_cases h2:l.length=1
    ·obtain ⟨d,rfl⟩:∃d,l=[d]:=by
      cases l with
      | nil=>simp at h2
      | cons d r=>cases r with
       | nil=>exact ⟨d,rfl⟩
       | cons e r=>simp at h2
     have:¬d<=9223372036854775807:=fun hd=>h1 ⟨h2,hd⟩
     rw [Ar];omega
    ·have h3:=QI (b:=18446744073709551616) (by decide) n h0;have h4:18446744073709551616^1<=18446744073709551616^(l.length-1):=yV (by decide) (by omega);rw [ycW] at h4;omega
   have cz:∃e,w= .aA e l.length (l.map uc):=by
    rcases hu with ⟨rfl,hh⟩ | ⟨e,rfl⟩
    ·simp at hh;exact absurd hh h0
    ·exact ⟨e,by simp⟩
   obtain ⟨e,rfl⟩:=cz;have ex:=hu.br (i:=0) jt;have first:(decide ((l.length:Int)=1)=true/\¬((l.getD 0 0:Nat):Int)<=9223372036854775807)\/decide ((l.length:Int)=1)=false:=by
    by_cases h2:l.length=1
    ·left;refine ⟨by simp;omega,fun hd=>h1 ⟨h2,by omega⟩⟩
    ·right;simp;omega
   cases neg with
   | true=>
    refine ⟨.agg [aa (-1),.aA e l.length (l.map uc)],?_,-1,_,rfl,.inr ⟨e,l,rfl,g,n,by rw [hb];unfold bT;simp,by unfold bT;simp;omega,by unfold bT;simp;omega⟩⟩
    unfold ah;rw [aC h.IV];rcases first with ⟨f1,f2⟩ | f1
    ·simp only [go_sem,ya,yd,yp,zg,aM,show ¬(l.length:Int)=0 by omega,f1,f2,ex,qK,Lq];rfl
    ·simp only [go_sem,ya,yd,yp,zg,aM,show ¬(l.length:Int)=0 by omega,f1,qK,Lq];rfl
   | false=>
    refine ⟨.agg [aa 1,.aA e l.length (l.map uc)],?_,1,_,rfl,.inr ⟨e,l,rfl,g,n,by rw [hb];unfold bT;simp,by unfold bT;simp,by unfold bT;simp;omega⟩⟩
    unfold ah;rw [aC h.IV];rcases first with ⟨f1,f2⟩ | f1
    ·simp only [go_sem,ya,yd,yp,zg,aM,show ¬(l.length:Int)=0 by omega,f1,f2,ex,qK,Lq];rfl
    ·simp only [go_sem,ya,yd,yp,zg,aM,show ¬(l.length:Int)=0 by omega,f1,qK,Lq];rfl
end
def a7:VC->VC
 | .seq a _=>a
 | c=>c
def akT {a b:Int} {x y:Nat} (ha:a.natAbs=x) (hb:b.natAbs=y) (h:decide (a<0)=decide (b<0)):bT (decide (a<0)) (x+y)=a+b:=by
 unfold bT
 grind
def Yk {a b:Int} {m:Nat} (hm:m+b.natAbs=a.natAbs) (h:¬decide (a<0)=decide (b<0)):bT (decide (a<0)) m=a+b:=by
 unfold bT
 grind
def akU {a:Int}:bT (!decide (a<0)) a.natAbs= -a:=by
 unfold bT
 grind
def Yl {a b:Int}:bT (decide (a<0) !=decide (b<0)) (a.natAbs*b.natAbs)=a*b:=by
 unfold bT
 grind
def lY {s:Int} {w:AV} {l:List Nat} (h:bB w l) (hp:Hp):result hp (.agg [aa s,w])=some (.agg [aa s,w]):=by
 rcases h with ⟨rfl,_⟩ | ⟨e,rfl⟩<;>rfl
def da {s:Int} {w:AV} {l:List Nat} (h:bB w l) (hp:Hp) (ct id:Nat) (x y:AV):ij hp ct id 0 2 [.int .i64 s,w] (some (.cells true true true 2 [x,y]))=some (.au [],aU hp id (.cells true true true 2 [.int .i64 s,w]),ct):=eI rfl h.one rfl h.pu
def cS.aB {s:Int} {w:AV} {z:Int} (h:cS s w z):∃l,bB w l:=by
 rcases h with ⟨rfl,_⟩ | ⟨e,l,rfl,_⟩
 ·exact ⟨[],pE⟩
 ·exact ⟨l,mz e l⟩
def aa2 (hp:Hp) (sz:Nat) (ag:Bool):AV->Option AV
 | .ptr id o=>Og sz ag o (ak hp id)
 | .aH cs=>fV sz ag cs
 | _=>none
def de (tm:Env) (hp:Hp) (ct base i sz:Nat) (ag:Bool):results1 ⟨tm,hp,ct,base⟩ (.cell i sz ag)=aa2 hp sz ag (aj tm i):=by
 rfl
def df (hp:Hp) (sz:Nat) (ag:Bool) (id o:Nat):aa2 hp sz ag (.ptr id o)=Og sz ag o (ak hp id):=rfl
section
variable {P:aF} {L:Lib}
def Eo (h:Nu P L) {v:AV} {z:Int} (hv:ck v z):ah P L 146 [v] (aa (bQ z)):=by
 obtain ⟨s,w,rfl,hn⟩:=hv;obtain ⟨l,hu⟩:=hn.aB;have e:bQ s=bQ z:=by
  obtain ⟨h1,h2,_⟩:=hn.bQ;unfold bQ;by_cases h0:z<0
  ·rw [yN h0,yN (h1.2 h0)]
  ·by_cases h3:z=0
   ·rw [yB (fun h=>h0 (h1.1 h)),yN (h2.2 h3),yB h0,yN h3]
   ·rw [yB (fun h=>h0 (h1.1 h)),yB (fun h=>h3 (h2.1 h)),yB h0,yB h3]
 unfold ah;rw [aC h.atp];simp only [go_sem,ya,yd,R2,aM,hu.pu,hu.one,bl,yf,LI,mB,KV,mw,apI,e]
def Ep (h:Nu P L) {v:AV} {z:Int} {K:Nat} (hv:ck v z) (hz:Bd K z) (hK:K<=90000000000):∃r,ah P L 147 [v] r/\ck r (-z):=by
 obtain ⟨s,w,rfl,hn⟩:=hv;obtain ⟨p,e1,hp⟩:=ru h hn;obtain ⟨lp,iH,_⟩:=hp.aB;obtain ⟨r,e2,hr⟩:=Cw h (!decide (z<0)) hp (yu hz (At K)) hK;rw [akU] at hr;have bC:=hr;obtain ⟨s',w',rfl,gS⟩:=hr;obtain ⟨l',jf⟩:=gS.aB;rcases hn with ⟨rfl,rfl,h1,h2⟩ | ⟨e,l0,rfl,g,n,hb,hs,h1⟩
 ·by_cases h0:s= -9223372036854775808
  ·refine ⟨_,?_,bC⟩;unfold ah;rw [aC h.Sx];simp only [go_sem,ya,yd,Il,aM,bl,yf,cC,gl,dP,h0];rw [h0] at e1 e2;simp only [go_sem,ya,bR,bA,e1,e2,iH.ai,bc,de,df,bR,yo,lY jf,da jf]
  ·refine ⟨.agg [aa (-s),.ae],?_,cS.oe (by omega) (by omega)⟩;unfold ah;rw [aC h.Sx]
   simp only [go_sem,ya,yd,Il,aM,bl,yf,cC,gl,dP,h0,wrap64 (n:=0-s) (by omega) (by omega),qR,qK];rw [Int.zero_sub];rfl
 ·refine ⟨_,?_,bC⟩;unfold ah;rw [aC h.Sx];simp only [go_sem,ya,yd,Il,aM,bl,yf,cC,nv,dP,bR,bA,e1,e2,iH.ai,bc,de,df,bR,yo,lY jf,da jf]
def SA (h:Nu P L) {v:AV} {z:Int} {K:Nat} (hv:ck v z) (hz:Bd K z) (hK:K<=90000000000):∃r,ah P L 163 [v] r/\ck r (z.natAbs:Nat):=by
 have dX:=hv;obtain ⟨s,w,rfl,hn⟩:=hv;obtain ⟨l,hu⟩:=hn.aB;have r9:=hn.bQ.1;by_cases h0:z<0
 ·obtain ⟨r,e1,hr⟩:=Ep h dX hz hK;rw [show -z=(z.natAbs:Int) by omega] at hr;have bC:=hr;obtain ⟨s',w',rfl,gS⟩:=hr;obtain ⟨l',jf⟩:=gS.aB;refine ⟨_,?_,bC⟩;unfold ah;rw [aC h.acd];simp only [go_sem,ya,yd,MN,aM,hu.pu,hu.ai,hu.one,bl,yf,r9.2 h0,bR,bA,e1,bc,de,df,bR,yo,lY jf,da jf]
 ·rw [show ((z.natAbs:Nat):Int)=z by omega];refine ⟨_,?_,dX⟩;unfold ah;rw [aC h.acd];simp only [go_sem,ya,yd,MN,aM,hu.pu,hu.one,bl,yf,show ¬s<0 from fun h=>h0 (r9.1 h),bR,de,df,bR,yo,lY hu,da hu]
def apX (h:Nu P L) {s1 s2:Int} {w1 w2:AV} {a b:Int} {K:Nat} (ha:cS s1 w1 a) (hb:cS s2 w2 b) (ka:Bd K a) (kb:Bd K b) (hK:K<=40000000000):
  ∃r,ck r (a+b)/\∀tm,aj tm 2= .ptr 0 0->aj tm 3= .ptr 1 0->aj tm 4= .ptr 2 0->eX [.cell 4 2 true] (D P L (av (av c119.body)) ⟨tm,[(2,.cells true true true 2 [.int .i64 0,.ae]),(1,.cells true true true 2 [aa s2,w2]),(0,.cells true true true 2 [aa s1,w1])],3,0⟩)=some r:=by
 obtain ⟨l1,u1⟩:=ha.aB;obtain ⟨l2,u2⟩:=hb.aB;obtain ⟨p,e1,hp⟩:=ru h ha;obtain ⟨q,e2,hq⟩:=ru h hb;obtain ⟨lp,iH,gp,np,vp⟩:=hp.aB;obtain ⟨lq,nZ,gq,nq,vq⟩:=hq.aB;have Bo:=yu ka (At K);have E7:=yu kb (At K);have llp:lp.length<=40000000000:=xg (mN np vp Bo) hK;have llq:lq.length<=40000000000:=xg (mN nq vq E7) hK;by_cases hs:decide (a<0)=decide (b<0)
 ·obtain ⟨o,lK,e3,ho,mX,no,vo⟩:=as5 h.atf h.me h.gm iH nZ gp gq (by omega) (by omega);obtain ⟨r,e4,hr⟩:=Cw h (decide (a<0)) ⟨lK,ho,mX,no,vo⟩ (K:=K+1) (by rw [vp,vq,y7];omega) (by omega);rw [akT vp.symm vq.symm hs] at hr;have bC:=hr;obtain ⟨s',w',rfl,gS⟩:=hr;obtain ⟨l',jf⟩:=gS.aB;refine ⟨_,bC,fun tm t2 t3 t4=>?_⟩;simp only [go_sem,ya,c119,av,t2,t3,bR,bA,u1.ai,u2.ai,e1,e2,iH.ai,nZ.ai,dP,oF,hs,yaD];rw [hs] at e4;simp only [go_sem,ya,t4,e3,ho.ai,ho.shut,e4,bc,de,df,bR,yo,lY jf,da jf]
 ·have JH:(decide (a<0)==decide (b<0))=false:=by simpa using hs
  have e3:=abX h.ab8 iH nZ gp gq np nq (by omega) (by omega);rw [vp,vq] at e3;by_cases hc:b.natAbs<=a.natAbs
  ·obtain ⟨o,lK,e4,ho,mX,no,vo⟩:=abY h.ab9 h.me h.rn iH nZ gp gq nq (by omega) (by rw [vp,vq];exact hc)
   rw [vp,vq] at vo;obtain ⟨r,e5,hr⟩:=Cw h (decide (a<0)) ⟨lK,ho,mX,no,rfl⟩ (K:=K) (by omega) (by omega);rw [Yk vo hs] at hr;have bC:=hr;obtain ⟨s',w',rfl,gS⟩:=hr;obtain ⟨l',jf⟩:=gS.aB;have dR:(0:Int)<=dG a.natAbs b.natAbs:=by unfold dG;rw [yB (by omega)];split<;>decide
   refine ⟨_,bC,fun tm t2 t3 t4=>?_⟩;simp only [go_sem,ya,c119,av,t2,t3,t4,bR,bA,u1.ai,u2.ai,e1,e2,iH.ai,nZ.ai,dP,oF,JH,e3,dR,e4,ho.ai,ho.shut,e5,bc,de,df,bR,yo,lY jf,da jf]
  ·obtain ⟨o,lK,e4,ho,mX,no,vo⟩:=abY h.ab9 h.me h.rn nZ iH gq gp np (by omega) (by rw [vp,vq];omega);rw [vp,vq] at vo;obtain ⟨r,e5,hr⟩:=Cw h (decide (b<0)) ⟨lK,ho,mX,no,rfl⟩ (K:=K) (by omega) (by omega);rw [Yk vo (fun e=>hs e.symm),Int.add_comm] at hr;have bC:=hr;obtain ⟨s',w',rfl,gS⟩:=hr;obtain ⟨l',jf⟩:=gS.aB;have dR:¬(0:Int)<=dG a.natAbs b.natAbs:=by unfold dG;rw [yN (by omega)];decide
   refine ⟨_,bC,fun tm t2 t3 t4=>?_⟩;simp only [go_sem,ya,c119,av,t2,t3,t4,bR,bA,u1.ai,u2.ai,e1,e2,iH.ai,nZ.ai,dP,oF,JH,e3,dR,e4,ho.ai,ho.shut,e5,bc,de,df,bR,yo,lY jf,da jf]
def IW (h:Nu P L) {v w:AV} {a b:Int} {K:Nat} (hv:ck v a) (hw:ck w b) (ka:Bd K a) (kb:Bd K b) (hK:K<=40000000000):∃r,ah P L 119 [v,w] r/\ck r (a+b):=by
 obtain ⟨s1,w1,rfl,h1⟩:=hv;obtain ⟨s2,w2,rfl,h2⟩:=hw;obtain ⟨l2,u2⟩:=h2.aB;obtain ⟨r,hr,tail⟩:=apX h h1 h2 ka kb hK;have fin:∀tm,aj tm 2= .ptr 0 0->aj tm 3= .ptr 1 0->aj tm 4= .ptr 2 0->
   D P L (.seq (a7 c119.body) (a7 (av c119.body))) ⟨[(0,.agg [aa s1,w1]),(1,.agg [aa s2,w2])],[],0,0⟩=some (.normal,⟨tm,[(2,.cells true true true 2 [.int .i64 0,.ae]),(1,.cells true true true 2 [aa s2,w2]),(0,.cells true true true 2 [aa s1,w1])],3,0⟩)->ah P L 119 [.agg [aa s1,w1],.agg [aa s2,w2]] r:=fun tm t2 t3 t4 e=>by
  unfold ah;rw [aC h.ace];show eX [.cell 4 2 true] (D P L (.seq (a7 c119.body) (.seq (a7 (av c119.body)) (av (av c119.body)))) ⟨[(0,.agg [aa s1,w1]),(1,.agg [aa s2,w2])],[],0,0⟩)=_
  have e2:D P L (.seq (a7 c119.body) (.seq (a7 (av c119.body)) (av (av c119.body)))) ⟨[(0,.agg [aa s1,w1]),(1,.agg [aa s2,w2])],[],0,0⟩=mI P L (D P L (.seq (a7 c119.body) (a7 (av c119.body))) ⟨[(0,.agg [aa s1,w1]),(1,.agg [aa s2,w2])],[],0,0⟩) (av (av c119.body)):=by
   rw [iz,iz]
   cases D P L (a7 c119.body) ⟨[(0,.agg [aa s1,w1]),(1,.agg [aa s2,w2])],[],0,0⟩ with
   | none=>rfl
   | some q=>
    obtain ⟨ex,st⟩:=q
    cases ex with
    | normal=>rw [fe,fe,iz]
    | ret=>rfl
    | exit id=>rfl
  rw [e2,e,fe];exact tail tm t2 t3 t4
 rcases h1 with ⟨rfl,rfl,a1,a2⟩ | ⟨e,l,rfl,ga,na,va,sa,a1⟩
 ·rcases h2 with ⟨rfl,rfl,b1,b2⟩ | ⟨e,l,rfl,gb,nb,vb,sb,b1⟩
  ·by_cases ie: -9223372036854775808<=s1+s2/\s1+s2<9223372036854775808
   ·refine ⟨.agg [aa (s1+s2),.ae],?_,cS.oe ie.1 ie.2⟩;have e:decide (s1<s1+s2)=decide (0<s2):=by
     by_cases h:0<s2
     ·simp only [h,yx];exact xj (by omega)
     ·simp only [h,yE];exact yY (by omega)
    unfold ah;rw [aC h.ace]
    simp only [go_sem,ya,yd,c119,aM,qR,gl,dP,oF,bl,yf,cC,wrap64 (n:=s1+s2) ie.1 ie.2,e,yaD,qK];rfl
   ·have e:(decide (s1<IntKind.wrap .i64 (s1+s2))==decide (0<s2))=false:=by
     have hw:(9223372036854775808<=s1+s2/\IntKind.wrap .i64 (s1+s2)=s1+s2-18446744073709551616)\/(s1+s2< -9223372036854775808/\IntKind.wrap .i64 (s1+s2)=s1+s2+18446744073709551616):=by
      simp only [IntKind.wrap,IntKind.bits,IntKind.signed,wF]
      split<;>rename_i h<;>simp at h<;>omega
     by_cases h0:0<s2
     ·rw [xj h0,yY (by omega)];rfl
     ·rw [yY h0,xj (by omega)];rfl
    refine ⟨r,fin _ ?_ ?_ ?_ (by simp only [go_sem,ya,yd,a7,av,c119,aM,gl,dP,oF,bl,yf,cC,e]<;>rfl),hr⟩<;>simp only [go_sem,ya]
  ·refine ⟨r,fin _ ?_ ?_ ?_ (by simp only [go_sem,ya,yd,a7,av,c119,aM,gl,nv,dP,bl,yf,cC]<;>rfl),hr⟩<;>simp only [go_sem,ya]
 ·refine ⟨r,fin _ ?_ ?_ ?_ (by simp only [go_sem,ya,yd,a7,av,c119,aM,u2.pu,u2.one,nv,dP,bl,yf,cC]<;>rfl),hr⟩<;>simp only [go_sem,ya]
end
def BI {P:aF} {L:Lib} (a b c:VC) (s:St):D P L (.seq a (.seq b c)) s=mI P L (D P L (.seq a b) s) c:=by
 rw [iz,iz]
 cases D P L a s with
 | none=>rfl
 | some q=>
  obtain ⟨ex,st⟩:=q
  cases ex with
  | normal=>rw [fe,fe,iz]
  | ret=>rfl
  | exit id=>rfl
def ZQ {s s':Int} {w w':AV} {l l':List Nat} (h:bB w l) (h':bB w' l') (hp:Hp):result hp (.au [.agg [aa s,w],.agg [aa s',w']])=some (.au [.agg [aa s,w],.agg [aa s',w']]):=by
 rcases h with ⟨rfl,_⟩ | ⟨e,rfl⟩<;>rcases h' with ⟨rfl,_⟩ | ⟨e',rfl⟩<;>rfl
def Nh (tm:Env) (hp:Hp) (ct:Nat) (rs:List (Nat×Bool×Nat)) (sz:Nat) (p:AV) (new:List AV):fN:=match p with | .ptr id o=>bif nj tm id rs then ij hp ct id o sz new (ak hp id) else none | _=>none
def Ni (id:Nat):AV->Bool | .ptr j _=> !yr j id | .aH _=>true | _=>false
def QP {P:aF} {L:Lib} (f:cu) (tm:Env) (hp:Hp) (ct:Nat) (rs:List (Nat×Bool×Nat)) (sz:Nat) (x v:X):a6 P L f tm hp ct (.jU rs sz x v)=Nh tm hp ct rs sz (aw tm x) (cellsOf (aw tm v)):=by
 simp only [a6,Nh]
 cases hx:aw tm x with
 | ptr id o=>
  rw [Yd,hx,aaS]
 | _=>rfl
def QQ {tm:Env} {hp:Hp} {ct:Nat} {rs:List (Nat×Bool×Nat)} {sz id o:Nat} {new:List AV} (h:nj tm id rs=true):Nh tm hp ct rs sz (.ptr id o) new=ij hp ct id o sz new (ak hp id):=by
 simp only [Nh,h,yt]
def Qo (tm:Env) (id:Nat):nj tm id []=true:=(rfl)
def P2 (tm:Env) (id sz x:Nat) (ag:Bool) (r:List (Nat×Bool×Nat)):nj tm id ((sz,ag,x)::r)=(Ni id (aj tm x)&&nj tm id r):=by
 simp only [nj,Ni]
 grind
def QR {id j o:Nat} (h:j≠id):Ni id (.ptr j o)=true:=by simp only [Ni,bW h,yU]
section
variable {P:aF} {L:Lib}
def acf (h:Nu P L) {v w:AV} {a b:Int} {K:Nat} (hv:ck v a) (hw:ck w b) (ka:Bd K a) (kb:Bd K b) (hK:K<=40000000000):∃r,ah P L 156 [v,w] r/\ck r (a-b):=by
 obtain ⟨n,e1,hn⟩:=Ep h hw kb (by omega);obtain ⟨r,e2,hr⟩:=IW h hv hn ka kb.neg hK;have bC:=hr;obtain ⟨s1,w1,rfl,h1⟩:=hv;obtain ⟨s2,w2,rfl,h2⟩:=hw;obtain ⟨s3,w3,rfl,h3⟩:=hn;obtain ⟨s4,w4,rfl,h4⟩:=hr;obtain ⟨l1,u1⟩:=h1.aB;obtain ⟨l2,u2⟩:=h2.aB;obtain ⟨l3,u3⟩:=h3.aB;obtain ⟨l4,u4⟩:=h4.aB;refine ⟨_,?_,bC⟩;unfold ah;rw [aC h.atr];simp only [go_sem,ya,yd,R5,aM,u1.pu,u1.ai,u1.one,u2.pu,u2.ai,u2.one,u3.ai,bA,e1,e2,bc,de,df,bR,yo,lY u4,da u4]
def acg (h:Nu P L) {v w:AV} {a b:Int} {K:Nat} (hv:ck v a) (hw:ck w b) (ka:Bd K a) (kb:Bd K b) (hK:K<=40000000000):ah P L 118 [v,w] (aa (bQ (a-b))):=by
 obtain ⟨d,e1,hd⟩:=acf h hv hw ka kb hK;have e2:=Eo h hd;obtain ⟨s1,w1,rfl,h1⟩:=hv;obtain ⟨s2,w2,rfl,h2⟩:=hw;obtain ⟨s3,w3,rfl,h3⟩:=hd;obtain ⟨l2,u2⟩:=h2.aB;obtain ⟨l3,u3⟩:=h3.aB;unfold ah;rw [aC h.atq];rcases h1 with ⟨rfl,rfl,a1,a2⟩ | ⟨e,l,rfl,ga,na,va,sa,a1⟩
 ·rcases h2 with ⟨rfl,rfl,b1,b2⟩ | ⟨e,l,rfl,gb,nb,vb,sb,b1⟩
  ·by_cases c1:s1<s2
   ·rw [show bQ (s1-s2)= -1 by unfold bQ;rw [yN (by omega)]];simp only [go_sem,ya,yd,Cm,aM,gl,dP,bl,yf,cC,c1]
   ·by_cases c2:s2<s1
    ·rw [show bQ (s1-s2)=1 by unfold bQ;rw [yB (by omega),yB (by omega)]];simp only [go_sem,ya,yd,Cm,aM,gl,dP,bl,yf,cC,c1,c2]
    ·rw [show bQ (s1-s2)=0 by unfold bQ;rw [yB (by omega),yN (by omega)]];simp only [go_sem,ya,yd,Cm,aM,gl,dP,bl,yf,cC,c1,c2]
  ·simp only [go_sem,ya,yd,Cm,aM,gl,nv,dP,bl,yf,cC,bR,bA,e1,e2,u3.ai,bc]
 ·simp only [go_sem,ya,yd,Cm,aM,u2.pu,u2.ai,u2.one,nv,dP,bl,yf,cC,bR,bA,e1,e2,u3.ai,bc]
def apY (h:Nu P L) {s1 s2:Int} {w1 w2:AV} {a b:Int} {K:Nat} (ha:cS s1 w1 a) (hb:cS s2 w2 b) (ka:Bd K a) (kb:Bd K b) (hK:K<=40000000000):
  ∃r,ck r (a*b)/\∀tm,aj tm 2= .ptr 0 0->aj tm 3= .ptr 1 0->aj tm 4= .ptr 2 0->eX [.cell 4 2 true] (D P L (av (av mb.body)) ⟨tm,[(2,.cells true true true 2 [.int .i64 0,.ae]),(1,.cells true true true 2 [aa s2,w2]),(0,.cells true true true 2 [aa s1,w1])],3,0⟩)=some r:=by
 obtain ⟨l1,u1⟩:=ha.aB;obtain ⟨l2,u2⟩:=hb.aB;obtain ⟨p,e1,hp⟩:=ru h ha;obtain ⟨q,e2,hq⟩:=ru h hb;obtain ⟨lp,iH,gp,np,vp⟩:=hp.aB;obtain ⟨lq,nZ,gq,nq,vq⟩:=hq.aB;have Bo:=yu ka (At K);have E7:=yu kb (At K);have llp:lp.length<=40000000000:=xg (mN np vp Bo) hK;have llq:lq.length<=40000000000:=xg (mN nq vq E7) hK;obtain ⟨o,lK,e3,ho,mX,no,vo⟩:=as8 h.atg h.me h.mf h.gm iH nZ gp gq (by omega) (by omega);obtain ⟨r,e4,hr⟩:=Cw h (decide (a<0) !=decide (b<0)) ⟨lK,ho,mX,no,vo⟩ (K:=K+K) (by rw [vp,vq,xL];exact uQ Bo E7) (by omega)
 rw [vp,vq,Yl] at hr;have bC:=hr;obtain ⟨s',w',rfl,gS⟩:=hr;obtain ⟨l',jf⟩:=gS.aB;refine ⟨_,bC,fun tm t2 t3 t4=>?_⟩;have rK:∀x y:Bool,IK true (some (x==y))=some (.bool (x !=y)):=fun x y=>by cases x<;>cases y<;>rfl
 simp only [go_sem,ya,mb,av,t2,t3,t4,bR,bA,u1.ai,u2.ai,e1,e2,iH.ai,nZ.ai,oF,rK,e3,ho.ai,ho.shut,e4,bc,de,df,bR,yo,lY jf,da jf]
def akV {a b:Int} {m:Nat} (h:a.natAbs*b.natAbs=m):a*b=if (decide (a<0)==decide (b<0))=true then (m:Int) else 0-(m:Int):=by
 have:=Yl (a:=a) (b:=b)
 rw [h] at this;unfold bT at this
 cases hd:(decide (a<0)==decide (b<0)) with
 | true=>simp only [bne,hd,yT,yD,xk] at this;exact this.symm
 | false=>simp only [bne,hd,yU,xA] at this;rw [yB (by decide)];omega
def rz (h:Nu P L) {v w:AV} {a b:Int} {K:Nat} (hv:ck v a) (hw:ck w b) (ka:Bd K a) (kb:Bd K b) (hK:K<=40000000000):∃r,ah P L 100 [v,w] r/\ck r (a*b):=by
 obtain ⟨s1,w1,rfl,h1⟩:=hv;obtain ⟨s2,w2,rfl,h2⟩:=hw;obtain ⟨l1,u1⟩:=h1.aB;obtain ⟨l2,u2⟩:=h2.aB;obtain ⟨r,hr,tail⟩:=apY h h1 h2 ka kb hK;have fin:∀tm,aj tm 2= .ptr 0 0->aj tm 3= .ptr 1 0->aj tm 4= .ptr 2 0->
   D P L (.seq (a7 mb.body) (a7 (av mb.body))) ⟨[(0,.agg [aa s1,w1]),(1,.agg [aa s2,w2])],[],0,0⟩=some (.normal,⟨tm,[(2,.cells true true true 2 [.int .i64 0,.ae]),(1,.cells true true true 2 [aa s2,w2]),(0,.cells true true true 2 [aa s1,w1])],3,0⟩)->ah P L 100 [.agg [aa s1,w1],.agg [aa s2,w2]] r:=fun tm t2 t3 t4 e=>by
  unfold ah;rw [aC h.Ng];show eX [.cell 4 2 true] (D P L (.seq (a7 mb.body) (.seq (a7 (av mb.body)) (av (av mb.body)))) ⟨[(0,.agg [aa s1,w1]),(1,.agg [aa s2,w2])],[],0,0⟩)=_
  rw [BI,e,fe];exact tail tm t2 t3 t4
 rcases h1 with ⟨rfl,rfl,a1,a2⟩ | ⟨e,l,rfl,ga,na,va,sa,a1⟩
 ·rcases h2 with ⟨rfl,rfl,b1,b2⟩ | ⟨e,l,rfl,gb,nb,vb,sb,b1⟩
  ·have f1:=Sz h a1 a2;have f2:=Sz h b1 b2;have f3:=LK (P:=P) (f:=D P L) h.mf (x:=s1.natAbs) (y:=s2.natAbs) (by omega) (by omega);obtain ⟨m,hm⟩:∃m,s1.natAbs*s2.natAbs=m:=⟨_,rfl⟩;rw [hm] at f3;have nO:=akV hm;by_cases ie:m<=9223372036854775807
   ·rw [xP (by omega),yL (by omega)] at f3;rw [show (uc 0)=AV.int .u64 0 from rfl] at f3;by_cases hs:(decide (s1<0)==decide (s2<0))=true
    ·rw [yN hs] at nO;refine ⟨.agg [aa (m:Int),.ae],?_,by rw [nO];exact cS.oe (by omega) (by omega)⟩
     unfold ah;rw [aC h.Ng]
     simp only [go_sem,ya,yd,mb,aM,qR,gl,dP,HI,oF,bl,yf,cC,f1,f2,f3,show (m:Int)<=9223372036854775807 by omega,hs,LJ,wrap64 (n:=(m:Int)) (by omega) (by omega),qK];rfl
    ·rw [yB hs] at nO;refine ⟨.agg [aa (0-(m:Int)),.ae],?_,by rw [nO];exact cS.oe (by omega) (by omega)⟩
     unfold ah;rw [aC h.Ng]
     simp only [go_sem,ya,yd,mb,aM,qR,gl,dP,HI,oF,bl,yf,cC,f1,f2,f3,show (m:Int)<=9223372036854775807 by omega,hs,LJ,wrap64 (n:=(m:Int)) (by omega) (by omega),wrap64 (n:=0-(m:Int)) (by omega) (by omega),qK];rfl
   ·by_cases kQ:m/18446744073709551616=0
    ·rw [kQ,yL (by omega)] at f3;rw [show (uc 0)=AV.int .u64 0 from rfl] at f3;refine ⟨r,fin _ ?_ ?_ ?_ (by simp only [go_sem,ya,yd,a7,av,mb,aM,gl,dP,bl,yf,cC,f1,f2,f3,show ¬(m:Int)<=9223372036854775807 by omega]<;>rfl),hr⟩<;>simp only [go_sem,ya]
    ·obtain ⟨q,hq⟩:∃q,q=m/18446744073709551616:=⟨_,rfl⟩;rw [<-hq] at f3 kQ;refine ⟨r,fin _ ?_ ?_ ?_ (by simp only [go_sem,ya,yd,a7,av,mb,aM,gl,dP,bl,yf,cC,f1,f2,f3,show ¬(q:Int)=0 by omega]<;>rfl),hr⟩<;>simp only [go_sem,ya]
  ·refine ⟨r,fin _ ?_ ?_ ?_ (by simp only [go_sem,ya,yd,a7,av,mb,aM,gl,nv,dP,bl,yf,cC]<;>rfl),hr⟩<;>simp only [go_sem,ya]
 ·refine ⟨r,fin _ ?_ ?_ ?_ (by simp only [go_sem,ya,yd,a7,av,mb,aM,u2.pu,u2.one,nv,dP,bl,yf,cC]<;>rfl),hr⟩<;>simp only [go_sem,ya]
end
def aiB {a b:Int} {q r:Nat} (hb:0<b) (h:q=a.natAbs/b.natAbs) (h2:r=a.natAbs%b.natAbs):
  (bT (decide (a<0)) r<0->a/b=bT (decide (a<0)) q-1/\a%b=bT (decide (a<0)) r+b)/\(¬bT (decide (a<0)) r<0->a/b=bT (decide (a<0)) q/\a%b=bT (decide (a<0)) r):=by
 have eR:=xV a.natAbs b.natAbs;have aR:r<b.natAbs:=by rw [h2];exact xE _ (by omega)
 unfold bT;by_cases h0:a<0
 ·simp only [h0,yx,xA];constructor
  ·intro h3;refine (tS hb).2 ⟨?_,by omega,by omega⟩
   grind
  ·intro h3;refine (tS hb).2 ⟨?_,by omega,by omega⟩
   grind
 ·grind
section
variable {P:aF} {L:Lib}
def apZ (h:Nu P L) {s1 s2:Int} {w1 w2:AV} {a b:Int} {K:Nat} (ha:cS s1 w1 a) (hb:cS s2 w2 b) (dH:0<b) (ka:Bd K a) (kb:Bd K b) (hK:K<=30000000000):
  ∃q r,ck q (a/b)/\ck r (a%b)/\∀tm,aj tm 2= .ptr 0 0->aj tm 3= .ptr 1 0->aj tm 4= .ptr 2 0->aj tm 5= .ptr 3 0->eX [.cell 4 2 true,.cell 5 2 true] (D P L (av (av mc.body)) ⟨tm,[(3,.cells true true true 2 [.int .i64 0,.ae]),(2,.cells true true true 2 [.int .i64 0,.ae]),(1,.cells true true true 2 [aa s2,w2]),(0,.cells true true true 2 [aa s1,w1])],4,0⟩)=some (.au [q,r]):=by
 obtain ⟨l1,u1⟩:=ha.aB;obtain ⟨l2,u2⟩:=hb.aB;obtain ⟨p,e1,hp⟩:=ru h ha;obtain ⟨q,e2,hq⟩:=ru h hb;have bX:ck (.agg [aa s2,w2]) b:=⟨s2,w2,rfl,hb⟩;obtain ⟨lp,iH,_⟩:=hp.aB;obtain ⟨lq,nZ,_⟩:=hq.aB;have Bo:=yu ka (At K);have E7:=yu kb (At K);obtain ⟨dq,dr,e3,C2,ik⟩:=aca h.toWd hp hq (by omega) Bo E7 (by omega);obtain ⟨JI,uq,_⟩:=C2.aB;obtain ⟨lr1,ur,_⟩:=ik.aB;have hqk:a.natAbs/b.natAbs<18446744073709551616^K:=we (wV _ _) Bo;have hrk:a.natAbs%b.natAbs<18446744073709551616^K:=we (ydh _ _) Bo;have hqb:a.natAbs/b.natAbs<2^K:=we (wV _ _) ka;have Uy:a.natAbs%b.natAbs<2^K:=we (ydh _ _) ka;obtain ⟨f1,f2⟩:=aiB (a:=a) dH rfl rfl;generalize a.natAbs/b.natAbs=Q at*
 generalize a.natAbs%b.natAbs=R at*
 obtain ⟨vq,e4,hvq⟩:=Cw h (decide (a<0)) C2 hqk (by omega);obtain ⟨vr,e5,Jv⟩:=Cw h (decide (a<0)) ik hrk (by omega);have Bp:Bd K (bT (decide (a<0)) Q):=by unfold Bd bT;split<;>omega
 have hsr:Bd K (bT (decide (a<0)) R):=by unfold Bd bT;split<;>omega
 generalize bT (decide (a<0)) R=Rs at*
 have e6:=Eo h Jv;have ach:=hvq;have aci:=Jv;obtain ⟨s3,w3,rfl,h3⟩:=hvq;obtain ⟨s4,w4,rfl,h4⟩:=Jv;obtain ⟨l3,u3⟩:=h3.aB;obtain ⟨l4,u4⟩:=h4.aB;by_cases h0:Rs<0
 ·obtain ⟨g1,g2⟩:=f1 h0;have mq:Bd (K+1) 1:=Bd.mono (k:=1) (by unfold Bd;decide) (by omega)
  obtain ⟨o1,o2⟩:=zo h (z:=1) (by decide) (by decide);obtain ⟨vq2,e7,SB⟩:=acf h ach o2 (K:=K+1) (Bp.mono (by omega)) mq (by omega);obtain ⟨vr2,e8,SC⟩:=IW h aci bX (K:=K+1) (hsr.mono (by omega)) (kb.mono (by omega)) (by omega);rw [<-g1] at SB;rw [<-g2] at SC;have mS:bQ Rs<0:=by unfold bQ;rw [yN h0];decide
  have k1:=SB;have k2:=SC;obtain ⟨s5,w5,rfl,h5⟩:=SB;obtain ⟨s6,w6,rfl,h6⟩:=SC;obtain ⟨l5,u5⟩:=h5.aB;obtain ⟨l6,u6⟩:=h6.aB;refine ⟨_,_,k1,k2,fun tm t2 t3 t4 t5=>?_⟩;simp only [go_sem,ya,yd,mc,av,t2,t3,t4,t5,QP,QQ,Qo,P2,QR,wM,aM,bR,bA,u1.ai,u2.ai,e1,e2,iH.ai,nZ.ai,e3,uq.ai,uq.bM,ur.ai,ur.bM,e4,e5,bc,de,df,bR,yo,da u3,da u4,u3.ai,u4.ai,e6,mS,o1,e7,e8,de,df,bR,yo,da u5,da u6,ZQ u5 u6]
 ·obtain ⟨g1,g2⟩:=f2 h0;have mS:¬bQ Rs<0:=by unfold bQ;rw [yB h0];split<;>decide
  refine ⟨_,_,by rw [g1];exact ach,by rw [g2];exact aci,fun tm t2 t3 t4 t5=>?_⟩
  simp only [go_sem,ya,yd,mc,av,t2,t3,t4,t5,QP,QQ,Qo,P2,QR,wM,aM,bR,bA,u1.ai,u2.ai,e1,e2,iH.ai,nZ.ai,e3,uq.ai,uq.bM,ur.ai,ur.bM,e4,e5,bc,de,df,bR,yo,da u3,da u4,u4.ai,e6,mS,ZQ u3 u4]
def SD (h:Nu P L) {v w:AV} {a b:Int} {K:Nat} (hv:ck v a) (hw:ck w b) (dH:0<b) (ka:Bd K a) (kb:Bd K b) (hK:K<=30000000000):∃q r,ah P L 164 [v,w] (.au [q,r])/\ck q (a/b)/\ck r (a%b):=by
 obtain ⟨s1,w1,rfl,h1⟩:=hv;obtain ⟨s2,w2,rfl,h2⟩:=hw;obtain ⟨l1,u1⟩:=h1.aB;obtain ⟨l2,u2⟩:=h2.aB;obtain ⟨q,r,hq,hr,tail⟩:=apZ h h1 h2 dH ka kb hK;have fin:∀tm,aj tm 2= .ptr 0 0->aj tm 3= .ptr 1 0->aj tm 4= .ptr 2 0->aj tm 5= .ptr 3 0->
   D P L (.seq (a7 mc.body) (a7 (av mc.body))) ⟨[(0,.agg [aa s1,w1]),(1,.agg [aa s2,w2])],[],0,0⟩=some (.normal,⟨tm,[(3,.cells true true true 2 [.int .i64 0,.ae]),(2,.cells true true true 2 [.int .i64 0,.ae]),(1,.cells true true true 2 [aa s2,w2]),(0,.cells true true true 2 [aa s1,w1])],4,0⟩)->ah P L 164 [.agg [aa s1,w1],.agg [aa s2,w2]] (.au [q,r]):=fun tm t2 t3 t4 t5 e=>by
  unfold ah;rw [aC h.Sy];show eX [.cell 4 2 true,.cell 5 2 true] (D P L (.seq (a7 mc.body) (.seq (a7 (av mc.body)) (av (av mc.body)))) ⟨[(0,.agg [aa s1,w1]),(1,.agg [aa s2,w2])],[],0,0⟩)=_
  rw [BI,e,fe];exact tail tm t2 t3 t4 t5
 rcases h1 with ⟨rfl,rfl,a1,a2⟩ | ⟨e,l,rfl,ga,na,va,sa,a1⟩
 ·rcases h2 with ⟨rfl,rfl,b1,b2⟩ | ⟨e,l,rfl,gb,nb,vb,sb,b1⟩
  ·by_cases hm:s1= -9223372036854775808
   ·refine ⟨q,r,fin _ ?_ ?_ ?_ ?_ (by simp only [go_sem,ya,yd,a7,av,mc,aM,gl,dP,bl,yf,cC,hm]<;>rfl),hq,hr⟩<;>simp only [go_sem,ya]
   ·obtain ⟨f1,f2⟩:=ain (a:=s1) dH;have bH:s1.tdiv s2=0\/(s1.tdiv s2).natAbs<=s1.natAbs:= .inr (Int.natAbs_tdiv_le_natAbs s1 s2);have cg:=Int.tmod_lt_of_pos s1 dH;have fp:=Int.lt_tmod_of_pos s1 dH;by_cases h0:s1.tmod s2<0
    ·obtain ⟨g1,g2⟩:=f1 h0;rw [g1,g2];refine ⟨.agg [aa (s1.tdiv s2-1),.ae],.agg [aa (s1.tmod s2+s2),.ae],?_,cS.oe (by omega) (by omega),cS.oe (by omega) (by omega)⟩;unfold ah;rw [aC h.Sy]
     simp only [go_sem,ya,yd,mc,aM,qR,gl,dP,bl,yf,cC,hm,eS _ _ _ (show s2≠0 by omega),fD _ _ _ (show s2≠0 by omega),h0,wrap64 (n:=s1.tdiv s2) (by omega) (by omega),wrap64 (n:=s1.tdiv s2-1) (by omega) (by omega),wrap64 (n:=s1.tmod s2+s2) (by omega) (by omega),qK];rfl
    ·obtain ⟨g1,g2⟩:=f2 h0;rw [g1,g2];refine ⟨.agg [aa (s1.tdiv s2),.ae],.agg [aa (s1.tmod s2),.ae],?_,cS.oe (by omega) (by omega),cS.oe (by omega) (by omega)⟩;unfold ah;rw [aC h.Sy]
     simp only [go_sem,ya,yd,mc,aM,qR,gl,dP,bl,yf,cC,hm,eS _ _ _ (show s2≠0 by omega),fD _ _ _ (show s2≠0 by omega),h0,wrap64 (n:=s1.tdiv s2) (by omega) (by omega),qK];rfl
  ·refine ⟨q,r,fin _ ?_ ?_ ?_ ?_ (by simp only [go_sem,ya,yd,a7,av,mc,aM,gl,nv,dP,bl,yf,cC]<;>rfl),hq,hr⟩<;>simp only [go_sem,ya]
 ·refine ⟨q,r,fin _ ?_ ?_ ?_ ?_ (by simp only [go_sem,ya,yd,a7,av,mc,aM,u2.pu,u2.one,nv,dP,bl,yf,cC]<;>rfl),hq,hr⟩<;>simp only [go_sem,ya]
def acj (h:Nu P L) {v w:AV} {a b:Int} {K:Nat} (hv:ck v a) (hw:ck w b) (dH:0<b) (ka:Bd K a) (kb:Bd K b) (hK:K<=30000000000):∃r,ah P L 148 [v,w] r/\ck r (a/b):=by
 have e1:=Eo h hw;obtain ⟨q,r,e2,hq,hr⟩:=SD h hv hw dH ka kb hK;have e3:bQ b=1:=by unfold bQ;rw [yB (by omega),yB (by omega)]
 rw [e3] at e1;have bH:=hq;obtain ⟨s1,w1,rfl,h1⟩:=hv;obtain ⟨s2,w2,rfl,h2⟩:=hw;obtain ⟨s3,w3,rfl,h3⟩:=hq;obtain ⟨s4,w4,rfl,h4⟩:=hr;obtain ⟨l1,u1⟩:=h1.aB;obtain ⟨l2,u2⟩:=h2.aB;obtain ⟨l3,u3⟩:=h3.aB;obtain ⟨l4,u4⟩:=h4.aB;refine ⟨_,?_,bH⟩;unfold ah;rw [aC h.ats];simp only [go_sem,ya,yd,R3,ycK,yE,aM,u1.pu,u1.ai,u1.one,u2.pu,u2.ai,u2.one,yf,bA,e1,e2,su,de,df,bR,yo,lY u3,da u3,da u4]
def ap0 (h:Nu P L) (G:Nat) {K:Nat} (hK:K<=30000000000) {o1 o2:AV}:
  ∀k s,(∃(x y:Nat) (s1 s2:Int) (w1 w2:AV),aT [2,3,4] s=⟨[(2,.ptr 0 0),(3,.ptr 1 0),(4,.ptr 2 0)],[(2,.cells true true true 2 [o1,o2]),(1,.cells true true true 2 [aa s2,w2]),(0,.cells true true true 2 [aa s1,w1])],3,0⟩/\cS s1 w1 x/\cS s2 w2 y/\Bd K x/\Bd K y/\Nat.gcd x y=G/\y=k)->
   ∃ex s',D P L (.loop [2,3,4] Hj) s=some (ex,s')/\∃tm s1 w1 c1,s'=⟨tm,[(2,.cells true true true 2 [o1,o2]),(1,c1),(0,.cells true true true 2 [aa s1,w1])],3,0⟩/\ex= .exit 0/\aj tm 2= .ptr 0 0/\aj tm 4= .ptr 2 0/\cS s1 w1 G:=by
 intro dq sq;generalize bt:aT [2,3,4] sq=s0;revert bt s0 sq dq;apply dU;rintro k s ⟨x,y,s1,s2,w1,w2,rfl,h1,h2,k1,k2,hG,rfl⟩;obtain ⟨l1,u1⟩:=h1.aB;obtain ⟨l2,u2⟩:=h2.aB;have i1:ck (.agg [aa s1,w1]) (x:Int):=⟨s1,w1,rfl,h1⟩;have i2:ck (.agg [aa s2,w2]) (y:Int):=⟨s2,w2,rfl,h2⟩;have e1:=Eo h i2;by_cases iL:y=0
 ·right
  subst iL;rw [show bQ ((0:Nat):Int)=0 from rfl] at e1;simp only [go_sem,ya,Hj,yx,yT,bR,bA,u2.ai,e1];obtain rfl:x=G:=by rw [<-hG,Nat.gcd_zero_right]
  exact ⟨_,_,rfl,by simp,_,s1,w1,_,rfl,rfl,by simp only [go_sem,ya],by simp only [go_sem,ya],h1⟩
 ·left
  have e3:bQ (y:Int)=1:=by unfold bQ;rw [yB (by omega),yB (by omega)]
  rw [e3] at e1;obtain ⟨q,r,e2,hq,hr⟩:=SD h i1 i2 (by omega) k1 k2 hK;obtain ⟨s3,w3,rfl,h3⟩:=hq;obtain ⟨s4,w4,rfl,h4⟩:=hr;obtain ⟨l3,u3⟩:=h3.aB;obtain ⟨l4,u4⟩:=h4.aB;have aR:=xE x (show 0<y by omega);have kr:Bd K ((x%y:Nat):Int):=k2.le (by omega);simp only [go_sem,ya,yd,Hj,QP,QQ,Qo,P2,QR,wM,vM,yE,yU,aM,bR,bA,u1.ai,u2.ai,e1,e2,su,bR,yo,da u2,da u3,da u4];refine ⟨_,x%y,rfl,aR,y,x%y,s2,s4,w2,w4,?_,h2,h4,k2,kr,by rw [<-hG];exact akI x y iL,rfl⟩
  simp only [go_sem,ya,yd,az]
def ack (h:Nu P L) {v w:AV} {a b:Int} {K:Nat} (hv:ck v a) (hw:ck w b) (ka:Bd K a) (kb:Bd K b) (hK:K<=30000000000):∃r,ah P L 130 [v,w] r/\ck r (wT a b:Nat):=by
 obtain ⟨va,e1,ha⟩:=SA h hv ka (by omega);obtain ⟨vb,e2,hb⟩:=SA h hw kb (by omega);obtain ⟨s1,w1,rfl,h1⟩:=hv;obtain ⟨s2,w2,rfl,h2⟩:=hw;obtain ⟨s3,w3,rfl,h3⟩:=ha;obtain ⟨s4,w4,rfl,h4⟩:=hb;obtain ⟨l1,u1⟩:=h1.aB;obtain ⟨l2,u2⟩:=h2.aB;obtain ⟨l3,u3⟩:=h3.aB;obtain ⟨l4,u4⟩:=h4.aB;have iY:∃s w,ah P L 130 [.agg [aa s1,w1],.agg [aa s2,w2]] (.agg [aa s,w])/\cS s w (wT a b:Nat):=by
  unfold ah;rw [aC h.att];simp only [go_sem,ya,yd,R1,aM,u1.pu,u1.ai,u1.one,u2.pu,u2.ai,u2.one,bR,bA,e1,e2,bc,bR,yo,da u3,da u4,yf];generalize hq:D P L (.loop [2,3,4] Hj) _=q;obtain ⟨ex,s,rfl,tm,s5,w5,c1,rfl,rfl,t2,t4,h5⟩:=b9 hq (ap0 (P:=P) (L:=L) h (wT a b) (K:=K) hK (o1:= .int .i64 0) (o2:= .ae) b.natAbs) ⟨a.natAbs,b.natAbs,s3,s4,w3,w4,by simp only [go_sem,ya,yd,az],h3,h4,ka,kb,rfl,rfl⟩;obtain ⟨l5,u5⟩:=h5.aB;refine ⟨s5,w5,?_,h5⟩;simp only [go_sem,ya,yd,az,t2,t4,de,df,bR,yo,lY u5,da u5]
 obtain ⟨s,w,e,hn⟩:=iY;exact ⟨_,e,s,w,rfl,hn⟩
end
def bO (v:AV) (r:Rat):Prop:=∃s1 w1 s2 w2,v= .agg [aa s1,w1,aa s2,w2]/\cS s1 w1 r.num/\cS s2 w2 (r.den:Int)
def Hq (k:Nat) (r:Rat):Prop:=Bd k r.num/\Bd k (r.den:Int)
def Gn {a b:Int} (hb:0<b):(wi a b).num=a/(wT a b:Nat)/\((wi a b).den:Int)=b/(wT a b:Nat):=by
 constructor
 ·rw [ycl,Int.sign_eq_one_of_pos hb,Int.one_mul,ycL]
 ·rw [ycm,yB (by omega),ycL]
  grind
def Hq.divInt {k:Nat} {a b:Int} (hb:0<b) (ka:Bd k a) (kb:Bd k b):Hq k (wi a b):=by
 obtain ⟨h1,h2⟩:=Gn (a:=a) hb;refine ⟨ka.le ?_,kb.le ?_⟩
 ·rw [h1,uJ (Int.gcd_dvd_left a b)];exact wV _ _
 ·rw [h2,uJ (Int.gcd_dvd_right a b)];exact wV _ _
section
def Ah {tm:Env} {a b x y z w:AV} {r:List (Nat×Nat×X)} (h1:bn a=true) (h2:bn b=true):jm tm [x,y,z,w] 0 2 [a,b] r=fill tm [a,b,z,w] r:=by
 rw [ni (by rfl) (by simp) (by simp [bL,h1,h2])];rfl
def Ai {tm:Env} {a b x y z w:AV} {r:List (Nat×Nat×X)} (h1:bn a=true) (h2:bn b=true):jm tm [x,y,z,w] 2 2 [a,b] r=fill tm [x,y,a,b] r:=by
 rw [ni (by rfl) (by simp) (by simp [bL,h1,h2])];rfl
def jn {s t:Int} {v w:AV} {l m:List Nat} (hv:bB v l) (hw:bB w m) (hp:Hp) (ct id:Nat) (a b x y:AV):ij hp ct id 0 4 [.int .i64 s,v,.int .i64 t,w] (some (.cells true true true 4 [a,b,x,y]))=some (.au [],aU hp id (.cells true true true 4 [.int .i64 s,v,.int .i64 t,w]),ct):=by
 rw [sY (by rfl) (by simp) (by simp [bL,hv.one,hw.one,G2])];simp [aD,hv.pu,hw.pu,over,DP]
def jB {s t:Int} {v w:AV} {l m:List Nat} (hv:bB v l) (hw:bB w m) (hp:Hp):result hp (.agg [aa s,v,aa t,w])=some (.agg [aa s,v,aa t,w]):=by
 rcases hv with ⟨rfl,_⟩ | ⟨e,rfl⟩<;>rcases hw with ⟨rfl,_⟩ | ⟨e',rfl⟩<;>rfl
variable {P:aF} {L:Lib}
structure Fr' (P:aF) (L:Lib):Prop extends Nu P L where
 atu:Has P L 101 mM
 Uz:Has P L 69 TQ
 atv:Has P L 111 R0
 h98:Has P L 98 N6
 atw:Has P L 108 RZ
 atx:Has P L 102 RY
 h74:Has P L 74 Jp
 UA:Has P L 50 TM
 n5:Has P L 49 c49
 h73:Has P L 73 TU
 h70:Has P L 70 TR
 h71:Has P L 71 TS
 aty:Has P L 149 R4
def ZR (h:Fr' P L) {s1 s2:Int} {w1 w2:AV} {a b:Int} {K:Nat} (h1:cS s1 w1 a) (h2:cS s2 w2 b) (dH:0<b) (ka:Bd K a) (kb:Bd K b) (hK:K<=30000000000):
  ∃r,bO r (wi a b)/\∀tm,aj tm 2= .ptr 0 0->aj tm 3= .ptr 1 0->aj tm 4= .ptr 2 0->eX [.cell 4 4 true] (D P L (av (av mM.body)) ⟨tm,[(2,.cells true true true 4 [.int .i64 0,.ae,.int .i64 0,.ae]),(1,.cells true true true 2 [aa s2,w2]),(0,.cells true true true 2 [aa s1,w1])],3,0⟩)=some r:=by
 have hv:ck (.agg [aa s1,w1]) a:=⟨s1,w1,rfl,h1⟩;have hw:ck (.agg [aa s2,w2]) b:=⟨s2,w2,rfl,h2⟩;obtain ⟨p1,p2⟩:=Gn (a:=a) dH;have hgp:=G3 (a:=a) dH;have hgk:Bd K ((wT a b:Nat):Int):=kb.le (by
  have:=Int.gcd_le_natAbs_right a (show b≠0 by omega)
  omega)
 obtain ⟨g,e2,hg⟩:=ack h.toNu hv hw ka kb hK;obtain ⟨q1,e4,eQ⟩:=acj h.toNu hv hg hgp ka hgk hK;obtain ⟨q2,e5,E4⟩:=acj h.toNu hw hg hgp kb hgk hK;rw [<-p1] at eQ;rw [<-p2] at E4;obtain ⟨s3,w3,rfl,h3⟩:=hg;obtain ⟨s4,w4,rfl,h4⟩:=eQ;obtain ⟨s5,w5,rfl,h5⟩:=E4;obtain ⟨l1,u1⟩:=h1.aB;obtain ⟨l2,u2⟩:=h2.aB;obtain ⟨l3,u3⟩:=h3.aB;obtain ⟨l4,u4⟩:=h4.aB;obtain ⟨l5,u5⟩:=h5.aB;by_cases eV:w2= .ae/\s2=1
 ·obtain ⟨rfl,rfl⟩:=eV;have mq:b=1:=by
   rcases h2 with ⟨_,h,_⟩ | ⟨_,_,h,_⟩
   ·exact h.symm
   ·cases h
  subst mq;rw [Int.gcd_one] at p1 p2;have p1:(wi a 1).num=a:=by rw [p1];exact Int.ediv_one a
  refine ⟨.agg [aa s1,w1,aa 1,.ae],⟨s1,w1,1,.ae,rfl,by rw [p1];exact h1,by rw [p2];exact h2⟩,fun tm t2 t3 t4=>?_⟩
  have un:=pE;simp only [go_sem,ya,mM,av,t2,t3,t4,u1.one,bR,bl,yf,cC,gl,dP,Ah,Ai,jn u1 un,de,df,yo,dC,jB u1 un]
 ·refine ⟨.agg [aa s4,w4,aa s5,w5],⟨s4,w4,s5,w5,rfl,h4,h5⟩,fun tm t2 t3 t4=>?_⟩;rcases u2 with ⟨rfl,_⟩ | ⟨e,rfl⟩
  ·simp only [go_sem,ya,yd,mM,av,t2,t3,t4,aM,u1.ai,bR,bA,bl,yf,cC,gl,dP,show ¬s2=1 from fun e=>eV ⟨rfl,e⟩,e2,e4,e5,bc,de,df,bR,yo,da u3,u3.ai,u4.one,u5.one,Ah,Ai,jn u4 u5,dC,jB u4 u5]
  ·simp only [go_sem,ya,yd,mM,av,t2,t3,t4,aM,u1.ai,bR,bA,bl,yf,cC,nv,dP,e2,e4,e5,bc,de,df,bR,yo,da u3,u3.ai,u4.one,u5.one,Ah,Ai,jn u4 u5,dC,jB u4 u5]
def Nj (h:Fr' P L) {v w:AV} {a b:Int} {K:Nat} (hv:ck v a) (hw:ck w b) (dH:b≠0) (ka:Bd K a) (kb:Bd K b) (hK:K<=30000000000):∃r,ah P L 101 [v,w] r/\bO r (wi a b):=by
 have e1:=Eo h.toNu hw;have dX:=hv;have UB:=hw;obtain ⟨s1,w1,rfl,h1⟩:=hv;obtain ⟨s2,w2,rfl,h2⟩:=hw;obtain ⟨l1,u1⟩:=h1.aB;obtain ⟨l2,u2⟩:=h2.aB;have fin:∀r t1 t2 v1 v2 tm,(∀tm,aj tm 2= .ptr 0 0->aj tm 3= .ptr 1 0->aj tm 4= .ptr 2 0->eX [.cell 4 4 true] (D P L (av (av mM.body)) ⟨tm,[(2,.cells true true true 4 [.int .i64 0,.ae,.int .i64 0,.ae]),(1,.cells true true true 2 [aa t2,v2]),(0,.cells true true true 2 [aa t1,v1])],3,0⟩)=some r)->aj tm 2= .ptr 0 0->aj tm 3= .ptr 1 0->aj tm 4= .ptr 2 0->
   D P L (.seq (a7 mM.body) (a7 (av mM.body))) ⟨[(0,.agg [aa s1,w1]),(1,.agg [aa s2,w2])],[],0,0⟩=some (.normal,⟨tm,[(2,.cells true true true 4 [.int .i64 0,.ae,.int .i64 0,.ae]),(1,.cells true true true 2 [aa t2,v2]),(0,.cells true true true 2 [aa t1,v1])],3,0⟩)->ah P L 101 [.agg [aa s1,w1],.agg [aa s2,w2]] r:=fun r t1 t2 v1 v2 tm tail k2 k3 k4 e=>by
  unfold ah;rw [aC h.atu];show eX [.cell 4 4 true] (D P L (.seq (a7 mM.body) (.seq (a7 (av mM.body)) (av (av mM.body)))) ⟨[(0,.agg [aa s1,w1]),(1,.agg [aa s2,w2])],[],0,0⟩)=_
  rw [BI,e,fe];exact tail tm k2 k3 k4
 by_cases hn:b<0
 ·obtain ⟨n1,e2,fa⟩:=Ep h.toNu dX ka (by omega);obtain ⟨n2,e3,dd⟩:=Ep h.toNu UB kb (by omega);obtain ⟨s3,w3,rfl,h3⟩:=fa;obtain ⟨s4,w4,rfl,h4⟩:=dd;obtain ⟨l3,u3⟩:=h3.aB;obtain ⟨l4,u4⟩:=h4.aB;obtain ⟨r,hr,tail⟩:=ZR h h3 h4 (by omega) ka.neg kb.neg hK;rw [Rat.neg_divInt_neg] at hr;have hs:bQ b<0:=by unfold bQ;rw [yN hn];decide
  refine ⟨r,fin r _ _ _ _ _ tail ?_ ?_ ?_ (by simp only [go_sem,ya,yd,mM,a7,av,hs,aM,u1.pu,u1.ai,u1.one,u2.pu,u2.ai,u2.one,bR,bA,e1,e2,e3,bc,da u3,da u4]<;>rfl),hr⟩<;>simp only [go_sem,ya]
 ·obtain ⟨r,hr,tail⟩:=ZR h h1 h2 (by omega) ka kb hK;have hs:¬bQ b<0:=by unfold bQ;rw [yB hn];split<;>decide
  refine ⟨r,fin r _ _ _ _ _ tail ?_ ?_ ?_ (by simp only [go_sem,ya,yd,mM,a7,av,hs,aM,u1.pu,u1.one,u2.pu,u2.ai,u2.one,bR,bA,e1]<;>rfl),hr⟩<;>simp only [go_sem,ya]
end
def Hq.mono {k m:Nat} {r:Rat} (h:Hq k r) (hk:k<=m):Hq m r:=⟨h.1.mono hk,h.2.mono hk⟩
def Hq.neg {k:Nat} {r:Rat} (h:Hq k r):Hq k (-r):=⟨h.1.neg,h.2⟩
def add_eq (a b:Rat):a+b=wi (a.num*b.den+b.num*a.den) ((a.den:Int)*b.den):=by
 rw [Rat.add_def',<-ybQ,wN]
def mul_eq (a b:Rat):a*b=wi (a.num*b.num) ((a.den:Int)*b.den):=by
 rw [Rat.mul_def',<-ybQ,wN]
def KZ (a:Rat):0<(a.den:Int):=by have:=a.den_pos;omega
def De (a b:Rat):0<(a.den:Int)*b.den:=Int.mul_pos (KZ a) (KZ b)
def Bd.SE {k:Nat} {a b:Int} (ha:Bd k a) (hb:Bd k b):Bd (k+1) (a+b):=by
 have:=ha.add hb
 grind
def Hq.add {k m:Nat} {a b:Rat} (ha:Hq k a) (hb:Hq m b):Hq (k+m+1) (a+b):=by
 rw [add_eq];refine Hq.divInt (De a b) ?_ ((ha.2.mul hb.2).mono (by omega));exact (ha.1.mul hb.2).SE ((hb.1.mul ha.2).mono (by omega))
def Hq.mul {k m:Nat} {a b:Rat} (ha:Hq k a) (hb:Hq m b):Hq (k+m) (a*b):=by
 rw [mul_eq];exact Hq.divInt (De a b) (ha.1.mul hb.1) (ha.2.mul hb.2)
def Hq.sub {k m:Nat} {a b:Rat} (ha:Hq k a) (hb:Hq m b):Hq (k+m+1) (a-b):=by
 rw [yaj];exact ha.add hb.neg
def Hq.inv {k:Nat} {a:Rat} (ha:Hq k a):Hq k a⁻¹:=by
 have h1:(a⁻¹).num.natAbs<=a.den:=by
  rw [Rat.num_inv,yck]
  grind
 refine ⟨ha.2.le (by simpa using h1),?_⟩;unfold Bd;rw [Rat.den_inv]
 split
 ·have h2:=ha.2;unfold Bd at h2
  simp_all
 ·exact ha.1
def Hq.div {k m:Nat} {a b:Rat} (ha:Hq k a) (hb:Hq m b):Hq (k+m) (a/b):=by
 rw [Rat.div_def];exact ha.mul hb.inv
def oL (a b:Rat):Int:=if a<b then -1 else if a=b then 0 else 1
def anm (a b:Rat):bQ (a.num*b.den-b.num*a.den)=oL a b:=by
 unfold bQ oL;by_cases h:a<b
 ·rw [yN h]
  have:=(ydi a b).1 h
  grind
 ·rw [yB h];have h1:¬a.num*b.den<b.num*a.den:=fun e=>h ((ydi a b).2 e)
  rw [yB (by omega)];by_cases h2:a=b
  ·grind
  ·rw [yB h2,yB (by have:¬a.num*b.den=b.num*a.den:=fun e=>h2 (Rat.eq_iff_mul_eq_mul.2 e);omega)]
def Lr (a:Rat) (h:a.den=1):a=(a.num:Rat):=by
 have:=Rat.num_divInt_den a
 rw [h] at this;rw [<-this];exact (Rat.ext (by simp [ycl]) (by simp [ycm]))
def qY (a b c d:AV) (r:List AV):fV 2 true (vL 2 (a::b::c::d::r))=some (.agg [c,d]):=rfl
def nB (a b:AV) (r:List AV):fV 2 true (a::b::r)=some (.agg [a,b]):=rfl
section
variable {P:aF} {L:Lib}
def Er (h:Fr' P L) {v:AV} {z:Int} (hv:ck v z):∃r,ah P L 111 [v] r/\bO r (z:Rat):=by
 obtain ⟨o1,o2⟩:=zo h.toNu (z:=1) (by decide) (by decide);obtain ⟨s1,w1,rfl,h1⟩:=hv;obtain ⟨l1,u1⟩:=h1.aB;have un:=pE;refine ⟨.agg [aa s1,w1,aa 1,.ae],?_,s1,w1,1,.ae,rfl,h1,.inl ⟨rfl,rfl,(by show (-9223372036854775808:Int)<=1;decide),(by show (1:Int)<9223372036854775808;decide)⟩⟩
 unfold ah;rw [aC h.atv];simp only [go_sem,ya,yd,R0,aM,u1.pu,u1.one,bR,o1,bc,Ah,Ai,jn u1 un,de,df,yo,dC,jB u1 un]
def E8 (h:Fr' P L) {z:Int} (h1: -9223372036854775808<=z) (h2:z<9223372036854775808):∃r,ah P L 69 [aa z] r/\bO r (z:Rat):=by
 obtain ⟨o1,o2⟩:=zo h.toNu h1 h2;obtain ⟨r,e,hr⟩:=Er h o2;have bC:=hr;obtain ⟨s1,w1,s2,w2,rfl,k1,k2⟩:=hr;obtain ⟨l1,u1⟩:=k1.aB;obtain ⟨l2,u2⟩:=k2.aB;refine ⟨_,?_,bC⟩;unfold ah;rw [aC h.Uz];simp only [go_sem,ya,yd,TQ,aM,bA,o1,e,bc,jn u1 u2,de,df,yo,dC,jB u1 u2]
def UC (h:Fr' P L) {v:AV} {a:Rat} (hv:bO v a):ah P L 98 [v] (.bool (decide (a.den=1))):=by
 obtain ⟨s1,w1,s2,w2,rfl,h1,h2⟩:=hv;obtain ⟨l1,u1⟩:=h1.aB;unfold ah;rw [aC h.h98];rcases h2 with ⟨rfl,rfl,b1,b2⟩ | ⟨e,l,rfl,gb,nb,vb,sb,b1⟩
 ·have e:decide (((a.den:Nat):Int)=1)=decide (a.den=1):=by simp;omega
  simp only [go_sem,ya,yd,N6,aM,u1.pu,u1.one,bl,yf,arM,aaV,gl,dP,e]
 ·have e:decide (a.den=1)=false:=yY (by omega);rw [e];simp only [go_sem,ya,yd,N6,aM,u1.pu,u1.one,bl,yf,aaV,nv,dP]
def acm (h:Fr' P L) {v:AV} {a:Rat} (hv:bO v a):ah P L 108 [v] (aa (bQ a.num)):=by
 obtain ⟨s1,w1,s2,w2,rfl,h1,h2⟩:=hv;obtain ⟨l1,u1⟩:=h1.aB;obtain ⟨l2,u2⟩:=h2.aB;have e1:=Eo h.toNu ⟨s1,w1,rfl,h1⟩;unfold ah;rw [aC h.atw];simp only [go_sem,ya,yd,RZ,aM,u1.pu,u1.ai,u1.one,u2.pu,u2.one,bl,yf,nB,bA,e1]
def atz (h:Fr' P L) {v:AV} {a:Rat} {K:Nat} (hv:bO v a) (ka:Hq K a) (hK:K<=30000000000):∃r,ah P L 102 [v] r/\bO r (-a):=by
 obtain ⟨s1,w1,s2,w2,rfl,h1,h2⟩:=hv;obtain ⟨l1,u1⟩:=h1.aB;obtain ⟨l2,u2⟩:=h2.aB;obtain ⟨n,e1,hn⟩:=Ep h.toNu ⟨s1,w1,rfl,h1⟩ ka.1 (by omega);obtain ⟨s3,w3,rfl,h3⟩:=hn;obtain ⟨l3,u3⟩:=h3.aB;refine ⟨.agg [aa s3,w3,aa s2,w2],?_,s3,w3,s2,w2,rfl,h3,h2⟩;unfold ah;rw [aC h.atx];simp only [go_sem,ya,yd,RY,aM,u1.pu,u1.ai,u1.one,u2.pu,u2.one,u3.one,bl,yf,nB,qY,bA,e1,bc,Ah,Ai,jn u3 u2,de,df,yo,dC,jB u3 u2]
def m74 (h:Fr' P L) {v w:AV} {a b:Rat} {K:Nat} (hv:bO v a) (hw:bO w b) (ka:Hq K a) (kb:Hq K b) (hK:K<=10000000000):∃r,ah P L 74 [v,w] r/\bO r (a+b):=by
 have i1:=UC h hv;have i2:=UC h hw;obtain ⟨s1,w1,s2,w2,rfl,h1,h2⟩:=hv;obtain ⟨s3,w3,s4,w4,rfl,h3,h4⟩:=hw;obtain ⟨l1,u1⟩:=h1.aB;obtain ⟨l2,u2⟩:=h2.aB;obtain ⟨l3,u3⟩:=h3.aB;obtain ⟨l4,u4⟩:=h4.aB;have n1:ck (.agg [aa s1,w1]) a.num:=⟨s1,w1,rfl,h1⟩;have n2:ck (.agg [aa s2,w2]) a.den:=⟨s2,w2,rfl,h2⟩;have n3:ck (.agg [aa s3,w3]) b.num:=⟨s3,w3,rfl,h3⟩;have n4:ck (.agg [aa s4,w4]) b.den:=⟨s4,w4,rfl,h4⟩;by_cases rZ:a.den=1/\b.den=1
 ·obtain ⟨d1,d2⟩:=rZ;obtain ⟨p,e1,hp⟩:=IW h.toNu n1 n3 ka.1 kb.1 (by omega);obtain ⟨r,e2,hr⟩:=Er h hp;have he:((a.num+b.num:Int):Rat)=a+b:=by
   rw [Rat.intCast_add,<-Lr a d1,<-Lr b d2]
  rw [he] at hr;have bC:=hr;obtain ⟨s5,w5,rfl,h5⟩:=hp;obtain ⟨s6,w6,s7,w7,rfl,h6,h7⟩:=hr;obtain ⟨l5,u5⟩:=h5.aB;obtain ⟨l6,u6⟩:=h6.aB;obtain ⟨l7,u7⟩:=h7.aB;refine ⟨_,?_,bC⟩;rw [d1] at i1;rw [d2] at i2;unfold ah;rw [aC h.h74];simp only [go_sem,ya,yd,Jp,aM,u1.pu,u1.ai,u1.one,u2.pu,u2.ai,u2.one,u3.pu,u3.ai,u3.one,u4.pu,u4.ai,u4.one,bl,yf,dC,nB,bA,i1,i2,e1,u5.ai,e2,bc,jn u6 u7,de,df,yo,dC,jB u6 u7]
 ·obtain ⟨p1,e1,bh⟩:=rz h.toNu n1 n4 ka.1 kb.2 (by omega);obtain ⟨p2,e2,js⟩:=rz h.toNu n3 n2 kb.1 ka.2 (by omega);obtain ⟨p3,e3,hp3⟩:=IW h.toNu bh js (ka.1.mul kb.2) (kb.1.mul ka.2) (by omega);obtain ⟨p4,e4,hp4⟩:=rz h.toNu n2 n4 ka.2 kb.2 (by omega);obtain ⟨r,e5,hr⟩:=Nj h hp3 hp4 (by have:=De a b;omega) ((ka.1.mul kb.2).SE (kb.1.mul ka.2)) ((ka.2.mul kb.2).mono (by omega)) (by omega);rw [<-add_eq] at hr;have bC:=hr;obtain ⟨s5,w5,rfl,h5⟩:=bh;obtain ⟨s6,w6,rfl,h6⟩:=js;obtain ⟨s7,w7,rfl,h7⟩:=hp3;obtain ⟨s8,w8,rfl,h8⟩:=hp4;obtain ⟨s9,w9,s10,w10,rfl,h9,iJ⟩:=hr;obtain ⟨l5,u5⟩:=h5.aB;obtain ⟨l6,u6⟩:=h6.aB;obtain ⟨l7,u7⟩:=h7.aB;obtain ⟨l8,u8⟩:=h8.aB;obtain ⟨l9,u9⟩:=h9.aB;obtain ⟨l10,E9⟩:=iJ.aB;refine ⟨_,?_,bC⟩;unfold ah;rw [aC h.h74];by_cases d1:a.den=1
  ·rw [d1] at i1;rw [yY (fun d2=>rZ ⟨d1,d2⟩)] at i2;simp only [go_sem,ya,yd,Jp,aM,u1.pu,u1.ai,u1.one,u2.pu,u2.ai,u2.one,u3.pu,u3.ai,u3.one,u4.pu,u4.ai,u4.one,bl,yf,dC,nB,qY,bA,i1,i2,e1,e2,u5.ai,u6.ai,e3,e4,u7.ai,u8.ai,e5,bc,jn u9 E9,de,df,yo,dC,jB u9 E9]
  ·rw [yY d1] at i1;simp only [go_sem,ya,yd,Jp,aM,u1.pu,u1.ai,u1.one,u2.pu,u2.ai,u2.one,u3.pu,u3.ai,u3.one,u4.pu,u4.ai,u4.one,bl,yf,dC,nB,qY,bA,i1,e1,e2,u5.ai,u6.ai,e3,e4,u7.ai,u8.ai,e5,bc,jn u9 E9,de,df,yo,dC,jB u9 E9]
def JJ (h:Fr' P L) {v w:AV} {a b:Rat} {K:Nat} (hv:bO v a) (hw:bO w b) (ka:Hq K a) (kb:Hq K b) (hK:K<=10000000000):∃r,ah P L 50 [v,w] r/\bO r (a-b):=by
 obtain ⟨n,e1,hn⟩:=atz h hw kb (by omega);obtain ⟨r,e2,hr⟩:=m74 h hv hn ka kb.neg hK;rw [<-yaj] at hr;have bC:=hr;obtain ⟨s1,w1,s2,w2,rfl,h1,h2⟩:=hv;obtain ⟨s3,w3,s4,w4,rfl,h3,h4⟩:=hw;obtain ⟨s5,w5,s6,w6,rfl,h5,h6⟩:=hn;obtain ⟨s7,w7,s8,w8,rfl,h7,h8⟩:=hr;obtain ⟨l1,u1⟩:=h1.aB;obtain ⟨l2,u2⟩:=h2.aB;obtain ⟨l3,u3⟩:=h3.aB;obtain ⟨l4,u4⟩:=h4.aB;obtain ⟨l5,u5⟩:=h5.aB;obtain ⟨l6,u6⟩:=h6.aB;obtain ⟨l7,u7⟩:=h7.aB;obtain ⟨l8,u8⟩:=h8.aB;refine ⟨_,?_,bC⟩;unfold ah;rw [aC h.UA];simp only [go_sem,ya,yd,TM,aM,u1.pu,u1.ai,u1.one,u2.pu,u2.ai,u2.one,u3.pu,u3.ai,u3.one,u4.pu,u4.ai,u4.one,u5.ai,u6.ai,dC,bA,e1,e2,bc,jn u7 u8,de,df,yo,dC,jB u7 u8]
def zO (h:Fr' P L) {v w:AV} {a b:Rat} {K:Nat} (hv:bO v a) (hw:bO w b) (ka:Hq K a) (kb:Hq K b) (hK:K<=10000000000):∃r,ah P L 49 [v,w] r/\bO r (a*b):=by
 obtain ⟨s1,w1,s2,w2,rfl,h1,h2⟩:=hv;obtain ⟨s3,w3,s4,w4,rfl,h3,h4⟩:=hw;obtain ⟨l1,u1⟩:=h1.aB;obtain ⟨l2,u2⟩:=h2.aB;obtain ⟨l3,u3⟩:=h3.aB;obtain ⟨l4,u4⟩:=h4.aB;obtain ⟨p1,e1,bh⟩:=rz h.toNu (v:= .agg [aa s1,w1]) (w:= .agg [aa s3,w3]) ⟨s1,w1,rfl,h1⟩ ⟨s3,w3,rfl,h3⟩ ka.1 kb.1 (by omega);obtain ⟨p2,e2,js⟩:=rz h.toNu (v:= .agg [aa s2,w2]) (w:= .agg [aa s4,w4]) ⟨s2,w2,rfl,h2⟩ ⟨s4,w4,rfl,h4⟩ ka.2 kb.2 (by omega);obtain ⟨r,e3,hr⟩:=Nj h bh js (by have:=De a b;omega) (ka.1.mul kb.1) (ka.2.mul kb.2) (by omega);rw [<-mul_eq] at hr;have bC:=hr;obtain ⟨s5,w5,rfl,h5⟩:=bh;obtain ⟨s6,w6,rfl,h6⟩:=js;obtain ⟨s7,w7,s8,w8,rfl,h7,h8⟩:=hr;obtain ⟨l5,u5⟩:=h5.aB;obtain ⟨l6,u6⟩:=h6.aB;obtain ⟨l7,u7⟩:=h7.aB;obtain ⟨l8,u8⟩:=h8.aB;refine ⟨_,?_,bC⟩;unfold ah;rw [aC h.n5]
 simp only [go_sem,ya,yd,c49,aM,u1.pu,u1.ai,u1.one,u2.pu,u2.ai,u2.one,u3.pu,u3.ai,u3.one,u4.pu,u4.ai,u4.one,u5.ai,u6.ai,bl,yf,nB,qY,bA,e1,e2,e3,bc,jn u7 u8,de,df,yo,dC,jB u7 u8]
def m73 (h:Fr' P L) {v:AV} {a:Rat} {K:Nat} (hv:bO v a) (h0:a≠0) (ka:Hq K a) (hK:K<=10000000000):∃r,ah P L 73 [v] r/\bO r a⁻¹:=by
 obtain ⟨s1,w1,s2,w2,rfl,h1,h2⟩:=hv;obtain ⟨l1,u1⟩:=h1.aB;obtain ⟨l2,u2⟩:=h2.aB;obtain ⟨r,e1,hr⟩:=Nj h (v:= .agg [aa s2,w2]) (w:= .agg [aa s1,w1]) ⟨s2,w2,rfl,h2⟩ ⟨s1,w1,rfl,h1⟩ (fun e=>h0 (Rat.num_eq_zero.1 e)) ka.2 ka.1 (by omega);rw [<-Rat.inv_def] at hr;have bC:=hr;obtain ⟨s7,w7,s8,w8,rfl,h7,h8⟩:=hr;obtain ⟨l7,u7⟩:=h7.aB;obtain ⟨l8,u8⟩:=h8.aB;refine ⟨_,?_,bC⟩;unfold ah;rw [aC h.h73];simp only [go_sem,ya,yd,TU,aM,u1.pu,u1.ai,u1.one,u2.pu,u2.ai,u2.one,bl,yf,nB,qY,bA,e1,bc,jn u7 u8,de,df,yo,dC,jB u7 u8]
def m70 (h:Fr' P L) {v w:AV} {a b:Rat} {K:Nat} (hv:bO v a) (hw:bO w b) (h0:b≠0) (ka:Hq K a) (kb:Hq K b) (hK:K<=10000000000):∃r,ah P L 70 [v,w] r/\bO r (a/b):=by
 obtain ⟨n,e1,hn⟩:=m73 h hw h0 kb hK;obtain ⟨r,e2,hr⟩:=zO h hv hn ka kb.inv hK;have bC:=hr;obtain ⟨s1,w1,s2,w2,rfl,h1,h2⟩:=hv;obtain ⟨s3,w3,s4,w4,rfl,h3,h4⟩:=hw;obtain ⟨s5,w5,s6,w6,rfl,h5,h6⟩:=hn;obtain ⟨s7,w7,s8,w8,rfl,h7,h8⟩:=hr;obtain ⟨l1,u1⟩:=h1.aB;obtain ⟨l2,u2⟩:=h2.aB;obtain ⟨l3,u3⟩:=h3.aB;obtain ⟨l4,u4⟩:=h4.aB;obtain ⟨l5,u5⟩:=h5.aB;obtain ⟨l6,u6⟩:=h6.aB;obtain ⟨l7,u7⟩:=h7.aB;obtain ⟨l8,u8⟩:=h8.aB;refine ⟨_,?_,bC⟩;unfold ah;rw [aC h.h70];simp only [go_sem,ya,yd,TR,aM,u1.pu,u1.ai,u1.one,u2.pu,u2.ai,u2.one,u3.pu,u3.ai,u3.one,u4.pu,u4.ai,u4.one,u5.ai,u6.ai,dC,bA,e1,e2,bc,jn u7 u8,de,df,yo,dC,jB u7 u8]
def m71 (h:Fr' P L) {v w:AV} {a b:Rat} {K:Nat} (hv:bO v a) (hw:bO w b) (ka:Hq K a) (kb:Hq K b) (hK:K<=10000000000):ah P L 71 [v,w] (aa (oL a b)):=by
 obtain ⟨s1,w1,s2,w2,rfl,h1,h2⟩:=hv;obtain ⟨s3,w3,s4,w4,rfl,h3,h4⟩:=hw;obtain ⟨l1,u1⟩:=h1.aB;obtain ⟨l2,u2⟩:=h2.aB;obtain ⟨l3,u3⟩:=h3.aB;obtain ⟨l4,u4⟩:=h4.aB;obtain ⟨p1,e1,bh⟩:=rz h.toNu (v:= .agg [aa s1,w1]) (w:= .agg [aa s4,w4]) ⟨s1,w1,rfl,h1⟩ ⟨s4,w4,rfl,h4⟩ ka.1 kb.2 (by omega);obtain ⟨p2,e2,js⟩:=rz h.toNu (v:= .agg [aa s3,w3]) (w:= .agg [aa s2,w2]) ⟨s3,w3,rfl,h3⟩ ⟨s2,w2,rfl,h2⟩ kb.1 ka.2 (by omega);have e3:=acg h.toNu bh js (ka.1.mul kb.2) (kb.1.mul ka.2) (by omega);rw [anm] at e3;obtain ⟨s5,w5,rfl,h5⟩:=bh;obtain ⟨s6,w6,rfl,h6⟩:=js;obtain ⟨l5,u5⟩:=h5.aB;obtain ⟨l6,u6⟩:=h6.aB;unfold ah;rw [aC h.h71];simp only [go_sem,ya,yd,TS,aM,u1.pu,u1.ai,u1.one,u2.pu,u2.ai,u2.one,u3.pu,u3.ai,u3.one,u4.pu,u4.ai,u4.one,u5.ai,u6.ai,bl,yf,nB,qY,bA,e1,e2,e3,bc]
def SF (h:Fr' P L) {v:AV} {a:Rat} {K:Nat} (hv:bO v a) (ka:Hq K a) (hK:K<=10000000000):∃r,ah P L 149 [v] r/\ck r a.floor:=by
 obtain ⟨s1,w1,s2,w2,rfl,h1,h2⟩:=hv;obtain ⟨l1,u1⟩:=h1.aB;obtain ⟨l2,u2⟩:=h2.aB;obtain ⟨q,r,e1,hq,hr⟩:=SD h.toNu (v:= .agg [aa s1,w1]) (w:= .agg [aa s2,w2]) ⟨s1,w1,rfl,h1⟩ ⟨s2,w2,rfl,h2⟩ (KZ a) ka.1 ka.2 (by omega);rw [<-Rat.floor_def] at hq;have bH:=hq;obtain ⟨s3,w3,rfl,h3⟩:=hq;obtain ⟨s4,w4,rfl,h4⟩:=hr;obtain ⟨l3,u3⟩:=h3.aB;obtain ⟨l4,u4⟩:=h4.aB;refine ⟨_,?_,bH⟩;unfold ah;rw [aC h.aty];simp only [go_sem,ya,yd,R4,aM,u1.pu,u1.ai,u1.one,u2.pu,u2.ai,u2.one,bl,yf,nB,qY,bA,e1,su,de,df,yo,lY u3,da u3,da u4]
end
def qS:List AV->Option (List Nat)
 | []=>some []
 | .int .u64 (.ofNat d)::r=>bif yJ d 18446744073709551616 then (match qS r with | some l=>some (d::l) | none=>none) else none
 | _::_=>none
def rA:List Nat->Nat
 | []=>0
 | a::r=>a+18446744073709551616*rA r
def AG:List Nat->Bool
 | []=>false
 | [a]=> !yr a 0
 | _::r=>AG r
def Ls:List AV->Option AV
 | [.agg [.int .i64 s,.ae]]=>bif AD s then some (.str (aP s)) else none
 | [.agg [.int .i64 s,.aA _ n cs]]=>
  match qS cs with
  | some l=>
   bif yr l.length n&&(yF n 4000000000&&(AG l&&yF 9223372036854775808 (rA l))) then
    match s with
    | .ofNat 1=>some (.str (ap (rA l)))
    | .negSucc 0=>some (.str (45::ap (rA l)))
    | _=>none
   else none
  | none=>none
 | _=>none
def WG:∀{l:List Nat},lo 18446744073709551616 l->qS (l.map uc)=some l
 | [],_=>rfl
 | a::l,h=>by
  have h1:=h a (by simp);have h2:=WG (l:=l) (fun x hx=>h x (by simp [hx]));show (bif yJ a 18446744073709551616 then (match qS (l.map uc) with | some l=>some (a::l) | none=>none) else none)=_
  rw [jQ h1,h2];rfl
def Qp:∀l:List Nat,rA l=bv 18446744073709551616 l
 | []=>rfl
 | a::l=>by simp only [rA,bv,Qp l]
def Ym:∀{l:List Nat},l≠[]->gB l->AG l=true
 | [],h,_=>absurd rfl h
 | [a],_,h=>by
  have:a≠0:=fun e=>by
   subst e;have h:dJ [0]=[0]:=h;simp [dJ] at h
  simp [AG,bW this]
 | a::b::r,_,h=>by
  have h1:gB (b::r):=by
   have h:dJ (a::b::r)=a::b::r:=h;rw [dJ] at h
   grind
  have:=Ym (l:=b::r) (by simp) h1
  simpa [AG] using this
section
variable {P:aF} {L:Lib}
structure Tx (P:aF) (L:Lib):Prop extends Fr' P L where
 Fa:L.pure 99=some Ls
 acn:L.pure 175=some Hg
 aco:L.pure 152=some Kf
 SG:L.pure 153=some J5
 SH:L.pure 154=some HV
 SI:L.pure 109=some My
 pR:Has P L 155 Ee
 SJ:Has P L 172 Ip
 atA:Has P L 151 ML
 atB:Has P L 107 MF
 UD:Has P L 46 N1
 acp:Has P L 110 MG
 Ov:Has P L 62 N3
def UE (h:Tx P L) {v:AV} {z:Int} {K:Nat} (hv:ck v z) (hz:Bd K z) (hK:K<=4000000000):ah P L 99 [v] (.str (aP z)):=by
 obtain ⟨s,w,rfl,hn⟩:=hv;unfold ah;rw [ir h.Fa];rcases hn with ⟨rfl,rfl,h1,h2⟩ | ⟨e,l,rfl,g,n,hb,hs,h1⟩
 ·show (bif AD s then some (AV.str (aP s)) else none)=_
  have:AD s=true:=by
   cases s with
   | ofNat k=>exact jQ (by have:(Int.ofNat k)=(k:Int):=rfl;omega)
   | negSucc k=>exact jQ (by omega)
  grind
 ·have jt:l≠[]:=fun e=>by subst e;simp [bv] at hb;omega
  have rP:l.length<=4000000000:=xg (mN n hb (yu hz (At K))) hK
  show (match qS (l.map uc) with
   | some l'=>bif yr l'.length l.length&&(yF l.length 4000000000&&(AG l'&&yF 9223372036854775808 (rA l'))) then (match s with | .ofNat 1=>some (AV.str (ap (rA l'))) | .negSucc 0=>some (.str (45::ap (rA l'))) | _=>none) else none
   | none=>none)=_
  rw [WG g];simp only [xz,yv rP,Ym jt n,Qp,hb,yv h1,wM,yt];by_cases h0:z<0
  ·rw [yN h0] at hs;subst hs;rw [jJ h0];rfl
  ·rw [yB h0] at hs;subst hs;obtain ⟨m,rfl⟩:∃m:Nat,z=m:=⟨z.toNat,by omega⟩;rfl
def RT (r:Rat):List Nat:=aP r.num++(if r.den=1 then [] else 47::ap r.den)
def GG {z:Int} {k:Nat} (h:Bd k z):(aP z).length<=k+1:=by
 have h1:∀m:Nat,m<2^k->(ap m).length<=max k 1:=fun m hm=>by
  cases k with
  | zero=>
       have:m=0:=by simpa using hm
       subst this;decide
  | succ k=>
   rw [Nat.max_eq_left (by omega)];exact qH (k:=k) (yu hm (vn (by decide) _))
 by_cases h0:z<0
 ·rw [jJ h0];unfold Bd at h
  grind
 ·obtain ⟨m,rfl⟩:∃m:Nat,z=m:=⟨z.toNat,by omega⟩
  have:=h1 m (by unfold Bd at h;simpa using h)
  rw [j8];omega
def m46 (h:Tx P L) {v:AV} {a:Rat} {K:Nat} (hv:bO v a) (ka:Hq K a) (hK:K<=4000000000):ah P L 46 [v] (.str (RT a)):=by
 have i1:=UC h.toFr' hv;obtain ⟨s1,w1,s2,w2,rfl,h1,h2⟩:=hv;obtain ⟨l1,u1⟩:=h1.aB;obtain ⟨l2,u2⟩:=h2.aB;have e1:=UE h (v:= .agg [aa s1,w1]) ⟨s1,w1,rfl,h1⟩ ka.1 hK;have e2:=UE h (v:= .agg [aa s2,w2]) ⟨s2,w2,rfl,h2⟩ ka.2 hK;have b1:=GG ka.1;have b2:=GG ka.2;rw [j8] at e2 b2;unfold ah RT;rw [aC h.UD];by_cases hd:a.den=1
 ·rw [yN hd,xX];rw [hd] at i1;simp only [go_sem,ya,yd,N1,aM,u1.pu,u1.ai,u1.one,u2.pu,u2.ai,u2.one,dC,bA,i1,bl,yf,nB,e1]
 ·rw [yB hd];rw [yY hd] at i1;have hc:aP a.num++47::ap a.den=(aP a.num++[47])++ap a.den:=by simp
  rw [hc]
  simp only [go_sem,ya,yd,N1,aM,u1.pu,u1.ai,u1.one,u2.pu,u2.ai,u2.one,dC,bA,i1,bl,yf,nB,qY,e1,e2,gh (a:=aP a.num) (b:=[47]) (by simp;omega),gh (a:=aP a.num++[47]) (b:=ap a.den) (by simp;omega)]
end
def atD {n:Nat} (h:n<9223372036854775808):binOp .and (.int .i64 (n:Int)) (.int .i64 1)=some (.int .i64 ((n%2:Nat):Int)):=by
 show some (AV.int .i64 (IntKind.wrap .i64 ((xH 64 (n:Int)&&&xH 64 1).toNat:Int)))=_
 rw [show xH 64 (n:Int)=tf 64 n from BitVec.ofInt_natCast 64 n,show xH 64 1=tf 64 1 from rfl];rw [BitVec.toNat_and,vP,vP,show (1%2^64:Nat)=2^1-1 from rfl,Nat.and_two_pow_sub_one_eq_mod,wrapN (by omega)]
 grind
def atE (n:Nat):binOp .shr (.int .i64 (n:Int)) (.int .u64 1)=some (.int .i64 ((n/2:Nat):Int)):=by
 show some (AV.int .i64 ((n:Int).fdiv (2^1)))=_
 grind
def Bd.pow {k:Nat} {z:Int} (h:Bd k z):∀e,Bd (k*e+1) (z^e)
 | 0=>by rw [yaI,xD];unfold Bd;decide
 | e+1=>by
  have ih:=Bd.pow h e;rw [Int.pow_succ];exact (ih.mul h).mono (by rw [xB,yk];omega)
section
variable {P:aF} {L:Lib}
def ap1 (h:Nu P L) (Ng:True) {z:Int} {K k0:Nat} (hz:Bd K z) (hK:K*k0+1<=30000000000) {o1 o2:AV}:
  ∀m st,(∃(k i e:Nat) (s1 s2:Int) (w1 w2:AV),aT [1,2,4,5] st=⟨[(1,aa k),(2,.ptr 0 0),(4,.ptr 1 0),(5,.ptr 2 0)],[(2,.cells true true true 2 [aa s2,w2]),(1,.cells true true true 2 [o1,o2]),(0,.cells true true true 2 [aa s1,w1])],3,0⟩/\cS s1 w1 (z^i)/\cS s2 w2 (z^e)/\e+i*k=k0/\(0<k->i<=k0)/\k<9223372036854775808/\k=m)->
   ∃ex st',D P L (.loop [1,2,4,5] BT) st=some (ex,st')/\∃tm s2 w2 c0,st'=⟨tm,[(2,.cells true true true 2 [aa s2,w2]),(1,.cells true true true 2 [o1,o2]),(0,c0)],3,0⟩/\ex= .exit 0/\aj tm 4= .ptr 1 0/\aj tm 5= .ptr 2 0/\cS s2 w2 (z^k0):=by
 intro dq sq;generalize bt:aT [1,2,4,5] sq=s0;revert bt s0 sq dq;apply dU;rintro m st ⟨k,i,e,s1,s2,w1,w2,rfl,h1,h2,hk,hi,UF,rfl⟩;obtain ⟨l1,u1⟩:=h1.aB;obtain ⟨l2,u2⟩:=h2.aB;by_cases NJ:k=0
 ·right
  subst NJ;rw [xD,yW] at hk;subst hk;simp only [go_sem,BT,show ¬(0:Int)<((0:Nat):Int) by omega];exact ⟨_,_,rfl,by simp,_,s2,w2,_,rfl,rfl,by simp only [go_sem,ya],by simp only [go_sem,ya],h2⟩
 ·left
  have cI:=hi (by omega);have he:e<=k0:=by omega
  have hik:i*1<=i*k:=yS i (by omega);have b1:Bd (K*k0+1) (z^i):=(hz.pow i).mono (by have:=yS K cI;omega);have b2:Bd (K*k0+1) (z^e):=(hz.pow e).mono (by have:=yS K he;omega);have n1:ck (.agg [aa s1,w1]) (z^i):=⟨s1,w1,rfl,h1⟩;have n2:ck (.agg [aa s2,w2]) (z^e):=⟨s2,w2,rfl,h2⟩;obtain ⟨p,e1,hp⟩:=rz h n2 n1 b2 b1 (by omega);obtain ⟨q,e2,hq⟩:=rz h n1 n1 b1 b1 (by omega);rw [<-Int.pow_add] at hp hq;obtain ⟨s3,w3,rfl,h3⟩:=hp;obtain ⟨s4,w4,rfl,h4⟩:=hq;obtain ⟨l3,u3⟩:=h3.aB;obtain ⟨l4,u4⟩:=h4.aB;have eR:=xV k 2;have JK:=atD (n:=k) UF;have UG:=atE k;have aa3:(i+i)*(k/2)=i*(2*(k/2)):=by rw [<-Nat.two_mul,xy 2 i,xp]
  by_cases atF:k%2=1
  ·rw [atF] at JK eR;have pZ:i*k=i*(2*(k/2))+i:=by
    conv=>lhs;rw [<-eR,xB,yk]
   by_cases gR:1<k
   ·simp only [go_sem,ya,BT,show (0:Int)<(k:Int) by omega,JK,show ((1:Nat):Int)=1 from rfl,bR,bA,u1.ai,u2.ai,e1,bc,bR,yo,da u3,da u4,show (1:Int)<(k:Int) by omega,e2,UG]
    exact ⟨_,k/2,rfl,by omega,k/2,i+i,e+i,s4,s3,w4,w3,by simp only [go_sem,ya,yd,az],h4,h3,by omega,fun h0=>by have:=yS (i+i) h0;omega,by omega,rfl⟩
   ·have eV:e+i+i*(k/2)=k0:=by
     have h1:k/2=0:=by omega
     rw [h1] at pZ ⊢;omega
    simp only [go_sem,ya,BT,show (0:Int)<(k:Int) by omega,JK,show ((1:Nat):Int)=1 from rfl,bR,bA,u1.ai,u2.ai,e1,bc,bR,yo,da u3,show ¬(1:Int)<(k:Int) by omega,UG];exact ⟨_,k/2,rfl,by omega,k/2,i,e+i,s1,s3,w1,w3,by simp only [go_sem,ya,yd,az],h1,h3,eV,fun h0=>by omega,by omega,rfl⟩
  ·have CQ:k%2=0:=by omega
   rw [CQ] at JK eR;have pZ:i*k=i*(2*(k/2)):=by
    conv=>lhs;rw [<-eR,yW]
   simp only [go_sem,ya,BT,show (0:Int)<(k:Int) by omega,JK,show ((0:Nat):Int)=0 from rfl,vM,bR,bA,u1.ai,bc,bR,yo,da u4,show (1:Int)<(k:Int) by omega,e2,UG]
   exact ⟨_,k/2,rfl,by omega,k/2,i+i,e,s4,s2,w4,w2,by simp only [go_sem,ya,yd,az],h4,h2,by omega,fun h0=>by have:=yS (i+i) h0;omega,by omega,rfl⟩
def SK (h:Nu P L) (pR:Has P L 155 Ee) {v:AV} {z:Int} {K k:Nat} (hv:ck v z) (hz:Bd K z) (hK:K*k+1<=30000000000) (hk:k<9223372036854775808):∃r,ah P L 155 [v,aa k] r/\ck r (z^k):=by
 obtain ⟨o1,o2⟩:=zo h (z:=1) (by decide) (by decide);obtain ⟨s1,w1,rfl,h1⟩:=hv;obtain ⟨l1,u1⟩:=h1.aB;have un:=pE;have iY:∃s w,ah P L 155 [.agg [aa s1,w1],aa k] (.agg [aa s,w])/\cS s w (z^k):=by
  unfold ah;rw [aC pR];simp only [go_sem,ya,yd,Ee,aM,u1.pu,u1.one,o1,bc,da un];generalize hq:D P L (.loop [1,2,4,5] BT) _=q;obtain ⟨ex,st,rfl,tm,s5,w5,c1,rfl,rfl,t4,t5,h5⟩:=b9 hq (ap1 (P:=P) (L:=L) h trivial hz (k0:=k) hK (o1:= .int .i64 0) (o2:= .ae) k) ⟨k,1,0,s1,1,w1,.ae,by simp only [go_sem,ya,yd,az],by rw [Int.pow_one];exact h1,.inl ⟨rfl,(yaI z).symm,(by rw [yaI];decide)⟩,by omega,fun h0=>h0,hk,rfl⟩
  obtain ⟨l5,u5⟩:=h5.aB;refine ⟨s5,w5,?_,h5⟩;simp only [go_sem,ya,yd,az,t4,t5,de,df,bR,yo,lY u5,da u5]
 obtain ⟨s,w,e,hn⟩:=iY;exact ⟨_,e,s,w,rfl,hn⟩
def GP:∀(l m:List Nat) (a:Nat),cJ (l++m) a=(cJ l a).bind (fun v=>cJ m v)
 | [],m,a=>rfl
 | b::l,m,a=>by
  simp only [List.cons_append,cJ]
  cases (yF 48 b&&yF b 57) with
  | true=>exact GP l m _
  | false=>rfl
def akW:∀{l:List Nat} {a v:Nat},cJ l 0=some v->cJ l a=some (a*10^l.length+v):=by
 intro l
 suffices h:∀{l:List Nat} {a b v:Nat},cJ l b=some v->b*10^l.length<=v/\cJ l (a+b)=some (a*10^l.length+v) by
  intro a v hv
  have:=(h (a:=a) hv).2
  grind
 intro l
 induction l with
 | nil=>intro a b v h;simp [cJ] at h ⊢;omega
 | cons c l ih=>
  intro a b v h;simp only [cJ] at h ⊢
  cases hb:(yF 48 c&&yF c 57) with
  | false=>rw [hb] at h;cases h
  | true=>
   rw [hb] at h;obtain ⟨h1,h2⟩:=ih (a:=10*a) h;simp only [yz,y7]
   grind
def Qq:∀{l:List Nat} {v:Nat},cJ l 0=some v->v<10^l.length:=by
 suffices h:∀{l:List Nat} {b v:Nat},cJ l b=some v->v<(b+1)*10^l.length by
  grind
 intro l
 induction l with
 | nil=>intro b v h;simp [cJ] at h ⊢;omega
 | cons c l ih=>
  intro b v h;simp only [cJ] at h
  cases hb:(yF 48 c&&yF c 57) with
  | false=>rw [hb] at h;cases h
  | true=>
   simp only [Bool.and_eq_true] at hb;have hc:=Nat.le_of_ble_eq_true hb.2;have h2:=yQ (10^l.length) (show 10*b+(c-48)+1<=10*(b+1) by omega)
   grind
def ann (SH:L.pure 154=some HV) {f:cu} {s:List Nat} {v:Nat} (h0:0<s.length) (h1:s.length<=18) (hv:cJ s 0=some v):bE P L f 154 [.str s]=some (.au [.int .i64 v,.undef]):=by
 rw [ir SH];show (bif yJ 0 s.length&&yF s.length 18 then (match cJ s 0 with | some n=>some (AV.au [.int .i64 n,.undef]) | none=>none) else none)=_
 rw [jQ h0,yv h1,hv];rfl
end
def Xu:∀j:Nat,gM [48] j++[48]=[48]++gM [48] j
 | 0=>rfl
 | j+1=>by
  show ([48]++gM [48] j)++[48]=[48]++([48]++gM [48] j)
  rw [xt,Xu j]
def Dt:∀j:Nat,(gM [48] j).length=j
 | 0=>rfl
 | j+1=>by show ([48]++gM [48] j).length=_;rw [yR,Dt j];simp;omega
def aiC:∀(k n:Nat),n<10^k->0<k->iD k n=gM [48] (k-(ap n).length)++ap n:=by
 intro k
 induction k with
 | zero=>intro n _ h;omega
 | succ k ih=>
  intro n hn _;rw [iD];by_cases iJ:n<10
  ·rw [nc iJ,yL iJ]
   cases k with
   | zero=>rfl
   | succ k=>
    rw [ih (n/10) (by rw [xP iJ];exact yaG (by decide)) (by omega),xP iJ]
    rw [show ap 0=[48] by decide];rw [Xu];rfl
  ·have hk:0<k:=by
    grind
   rw [ih (n/10) (by rw [y7] at hn;omega) hk,od iJ,xt,yR]
   grind
def aiD {m d r:Nat} (hd:d=m/1000000000000000000) (hr:r=m%1000000000000000000):(0<d->ap m=ap d++(gM [48] (18-(ap r).length)++ap r))/\(d=0->ap m=ap r):=by
 have Uy:r<10^18:=by omega
 constructor
 ·intro h0;rw [<-aiC 18 r Uy (by decide),<-KW 18 d r h0 Uy]
  grind
 ·grind
section
variable {P:aF} {L:Lib}
def ap2 {f:cu} (h:L.pure 138=some zU) {n:Nat} (hn:n<18446744073709551616):bE P L f 138 [uc n,aa 10]=some (.str (ap n)):=by
 rw [ir h];show (bif yJ n 18446744073709551616 then some (AV.str (ap n)) else none)=_
 rw [jQ hn];rfl
def QS {f:cu} (h:L.pure 139=some Ag) {n:Nat} (hn:n<=100):bE P L f 139 [.str [48],aa (n:Nat)]=some (.str (gM [48] n)):=by
 rw [ir h];show (bif yF n 1099511627776&&yF (1*n) 1099511627776 then some (AV.str (gM [48] n)) else none)=_
 rw [yv (by omega),yv (by omega)];rfl
def ap3 (h:Wd P L) (Cx:L.pure 138=some zU) (zp:L.pure 139=some Ag) {neg:Bool} {M K:Nat} (UH:0<M) (hK:K<=4000000000) (hlen:(ap M).length<=300000000000):
  ∀k s,(∃(m:Nat) (w:AV) (ps:List (List Nat)) (fl:Bool),m=k/\WN w m/\m<18446744073709551616^K/\ap M=(if m=0 then [] else ap m)++ps.reverse.flatten/\((ps=[]->m=M)/\18*ps.length<=(ap M).length+18)/\(m≠0->18*ps.length+(ap m).length=(ap M).length)/\
    ((ps=[]/\aT [3,4,5,6] s=⟨[(3,.bool neg),(4,w),(5,.ay 0 0 1),(6,.ae)],[(0,.cells fl true true 1 [uc 1000000000000000000])],1,0⟩)\/
    (ps≠[]/\aT [3,4,5,6] s=⟨[(3,.bool neg),(4,w),(5,.ay 0 0 1),(6,.ay 1 0 ps.length)],[(1,.cells true true false 1 (ps.map .str)),(0,.cells fl true true 1 [uc 1000000000000000000])],2,0⟩)))->
   ∃ex s',D P L (.loop [3,4,5,6] oE) s=some (ex,s')/\∃tm ps fl,ex= .exit 0/\ps≠[]/\ps.length<=300000000000/\ap M=ps.reverse.flatten/\aj tm 3= .bool neg/\aj tm 6= .ay 1 0 ps.length/\s'=⟨tm,[(1,.cells true true false 1 (ps.map .str)),(0,.cells fl true true 1 [uc 1000000000000000000])],2,0⟩:=by
 intro dq sq;generalize bt:aT [3,4,5,6] sq=s0;revert bt s0 sq dq;apply dU;rintro k s ⟨m,w,ps,fl,rfl,hw,hmK,zP,acq,mQ,hs⟩;obtain ⟨lw,uw,gw,nw,vw⟩:=hw;by_cases hm:m=0
 ·right
  have jt:lw=[]:=yH (Nat.le_zero.1 (mN (K:=0) nw vw (by rw [hm];decide)))
  subst jt;rw [yN hm,xY] at zP;have fb:ps≠[]:=fun e=>by have:=acq.1 e;omega
  have Ow:ps.length<=300000000000:=by have:=acq.2;omega
  rcases hs with ⟨h0,_⟩ | ⟨_,rfl⟩
  ·exact absurd h0 fb
  ·simp only [go_sem,ya,oE,uw.len,yK,show ¬(0:Int)<((0:Nat):Int) by omega];exact ⟨_,_,rfl,by simp,_,ps,fl,rfl,fb,Ow,zP,by simp only [go_sem,ya],by simp only [go_sem,ya],rfl⟩
 ·left
  have hw:WN w m:=⟨lw,uw,gw,nw,vw⟩;have hB:WN (.aA true 1 [uc 1000000000000000000]) 1000000000000000000:=⟨[1000000000000000000],mz true [1000000000000000000],DM.2 (by decide),by decide,by simp [bv]⟩;obtain ⟨q,r,e1,hq,hr⟩:=aca h hw hB (K:=K+1) (by decide) (yu hmK (yV (by decide) (by omega))) (by rw [y7];have:=yaG (n:=K) (show 0<18446744073709551616 by decide);omega) (by omega)
  obtain ⟨t1,t2⟩:=aiD (m:=m) rfl rfl;have eR:=xV m 1000000000000000000;have hrB:=xE m (show 0<1000000000000000000 by decide);obtain ⟨d,hd⟩:∃d,d=m/1000000000000000000:=⟨_,rfl⟩;obtain ⟨x,hx⟩:∃x,x=m%1000000000000000000:=⟨_,rfl⟩;rw [<-hd] at hq t1 t2 eR;rw [<-hx] at hr t1 t2 eR hrB;obtain ⟨lq,uq,gq,nq,vq⟩:=hq;obtain ⟨lr,ur,gr,nr,vr⟩:=hr;have hxl:(ap x).length<=18:=qH (k:=17) (by omega);have hxp:=qI x;have Bi:(lr=[]/\x=0)\/lr=[x]:=by
   have h1:lr.length<=1:=mN (K:=1) nr vr (by rw [ycW];omega)
   cases lr with
   | nil=>exact .inl ⟨rfl,by rw [<-vr];rfl⟩
   | cons a l=>
    cases l with
    | nil=>rw [Ar] at vr;exact .inr (by rw [vr])
    | cons b l=>simp at h1
  have Fb:(lq=[]/\d=0)\/(0<lq.length/\0<d):=by
   cases lq with
   | nil=>exact .inl ⟨rfl,by rw [<-vq];rfl⟩
   | cons a l=>
    refine .inr ⟨by simp,?_⟩;rcases xi d with h0 | h0
    ·have:=mN (K:=0) nq vq (by rw [h0];decide)
     simp at this
    ·exact h0
  unfold ah at e1;have Bq:(0:Int)<(lw.length:Int):=by
   have:lw≠[]:=fun e=>by subst e;simp [bv] at vw;omega
   have:=vQ.2 this
   omega
  have ayp:=mQ hm;have hmp:=qI m;have new:∀t:List Nat,ap m=(if d=0 then [] else ap d)++t->(d≠0->t.length=18)->
    ap M=(if d=0 then [] else ap d)++(ps++[t]).reverse.flatten/\((ps++[t]=[]->d=M)/\18*(ps++[t]).length<=(ap M).length+18)/\(d≠0->18*(ps++[t]).length+(ap d).length=(ap M).length):=fun t h1 h2=>by
   rw [yB hm,h1] at zP;refine ⟨by rw [zP];simp,⟨by simp,by simp only [yR,yz,yK];omega⟩,fun h0=>?_⟩
   have h3:=congrArg List.length h1;rw [yB h0,yR,h2 h0] at h3;simp only [yR,yz,yK];omega
  have AT:d<m:=by omega
  have Br:WN q d:=⟨lq,uq,gq,nq,vq⟩;have nX:lr=[x]->jj 1 0 r=some (.aH (.int .u64 x::([]:List AV))):=fun e=>by
   subst e
   have:=ur.br (i:=0) (by simp)
   simpa using this
  have f1:=ap2 (P:=P) (f:=D P L) Cx (n:=x) (by omega);have f2:=QS (P:=P) (f:=D P L) zp (n:=18-(ap x).length) (by omega);have SL:(18:Int)-((ap x).length:Int)=((18-(ap x).length:Nat):Int):=by omega
  have ayq:18*ps.length<=300000000000:=by omega
  have zl:(gM [48] (18-(ap x).length)++ap x).length=18:=by rw [yR,Dt];omega
  obtain ⟨z,hz⟩:∃z,z=ap x:=⟨_,rfl⟩;have jv:x=0->z=[48]:=fun e=>by rw [hz,e];decide
  rw [<-hz] at f1 f2 SL hxl hxp zl t1 t2;cases fl
  all_goals
   rcases Fb with ⟨rfl,fB⟩ | ⟨Ox,fB⟩
   ·obtain ⟨n1,n2,n3⟩:=new z (by rw [yN fB,xY];exact t2 fB) (fun h=>absurd fB h)
    rcases Bi with ⟨rfl,zI⟩ | rfl
    ·have kN:=jv zI;clear hz;subst kN;rcases hs with ⟨eN,rfl⟩ | ⟨eN,rfl⟩
     ·subst eN;simp only [go_sem,ya,yd,xQ,yI,yp,yk,oE,uw.len,uw.ai,uq.len,uq.bM,ur.len,ur.bM,Bq,e1,yK,yK,show ¬(0:Int)<((0:Nat):Int) by omega,kW];refine ⟨_,d,rfl,AT,d,q,[]++[[48]],false,rfl,Br,by omega,n1,n2,n3,.inr ⟨by simp,?_⟩⟩;simp only [go_sem,ya,yd,az,aE uq.pu,aJ _ uq.pu]<;>rfl
     ·simp only [go_sem,ya,yd,yI,yp,yk,oE,uw.len,uw.ai,uq.len,uq.bM,ur.len,ur.bM,Bq,e1,yK,yK,show ¬(0:Int)<((0:Nat):Int) by omega]
      rw [kh (ex:=false) (pu:=true) (cs:=ps.map .str) (by simp only [go_sem,ya]) (by simp) (by omega) (by omega) (by decide) (by simp only [go_sem])];simp only [go_sem,ya,yd];refine ⟨_,d,rfl,AT,d,q,ps++[[48]],false,rfl,Br,by omega,n1,n2,n3,.inr ⟨by simp,?_⟩⟩;rw [xC,yR];simp only [go_sem,ya,yd,az,aE uq.pu,aJ _ uq.pu]<;>rfl
    ·rcases hs with ⟨eN,rfl⟩ | ⟨eN,rfl⟩
     ·subst eN;simp only [go_sem,ya,yd,xQ,yI,yp,yk,oE,uw.len,uw.ai,uq.len,uq.bM,ur.len,ur.bM,Bq,e1,yz,yK,yf,show (0:Int)<((1:Nat):Int) by omega,nX rfl,f1,yK,show ¬(0:Int)<((0:Nat):Int) by omega,kW];refine ⟨_,d,rfl,AT,d,q,[]++[z],false,rfl,Br,by omega,n1,n2,n3,.inr ⟨by simp,?_⟩⟩;simp only [go_sem,ya,yd,az,aE uq.pu,aJ _ uq.pu]<;>rfl
     ·simp only [go_sem,ya,yd,yI,yp,yk,oE,uw.len,uw.ai,uq.len,uq.bM,ur.len,ur.bM,Bq,e1,yz,yK,yf,show (0:Int)<((1:Nat):Int) by omega,nX rfl,f1,yK,show ¬(0:Int)<((0:Nat):Int) by omega]
      rw [kh (ex:=false) (pu:=true) (cs:=ps.map .str) (by simp only [go_sem,ya]) (by simp) (by omega) (by omega) (by decide) (by simp only [go_sem])];simp only [go_sem,ya,yd];refine ⟨_,d,rfl,AT,d,q,ps++[z],false,rfl,Br,by omega,n1,n2,n3,.inr ⟨by simp,?_⟩⟩;rw [xC,yR];simp only [go_sem,ya,yd,az,aE uq.pu,aJ _ uq.pu]<;>rfl
   ·obtain ⟨n1,n2,n3⟩:=new (gM [48] (18-z.length)++z) (by rw [yB (by omega)];exact t1 fB) (fun _=>zl)
    rcases Bi with ⟨rfl,zI⟩ | rfl
    ·have kN:=jv zI;clear hz;subst kN;rcases hs with ⟨eN,rfl⟩ | ⟨eN,rfl⟩
     ·subst eN
      simp only [go_sem,ya,yd,xQ,yI,yp,yk,oE,uw.len,uw.ai,uq.len,uq.bM,ur.len,ur.bM,Bq,e1,yK,show ¬(0:Int)<((0:Nat):Int) by omega,show (0:Int)<(lq.length:Int) by omega,show (18:Int)-((1:Nat):Int)=((17:Nat):Int) from rfl,wrapN (n:=17) (by omega),QS (P:=P) (f:=D P L) zp (n:=17) (by omega),gh (a:=gM [48] 17) (b:=[48]) (by rw [Dt];decide),kW]
      refine ⟨_,d,rfl,AT,d,q,[]++[gM [48] 17++[48]],false,rfl,Br,by omega,n1,n2,n3,.inr ⟨by simp,?_⟩⟩;simp only [go_sem,ya,yd,az,aE uq.pu,aJ _ uq.pu]<;>rfl
     ·simp only [go_sem,ya,yd,yI,yp,yk,oE,uw.len,uw.ai,uq.len,uq.bM,ur.len,ur.bM,Bq,e1,yK,show ¬(0:Int)<((0:Nat):Int) by omega,show (0:Int)<(lq.length:Int) by omega,show (18:Int)-((1:Nat):Int)=((17:Nat):Int) from rfl,wrapN (n:=17) (by omega),QS (P:=P) (f:=D P L) zp (n:=17) (by omega),gh (a:=gM [48] 17) (b:=[48]) (by rw [Dt];decide)]
      rw [kh (ex:=false) (pu:=true) (cs:=ps.map .str) (by simp only [go_sem,ya]) (by simp) (by omega) (by omega) (by decide) (by simp only [go_sem])];simp only [go_sem,ya,yd];refine ⟨_,d,rfl,AT,d,q,ps++[gM [48] 17++[48]],false,rfl,Br,by omega,n1,n2,n3,.inr ⟨by simp,?_⟩⟩;rw [xC,yR];simp only [go_sem,ya,yd,az,aE uq.pu,aJ _ uq.pu]<;>rfl
    ·rcases hs with ⟨eN,rfl⟩ | ⟨eN,rfl⟩
     ·subst eN
      simp only [go_sem,ya,yd,xQ,yI,yp,yk,oE,uw.len,uw.ai,uq.len,uq.bM,ur.len,ur.bM,Bq,e1,yz,yK,yf,show (0:Int)<((1:Nat):Int) by omega,nX rfl,f1,show (0:Int)<(lq.length:Int) by omega,SL,wrapN (n:=18-z.length) (by omega),f2,gh (a:=gM [48] (18-z.length)) (b:=z) (by rw [Dt];omega),kW];refine ⟨_,d,rfl,AT,d,q,[]++[gM [48] (18-z.length)++z],false,rfl,Br,by omega,n1,n2,n3,.inr ⟨by simp,?_⟩⟩;simp only [go_sem,ya,yd,az,aE uq.pu,aJ _ uq.pu]<;>rfl
     ·simp only [go_sem,ya,yd,yI,yp,yk,oE,uw.len,uw.ai,uq.len,uq.bM,ur.len,ur.bM,Bq,e1,yz,yK,yf,show (0:Int)<((1:Nat):Int) by omega,nX rfl,f1,show (0:Int)<(lq.length:Int) by omega,SL,wrapN (n:=18-z.length) (by omega),f2,gh (a:=gM [48] (18-z.length)) (b:=z) (by rw [Dt];omega)]
      rw [kh (ex:=false) (pu:=true) (cs:=ps.map .str) (by simp only [go_sem,ya]) (by simp) (by omega) (by omega) (by decide) (by simp only [go_sem])];simp only [go_sem,ya,yd];refine ⟨_,d,rfl,AT,d,q,ps++[gM [48] (18-z.length)++z],false,rfl,Br,by omega,n1,n2,n3,.inr ⟨by simp,?_⟩⟩;rw [xC,yR];simp only [go_sem,ya,yd,az,aE uq.pu,aJ _ uq.pu]<;>rfl
end
def pT:Nat->VC->VC
 | 0,c=>a7 c
 | n+1,c=> .seq (a7 c) (pT n (av c))
def fS:Nat->VC->VC
 | 0,c=>av c
 | n+1,c=>fS n (av c)
def acr:Nat->VC->Prop
 | 0,c=>c= .seq (a7 c) (av c)
 | n+1,c=>c= .seq (a7 c) (av c)/\acr n (av c)
def Qr {P:aF} {L:Lib}:∀(n:Nat) {c:VC},acr n c->∀s,D P L c s=mI P L (D P L (pT n c) s) (fS n c)
 | 0,c,h,s=>by
  conv=>lhs;rw [show c= .seq (a7 c) (av c) from h]
  rw [iz];rfl
 | n+1,c,h,s=>by
  conv=>lhs;rw [show c= .seq (a7 c) (av c) from h.1]
  show _=mI P L (D P L (.seq (a7 c) (pT n (av c))) s) (fS n (av c))
  rw [iz,iz]
  cases D P L (a7 c) s with
  | none=>rfl
  | some q=>
   obtain ⟨ex,st⟩:=q
   cases ex with
   | normal=>rw [fe,fe];exact Qr n h.2 st
   | ret=>rfl
   | exit id=>rfl
section
variable {P:aF} {L:Lib}
def agT (h:Nu P L) (Cx:L.pure 138=some zU) (zp:L.pure 139=some Ag) {s z:Int} {e:Bool} {l:List Nat} (hn:cS s (.aA e l.length (l.map uc)) z) {K:Nat} (kN:0<z.natAbs) (Oy:z.natAbs<18446744073709551616^K) (hK:K<=4000000000) (hlen:(ap z.natAbs).length<=300000000000):
  ∃ps:List (List Nat),ps≠[]/\ps.length<=300000000000/\ap z.natAbs=ps.reverse.flatten/\D P L (pT 5 CS.body) ⟨[(0,.agg [aa s,.aA e l.length (l.map uc)])],[],0,0⟩=some (.normal,⟨[(3,.bool (decide (z<0))),(6,.ay 0 0 ps.length)],[(0,.cells true true false 1 (ps.map .str))],1,0⟩):=by
 obtain ⟨r,e1,hr⟩:=ru h hn;have bC:=hr;obtain ⟨lr,ur,gr,nr,vr⟩:=hr;simp only [go_sem,ya,yd,yp,yk,CS,pT,a7,av,aM,bl,yf,cC,nv,dP,bR,bA,e1];generalize kO:D P L (.loop [3,4,5,6] oE) _=qq;obtain ⟨ex,st,rfl,tm,ps,fl,rfl,fb,Ow,zP,t3,t6,rfl⟩:=b9 kO (ap3 (P:=P) (L:=L) h.toWd Cx zp (neg:=decide (z<0)) (M:=z.natAbs) (K:=K) kN hK hlen z.natAbs) ⟨z.natAbs,bM r,[],true,rfl,bC,Oy,by rw [yB (by omega)];simp,⟨fun _=>rfl,by simp⟩,fun _=>by simp,.inl ⟨rfl,by
  simp only [go_sem,ya,yd,az,aE ur.pu,aJ _ ur.pu]<;>rfl⟩⟩
 refine ⟨ps,fb,Ow,zP,?_⟩;simp only [go_sem,yd,az,t3,t6]
end
section
open Go
variable {O:bk}
def za:Nat->wU->wU
 | 0,.seq _ b=>b
 | n+1,.seq _ b=>za n b
 | _,c=>c
def Nk:Nat->wU->Prop
 | 0,.seq _ _=>True
 | n+1,.seq _ b=>Nk n b
 | _,_=>False
def Yn (hO:gI O) {h:Nat} {c:wU} {l k:Nat} {s:St} {ex:Ex} {s':St} (hv:D O.prog O.aX (comp O.P (O.hint h) c l k).1 s=some (ex,s')):AB O h c s ex s':=by
 obtain ⟨n,hn⟩:=Sf hv
 cases n with
 | zero=>rw [GZ] at hn;cases hn
 | succ n=>
  exact Y1 hO n (fun k _=>VQ hO k) h c l k n (yA _) s ex s' hn
def ZS (hO:gI O) {h:Nat} {ro:Option Nat} {lo:Nat} {Q:Exit->Act->yi->Prop}:∀(n:Nat) (c:wU) (l k:Nat),Nk n c->∀(s s1:St),D O.prog O.aX (pT n (comp O.P (O.hint h) c l k).1) s=some (.normal,s1)->
  ∀(m:Mp) (S:Nat->Prop) (w:yi) (a:Act),sO ro w->bP O m S w s.tm a.tmps->aQ O m S w s.hp s.ct->s.base<=s.ct->(O.hint h).n<=a.tmps.size->O.w0.heap.size<=lo->lo<=w.heap.size->Marks lo S w a.defers->
  (∀a' w',ej O m S w s .normal s1 a.tmps.size lo .normal a' w'->(za n c).wpIn (WF ro) 0 O.P Q a' w')->c.wpIn (WF ro) 0 O.P Q a w
 | n,c,l,k,hc,s,s1,hv=>by
  intro m S w a cR ht hh hb hn aY eO cE hQ
  cases c with
  | seq x y=>
   cases n with
   | zero=>
    refine wpIn_seq (wpIn_mono (Yn hO (show D O.prog O.aX (comp O.P (O.hint h) x l k).1 s=some (.normal,s1) from hv) ro lo m S w a cR ht hh hb hn aY eO cE) ?_);rintro e a' w' hp;have he:e= .normal:=hp.1;subst he;exact hQ a' w' hp
   | succ n=>
    have dX:D O.prog O.aX (.seq (comp O.P (O.hint h) x l k).1 (pT n (comp O.P (O.hint h) y (comp O.P (O.hint h) x l k).2.1 (comp O.P (O.hint h) x l k).2.2).1)) s=some (.normal,s1):=hv;rw [iz] at dX
    cases hx:D O.prog O.aX (comp O.P (O.hint h) x l k).1 s with
    | none=>rw [hx] at dX;cases dX
    | some q=>
     obtain ⟨ex,st⟩:=q;rw [hx] at dX
     cases ex with
     | ret=>exact absurd dX (by intro h;cases h)
     | exit id=>exact absurd dX (by intro h;cases h)
     | normal=>
      refine wpIn_seq (wpIn_mono (Yn hO hx ro lo m S w a cR ht hh hb hn aY eO cE) ?_);rintro e a' w' ⟨rfl,m',S',k1,k2,k3,k4,k5,k6,k7⟩;refine ZS hO n y _ _ hc st s1 dX m' S' w' a' (Kx k5 cR) k1 k2 (by omega) (by omega) aY (xg eO k5.size) k7 ?_;rintro a2 w2 ⟨_,m2,S2,g1,g2,g3,g4,g5,g6,g7⟩;exact hQ a2 w2 ⟨rfl,m2,S2,g1,g2,by omega,by omega,k5.trans (by rw [<-k3];exact g5),by omega,g7⟩
  | _=>cases n<;>exact hc.elim
def ap4 (hO:gI O) {n:Nat} {F:ax} (hF:O.prog n=some F) {fn:yaA} {c:wU} (kM:O.P.funcs[O.ab n]? =some fn) (je:fn.body=some c) {hp:Hp} {ct:Nat} {vals:List AV} {s:St}
  (hc:(comp O.P (O.hint n) c 0 0).1=F.body->∀m S w a,bP O m S w (ew 0 vals) a.tmps->aQ O m S w hp ct->(O.hint n).n<=a.tmps.size->a.tmps.size=max fn.ntmps vals.length->O.w0.heap.size<=w.heap.size->a.defers=[]->
   c.wpIn (WF none) 0 O.P (ej O m S w ⟨ew 0 vals,hp,ct,ct⟩ .ret s a.tmps.size w.heap.size) a w) {v:AV} (hr:gW s F.dQ=some v):AA O n hp ct vals v s.hp s.ct:=by
 intro m S w args hh fL;obtain ⟨fn',q1,q2,q3⟩:=hO.prog n F hF;rw [kM] at q1;cases q1;obtain ⟨c',q4,q5,q6,q7⟩:=OS q2;rw [je] at q4;cases q4;refine .inl ⟨KQ kM (by rw [je];rfl) q3,?_⟩
 have hlen:vals.length=args.size:=by have:=(gH _ _ fL).symm;simpa using this
 have hw:=hc q5.symm m S w {tmps:=args++Array.replicate (fn.ntmps-args.size) undef,defers:=[]} (Xf _ fL) hh (by simp;omega) (by simp;omega) hh.fK rfl
 refine callsIn_of_wp_marks (F:=ybt) kM je trivial (wpIn_mono hw ?_);rintro e a' w' ⟨rfl,m',S',k1,k2,k3,k4,k5,k6,rs,k7,k8,k9⟩;show LeavesInM ybt 0 O.P fn a'.tmps (sC O m S w hp ct v s.hp s.ct) a'.defers .returning w'
 rw [k7];exact Pr q6 hr k4 rs w' k8 k9 hh.fK k2 k1 k5
def akX (hO:gI O) {n:Nat} {F:ax} (hF:O.prog n=some F) {fn:yaA} {c:wU} (kM:O.P.funcs[O.ab n]? =some fn) (je:fn.body=some c) {vals:List AV} {s:St}
  (hc:(comp O.P (O.hint n) c 0 0).1=F.body->∀m S w a,bP O m S w (ew 0 vals) a.tmps->aQ O m S w [] 0->(O.hint n).n<=a.tmps.size->a.tmps.size=max fn.ntmps vals.length->O.w0.heap.size<=w.heap.size->a.defers=[]->
   c.wpIn (WF none) 0 O.P (ej O m S w ⟨ew 0 vals,[],0,0⟩ .ret s a.tmps.size w.heap.size) a w) {v r:AV} (hv:gW s F.dQ=some v) (hr:result s.hp v=some r):dV O n vals r:=
 ON (ap4 hO hF kM je hc hv) hr
end
section
open Go
def WH {ab:Nat->Nat} {m:Mp} {S:Nat->Prop} {w:yi} {b:Nat}:∀{ps:List (List Nat)} {o:Nat},bI ab m S w (ps.map .str) b o->
  ∃ts:List ByteArray,(ts.map fun t=>t.data.toList.map xh)=ps/\∀i (h:i<ts.length),w.cell? ⟨b,o+i,none⟩=some (.string ts[i])
 | [],o,_=>⟨[],rfl,fun i h=>absurd h (Nat.not_lt_zero i)⟩
 | p::ps,o,h=>by
  obtain ⟨⟨u,h1,h2⟩,h3⟩:=h;obtain ⟨t,rfl,ht⟩:=h2;obtain ⟨ts,k1,k2⟩:=WH h3;refine ⟨t::ts,by rw [xm,ht,k1],fun i hi=>?_⟩
  cases i with
  | zero=>exact h1
  | succ i=>
   grind
def nK (ts:List ByteArray):List UInt8:=(ts.map fun t=>t.data.toList).flatten
def ano {ts:List ByteArray} {ps:List (List Nat)} (h:(ts.map fun t=>t.data.toList.map xh)=ps):(nK ts.reverse).map xh=ps.reverse.flatten:=by
 subst h;unfold nK;rw [List.map_flatten,ycp,<-yat];rfl
def anp {ts:List ByteArray} {ps:List (List Nat)} (h:(ts.map fun t=>t.data.toList.map xh)=ps):(ts.map (·.size)).sum=ps.reverse.flatten.length:=by
 subst h;rw [List.length_flatten,yat,List.sum_reverse,ycp]
 congr 1
 simp_all
def Qs (P:Program) (c:wU):Prop:=∀(Q:Exit->Act->yi->Prop) (a:Act) (w:yi) (neg:Bool) (ts:List ByteArray) (b o cc:Nat),a.tmps.size=69->a.tmps.getD 3 undef= .bool neg->a.tmps.getD 6 undef= .slice (some ⟨b,o,none⟩) ts.length cc->
  (∀i (h:i<ts.length),w.cell? ⟨b,o+i,none⟩=some (.string ts[i]))->(ts.map (·.size)).sum+1<=140737488355328->ts.length<=cc->ts.length<9223372036854775808->
  (∀a' w',Calm w w'->a'.tmps.size=69->a'.defers=a.defers->a'.tmps.getD 2 undef= .string ⟨((if neg then [45] else [])++nK ts.reverse).toArray⟩->Q .ret a' w')->
  (za 5 c).wpIn Fence.wide 0 P Q a w
section
variable {O:bk}
def agU {n K:Nat} (h:n<18446744073709551616^K):(ap n).length<=20*K+1:=by
 refine qH (k:=20*K) (yu h ?_);have h1:(10:Nat)^(20*K)=(10^20)^K:=Nat.pow_mul ..;exact xg (by rw [h1];exact vn (by decide) K) (yV (by decide) (Nat.le_succ _))
def akY (hO:gI O) (hN:Nu O.prog O.aX) (Cx:O.aX.pure 138=some zU) (zp:O.aX.pure 139=some Ag) (Fa:O.prog 99=some CS) {fn:yaA} {c:wU} (kM:O.P.funcs[O.ab 99]? =some fn) (je:fn.body=some c) (NL:fn.ntmps=69)
  (SM:Nk 5 c) (ht:Qs O.P c) {s z:Int} {e:Bool} {l:List Nat} (hn:cS s (.aA e l.length (l.map uc)) z) (kN:0<z.natAbs) (hK:l.length<=4000000000) (Oy:z.natAbs<18446744073709551616^l.length):
  dV O 99 [.agg [aa s,.aA e l.length (l.map uc)]] (.str (aP z)):=by
 have hlen:=agU Oy;obtain ⟨ps,fb,Ow,zP,e1⟩:=agT (P:=O.prog) (L:=O.aX) hN Cx zp hn kN Oy hK (by omega)
 refine akX hO Fa kM je (s:=⟨[(2,.str (aP z))],[(0,.cells true true false 1 (ps.map .str))],1,0⟩) (v:= .str (aP z)) ?_ rfl rfl;intro arW m S w a htr hh rQ ek hgs C3;refine ZS hO 5 c 0 0 SM _ _ (by rw [arW];exact e1) m S w a (fun l hl=>by cases hl) htr hh (yA _) rQ hgs (yA _) ⟨[],by rw [C3];rfl,by simp,by simp⟩ ?_
 rintro a' w' ⟨_,m',S',k1,k2,k3,k4,k5,k6,k7⟩;have r3:=k1 3;have r6:=k1 6;have g3:aj [(3,AV.bool (decide (z<0))),(6,.ay 0 0 ps.length)] 3= .bool (decide (z<0)):=rfl;have g6:aj [(3,AV.bool (decide (z<0))),(6,.ay 0 0 ps.length)] 6= .ay 0 0 ps.length:=rfl;rw [g3] at r3;rw [g6] at r6;simp only [af] at r3 r6;obtain ⟨p,cc,hm,r6,hcc,_⟩:=r6;obtain ⟨p',arr,t,fW,_,_,_,_,_,CF,_⟩:=k2.obj 0 _ p rfl hm;rw [hm] at fW;cases fW;obtain ⟨ts,mo,sU⟩:=WH CF;have mR:ts.length=ps.length:=by rw [<-mo,List.length_map]
 have AU:=anp mo;rw [<-zP] at AU;have SN:=ano mo;rw [<-zP] at SN;refine ht _ a' w' (decide (z<0)) ts p.b p.o cc ?_ r3 (by rw [mR];exact r6) sU (by omega) (by omega) (by omega) ?_
 ·grind
 ·intro a2 w2 hc h1 h2 h3;have Jm:=BF k2 hc (S':=S') (fun _ h=>h) (fun _ h=> .inl h) (fun b hb=>yu (k2.slt b hb) hc.size);refine ⟨rfl,m',S',?_,Jm,rfl,tG _,k5.trans (z8 k2 hc (fun _ h=>h) (fun _ h=> .inl h)),?_,?_⟩
  ·intro i;by_cases hi:i=2
   ·subst hi;rw [h3];show af O.ab m' S' w2 (.str (aP z)) _
    simp only [af];refine ⟨_,rfl,?_⟩;by_cases h0:z<0
    ·rw [jJ h0,xj h0];simp only [xA,xC];rw [SN];rfl
    ·obtain ⟨n,rfl⟩:∃n:Nat,z=n:=⟨z.toNat,by omega⟩;rw [yY h0];simp only [yD,xk,xY];rw [SN];rfl
   ·have:aj [(2,AV.str (aP z))] i= .undef:=by
     have hb:yr 2 i=false:=by
      cases hq:yr 2 i with
      | false=>rfl
      | true=>exact absurd (Nat.eq_of_beq_eq_true hq).symm hi
     simp only [aj,hb,yG]
    show af O.ab m' S' w2 (aj [(2,AV.str (aP z))] i) _
    rw [this];simp only [af]
  ·rw [h1,ek,NL];simp
  ·rw [h2]
   exact z7 k2 (z8 (base:=0) k2 hc (fun _ h=>h) (fun _ h=> .inl h)) k7
end
end
end VE
