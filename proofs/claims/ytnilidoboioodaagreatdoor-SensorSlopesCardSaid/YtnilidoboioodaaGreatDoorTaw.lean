import Derived.Test.YtnilidoboioodaaGreatDoorTav
import Derived.Test.YtnilidoboioodaaGreatDoorTau
import Derived.Test.YtnilidoboioodaaGreatDoorTaf
set_option linter.all false
set_option maxRecDepth 100000
open BitVec renaming ofInt→xD,ofNat→vS,toNat_ofNat→wV
open Bool renaming and_self→wC,not_false→yY,not_true→y5,true_and→wB
open Int renaming ediv_emod_unique→uz,gcd→wE,gcd_comm→yba,natAbs_ediv_of_dvd→vG,pow_zero→tk,reduceEq→uv,reduceLT→yaZ
open List renaming append_assoc→xn,append_nil→wD,drop_drop→vh,drop_zero→yy,length_cons→yH,length_drop→xJ,length_nil→yM,length_pos_iff→uA,length_take→yQ,take_append_drop→xI,take_of_length_le→yD
open Nat renaming add_comm→yag,add_zero→yX,beq→ym,ble→yx,ble_eq_true_of_le→yu,blt→yF,div_add_mod→xH,div_eq_of_lt→wa,div_le_self→wU,eq_zero_or_pos→xj,le_trans→xi,lt_of_le_of_lt→xU,lt_of_lt_of_le→yR,mod_eq_of_lt→yN,mod_le→ybq,mod_lt→xq,mul_add→xt,mul_add_div→yao,mul_add_mod→yap,mul_assoc→xf,mul_comm→xv,mul_le_mul_left→yO,mul_le_mul_right→yS,mul_lt_mul''→yad,mul_lt_mul_of_pos_right→wz,mul_one→yo,mul_zero→xz,pos_of_ne_zero→tO,pow_add→wi,pow_le_pow_left→uH,pow_le_pow_right→xA,pow_succ→y9,reduceAdd→yc,reduceEqDiff→ya,reduceLeDiff→yt,zero_add→yj
open Rat renaming den_divInt→yay,divInt→wb,num_divInt→yax,sub_eq_add_neg→tP
namespace VE
open Go (IntKind)
def Sv {b p A V bu Zc U0 pre:Nat} (h1:bu=pre+p*A) (h2:bu+Zc*V=U0):(pre+p*(A%V))+(Zc+p*(A/V))*V=U0:=by
 have eJ:=xH A V
 grind
def alQ (hp:Hp) (ct:Nat) (ex:Bool) (sz n:Nat) (cs:List AV):own hp ct (.cx ex sz n cs)=(.ay ct 0 n,(ct,.cells true true ex sz cs)::hp,ct+1):=rfl
section
variable {P:aR} {L:Lib}
def aj9 (h:Wd P L) {w:AV} {vs:List Nat} (hw:bw w vs) (gv:lo 18446744073709551616 vs) {n la m:Nat} (lv:vs.length=n) (da:2<=n) (GC:n<=la) (G5:la<=99999999999) (hm:m=la-n+1) (dT:0<vs.getD (n-1) 0) {s U0:Nat}:
  ∀k st,(∃(j:Nat) (us qs:List Nat),aV [9,10,11,12,13,14] st=⟨[(9,aa s),(10,w),(11,.ay 0 0 (la+1)),(12,aa n),(13,.ay 1 0 m),(14,aa ((j:Int)-1))],H2 qs us,2,0⟩/\j=k/\j<=m/\us.length=la+1/\qs.length=m/\lo 18446744073709551616 us/\lo 18446744073709551616 qs/\(∀i,i<j->qs.getD i 0=0)/\
    bv 18446744073709551616 us+bv 18446744073709551616 qs*bv 18446744073709551616 vs=U0/\bv 18446744073709551616 (us.drop j)<bv 18446744073709551616 vs)->
   ∃ex st',D P L (.loop [9,10,11,12,13,14] ET) st=some (ex,st')/\∃tm us qs,st'=⟨tm,H2 qs us,2,0⟩/\ex= .exit 2/\ah tm 9=aa s/\ah tm 11= .ay 0 0 (la+1)/\ah tm 12=aa n/\ah tm 13= .ay 1 0 m/\us.length=la+1/\qs.length=m/\lo 18446744073709551616 us/\lo 18446744073709551616 qs/\
    bv 18446744073709551616 us+bv 18446744073709551616 qs*bv 18446744073709551616 vs=U0/\bv 18446744073709551616 us<bv 18446744073709551616 vs:=by
 intro dq sq;generalize bz:aV [9,10,11,12,13,14] sq=s0;revert bz s0 sq dq;apply eb;rintro k st ⟨j,us,qs,rfl,rfl,hj,lu,lq,gu,gq,hz,aI,lQ⟩
 cases j with
 | zero=>
  right
  simp only [go_sem,ya,ET,H2,show ¬(0:Int)<=((0:Nat):Int)-1 by omega];exact ⟨_,_,rfl,by simp,_,us,qs,rfl,rfl,by simp only [go_sem,ya],by simp only [go_sem,ya],by simp only [go_sem,ya],by simp only [go_sem,ya],lu,lq,gu,gq,aI,by simpa using lQ⟩
 | succ j=>
  left
  have dl:(0:Nat)<18446744073709551616:=by decide
  obtain ⟨pre,dw⟩:∃p,p=us.take j:=⟨_,rfl⟩;obtain ⟨x,hx⟩:∃p,p=(us.drop j).take (n+1):=⟨_,rfl⟩;obtain ⟨post,eC⟩:∃p,p=us.drop (j+(n+1)):=⟨_,rfl⟩;have lp:pre.length=j:=by rw [dw,yQ];omega
  have lx:x.length=n+1:=by rw [hx,yQ,xJ];omega
  have iK:us=pre++x++post:=by
   rw [dw,hx,eC,<-vh,xn,xI,xI]
  have gx:lo 18446744073709551616 x:=by rw [hx];exact rN (Ug gu _) _
  have Oj:lo 18446744073709551616 pre:=by rw [dw];exact rN gu _
  have alR:lo 18446744073709551616 post:=by rw [eC];exact Ug gu _
  have hA:bv 18446744073709551616 (us.drop j)=us.getD j 0+18446744073709551616*bv 18446744073709551616 (us.drop (j+1)):=IL (by omega);have hgj:=fy dl gu j;have PT:us.drop j=x++post:=by rw [eC,hx,<-vh,xI]
  have rh:bv 18446744073709551616 (us.drop j)=bv 18446744073709551616 x+18446744073709551616^(n+1)*bv 18446744073709551616 post:=by rw [PT,n9,lx]
  have G3:=jZ gv;rw [lv] at G3;have aO:bv 18446744073709551616 (us.drop j)<18446744073709551616*bv 18446744073709551616 vs:=by omega
  have hp0:bv 18446744073709551616 post=0:=by
   rcases xj (bv 18446744073709551616 post) with e | e
   ·exact e
   ·have h1:=yO (18446744073709551616^(n+1)) e;rw [yo,y9] at h1;rw [y9] at rh;omega
  rw [hp0,xz,yX] at rh;have hl:fE x vs n (vs.getD (n-1) 0) (vs.getD (n-2) 0) (x.getD n 0) (x.getD (n-1) 0) (x.getD (n-2) 0):=
   ⟨da,by omega,lx,lv,gx,gv,rfl,rfl,rfl,rfl,rfl,dT,by rw [<-rh];exact aO⟩
  have J3:=hl.digit;obtain ⟨x',e1,PU,KS,G6⟩:=ana h hw hl (pre:=pre) (post:=post) (qs:=qs);rw [lp,<-iK] at e1;have PV:bv 18446744073709551616 us=bv 18446744073709551616 pre+18446744073709551616^j*bv 18446744073709551616 x:=by
   have:=Er (b:=18446744073709551616) us j (by omega)
   rw [rh,<-dw] at this;exact this
  have Ok:bv 18446744073709551616 (pre++x'++post)=bv 18446744073709551616 pre+18446744073709551616^j*bv 18446744073709551616 x':=by
   rw [xn,n9,n9,hp0,xz,yX,lp]
  have a6:=lG (b:=18446744073709551616) (l:=qs) (i:=j) (x:=bv 18446744073709551616 x/bv 18446744073709551616 vs) (by omega);rw [hz j (by omega),xz,yX] at a6;have gM:=Sv (b:=0) PV aI;have aP:=fun (hp:Hp) (ct:Nat)=>iY (hp:=hp) (ct:=ct) (id:=1) (v:=bv 18446744073709551616 x/bv 18446744073709551616 vs) (ex:=true) (l:=qs) (o:=j) (by omega)
  have nW:0<bv 18446744073709551616 vs:=by omega
  have oL:=xq (bv 18446744073709551616 x) nW;have jL:∀tm (x y:X),cL tm 0 (some x)=some j->cL tm (la+1) (some y)=some (j+n+1)->eB (H2 qs us) (.sl 1) (.ay 0 0 (la+1)) tm (some x) (some y)=some (.ay 0 j (n+1)):=fun tm x y h1 h2=>by
   rw [aha (cs:=us.map uc) (pu:=true) (ex:=true) rfl h1 h2 (by omega) (by omega),show j+n+1-j=n+1 by omega]
  simp only [go_sem,ya,yo,ET,H2,show ((j+1:Nat):Int)-1=(j:Int) by omega,show (0:Int)<=(j:Int) by omega,show (j:Int)+(n:Int)=((j+n:Nat):Int) from rfl,wrapN (n:=j+n) (by omega),show ((j+n:Nat):Int)+1=((j+n+1:Nat):Int) from rfl,wrapN (n:=j+n+1) (by omega),jL,c7,V6,e1,cK 1 0 (show j<m by omega),yj,aP];refine ⟨_,j,rfl,by omega,j,pre++x'++post,qs.set j (bv 18446744073709551616 x/bv 18446744073709551616 vs),?_,rfl,by omega,by rw [mC,lp,PU,eC,xJ];omega,by simp [lq],H4.2 ⟨H4.2 ⟨Oj,KS⟩,alR⟩,jW gq J3,fun i hi=>by rw [mA (by omega)];exact hz i (by omega),?_,?_⟩
  ·rw [wrap64 (by omega) (by omega)];simp only [go_sem,ya,yc,aA,aB hw.pu,aE _ hw.pu]<;>rfl
  ·rw [Ok,G6,a6];exact gM
  ·rw [xn,List.drop_left' lp,n9,hp0,xz,yX,G6];exact oL
def alS {l:List Nat} {n:Nat} (h:l.length=n+1):18446744073709551616^n*l.getD n 0<=bv 18446744073709551616 l:=by
 have:=gZ (b:=18446744073709551616) (l:=l) n
 grind
def lR {m K:Nat} {l:List Nat} (hn:fo l) (hv:bv 18446744073709551616 l=m) (h:m<18446744073709551616^K):l.length<=K:=acg (b:=18446744073709551616) (by decide) hn (by rw [hv];exact h)
def aka (h:Wd P L) {v w:AV} {x:List Nat} {d:Nat} (hv:bw v x) (hw:bw w [d]) (gx:lo 18446744073709551616 x) (lx:x.length<=90000000000) (fU:0<d) (PS:d<18446744073709551616) (ec:ai P L 158 [v,w] (aa (df (bv 18446744073709551616 x) d))) (hc:d<=bv 18446744073709551616 x):
  ∃q r,ai P L 137 [v,w] (.av [q,r])/\WN q (bv 18446744073709551616 x/d)/\WN r (bv 18446744073709551616 x%d):=by
 have dE:¬df (bv 18446744073709551616 x) d<0:=by unfold df;rw [yE (by omega)];split<;>decide
 obtain ⟨n,hn⟩:∃n,n=x.length:=⟨_,rfl⟩;have main:∃r l,(∀c:Nat->AV->AV->Option AV,True)/\r<d/\l.length=n/\lo 18446744073709551616 l/\bv 18446744073709551616 x=bv 18446744073709551616 l*d+r/\
   ∃q1 r1,bw q1 (dt l)/\bw r1 (dt [r])/\ai P L 137 [v,w] (.av [q1,r1]):=by
  unfold ai;rw [aK h.Oh]
  simp only [go_sem,ya,FH,hv.len,hv.ak,hw.len,hw.ak,ec,dE,yH,yM,yj,show ((1:Nat):Int)=(1:Int) from rfl,<-hn,AL (n:=n) _ (by omega)];generalize hq:D P L (.loop [0,1,6,7,8] ES) _=q;obtain ⟨ex,s,rfl,tm,r,l,rfl,rfl,t6,t7,pc,aY,hr,aI⟩:=bP hq (aj7 (P:=P) (L:=L) h hv gx (by omega) hw fU PS hn n) ⟨n,0,[],by
   rw [wrap64 (by omega) (by omega),wD]
   simp only [go_sem,ya,yc,aA,aB hv.pu,aE _ hv.pu,aB hw.pu,aE _ hw.pu]<;>rfl,rfl,rfl,IZ,fU,by rw [List.drop_eq_nil_of_le (by omega)];simp [bv]⟩
  have hf:=kE true l;rw [pc] at hf;obtain ⟨q1,e1,eD⟩:=sK h.ki hf (by omega);obtain ⟨r1,e2,dC⟩:=sK h.ki (kE true [r]) (by simp);simp only [yH,yM,yj,List.map_cons,List.map_nil] at e2;refine ⟨r,l,fun _=>trivial,hr,pc,aY,aI,q1,r1,eD,dC,?_⟩
  simp only [go_sem,ya,yc,Nat.reduceLT,yt,yo,aA,t6,t7,sJ _ (n:=n) (l:=l) pc true,e1,eD.shut,e2,dC.shut];exact M3 eD dC _
 obtain ⟨r,l,_,hr,pc,aY,aI,q1,r1,eD,dC,e⟩:=main;have hq:bv 18446744073709551616 l=bv 18446744073709551616 x/d:=by
  rw [aI,xv,yao fU,wa hr,yX]
 have hm:r=bv 18446744073709551616 x%d:=by
  rw [aI,xv,yap,yN hr]
 exact ⟨q1,r1,e,⟨_,eD,rI aY,rH _,by rw [rG,hq]⟩,⟨_,dC,rI (BX.2 (by omega)),rH _,by rw [rG,rX,hm]⟩⟩
def akb (h:Wd P L) {v w:AV} {x y:List Nat} (hv:bw v x) (hw:bw w y) (gx:lo 18446744073709551616 x) (gy:lo 18446744073709551616 y) (nx:fo x) (ny:fo y) (lx:x.length<=90000000000) (ly:2<=y.length) (ec:ai P L 158 [v,w] (aa (df (bv 18446744073709551616 x) (bv 18446744073709551616 y)))) (hc:bv 18446744073709551616 y<=bv 18446744073709551616 x):
  ∃q r,ai P L 137 [v,w] (.av [q,r])/\WN q (bv 18446744073709551616 x/bv 18446744073709551616 y)/\WN r (bv 18446744073709551616 x%bv 18446744073709551616 y):=by
 have dl:(0:Nat)<18446744073709551616:=by decide
 have dE:¬df (bv 18446744073709551616 x) (bv 18446744073709551616 y)<0:=by unfold df;rw [yE (by omega)];split<;>decide
 have hyx:y.length<=x.length:=by
  by_cases hh:x.length<y.length
  ·have:=IE (b:=18446744073709551616) (by decide) gx ny hh;omega
  ·omega
 obtain ⟨n,hn⟩:∃n,n=y.length:=⟨_,rfl⟩;obtain ⟨la,G5⟩:∃la,la=x.length:=⟨_,rfl⟩;have nH:=Ik ny (fun e=>by subst e;simp at ly);have Bg:=fy dl gy (y.length-1);have PW:=hw.bt (i:=y.length-1) (by omega);have iB:=alS (l:=y) (n:=n-1) (by omega);rw [<-hn] at nH Bg PW;obtain ⟨top,lQ⟩:∃top,y.getD (n-1) 0=top:=⟨_,rfl⟩;rw [lQ] at nH Bg PW iB;have elz:=US (P:=P) (f:=D P L) h.Ga Bg;obtain ⟨z1,z2,z3⟩:=Ml (tO nH) Bg;generalize 64-dI 64 top=s at*
 obtain ⟨ov,ev,lov,gov,vov⟩:=WX h.W2 hw gy (by omega) z1;obtain ⟨ou,eu,Zd,gou,Ze⟩:=WX h.W2 hv gx (by omega) z1;obtain ⟨v',PX,dN⟩:=sK h.ki (kE true ov) (by omega);rw [lov,<-hn] at PX;rw [<-hn] at ev;rw [<-G5] at eu Zd;have gR:=Nat.two_pow_pos s;obtain ⟨vs,qP⟩:∃vs,vs=dt ov:=⟨_,rfl⟩;rw [<-qP] at dN;have Bh:lo 18446744073709551616 vs:=by rw [qP];exact rI gov
 have G7:fo vs:=by rw [qP];exact rH _
 have pw:bv 18446744073709551616 vs=bv 18446744073709551616 y*2^s:=by rw [qP,rG,vov]
 have hyW:bv 18446744073709551616 y*2^s<18446744073709551616^n:=by
  have e:18446744073709551616=2^(64-s)*2^s:=by rw [<-wi,show 64-s+s=64 by omega]
  have e1:=gZ (b:=18446744073709551616) (l:=y) (n-1);rw [show n-1+1=n by omega,yD (by omega),lQ] at e1;have e2:=jZ (rN gy (n-1));rw [yQ,Nat.min_eq_left (by omega)] at e2;have e3:top<2^(64-s):=Nat.lt_of_mul_lt_mul_right (a:=2^s) (Nat.lt_of_lt_of_eq z3 e);have e4:=yS (2^s) (show top+1<=2^(64-s) from e3);rw [<-e] at e4;have e5:bv 18446744073709551616 y<18446744073709551616^(n-1)*(top+1):=by rw [xt,yo];omega
  have e6:=wz e5 gR;rw [xf] at e6;have e7:=yO (18446744073709551616^(n-1)) e4;rw [<-y9,show (n-1).succ=n by omega] at e7;exact yR e6 e7
 have anb:18446744073709551616^(n-1)*2^s<=bv 18446744073709551616 vs:=by
  rw [pw];refine yS _ (xi ?_ iB)
  have:=yO (18446744073709551616^(n-1)) (show 1<=top by omega)
  omega
 have ri:vs.length=n:=by
  have h1:vs.length<=n:=by
   refine lR G7 pw ?_;exact hyW
  have h2:¬vs.length<n:=fun hh=>by
   have e1:=jZ Bh;have e2:18446744073709551616^vs.length<=18446744073709551616^(n-1):=xA dl (by omega);have e3:=yS (2^s) iB;rw [xf,<-pw] at e3;have e4:=yO (18446744073709551616^(n-1)) (show 1<=top*2^s by omega);omega
  omega
 have dT:0<vs.getD (n-1) 0:=by
  have:=Ik G7 (fun e=>by rw [e] at ri;simp at ri;omega)
  rw [ri] at this;exact tO this
 obtain ⟨m,hm⟩:∃m,m=la-n+1:=⟨_,rfl⟩;have NC:bv 18446744073709551616 (ou.drop m)<bv 18446744073709551616 vs:=by
  have e1:=Er (b:=18446744073709551616) ou m (by omega);have e2:=jZ gx;rw [<-G5] at e2;have e3:=wz e2 gR;rw [<-Ze] at e3;have e4:18446744073709551616^la=18446744073709551616^m*18446744073709551616^(n-1):=by rw [<-wi];congr 1;omega
  rw [e4,xf] at e3;have e5:18446744073709551616^m*bv 18446744073709551616 (ou.drop m)<18446744073709551616^m*(18446744073709551616^(n-1)*2^s):=by omega
  exact yR (Nat.lt_of_mul_lt_mul_left e5) anb
 have e1y:(y.length:Int)-1=((n-1:Nat):Int):=by omega
 have anc:((la:Nat):Int)-(n:Int)=((m-1:Nat):Int):=by omega
 have gN:∃tm us qs rs,(us.length=la+1/\qs.length=m/\lo 18446744073709551616 us/\lo 18446744073709551616 qs/\bv 18446744073709551616 us+bv 18446744073709551616 qs*bv 18446744073709551616 vs=bv 18446744073709551616 x*2^s/\bv 18446744073709551616 us<bv 18446744073709551616 vs/\
   rs.length=n/\lo 18446744073709551616 rs/\bv 18446744073709551616 rs*2^s+us.getD 0 0%2^s=bv 18446744073709551616 (us.take n)+18446744073709551616^n*(us.getD n 0%2^s))/\ah tm 0=v/\
   ∃q1 r1,bw q1 (dt qs)/\bw r1 (dt rs)/\ai P L 137 [v,w] (.av [q1,r1]):=by
  unfold ai at ec ev eu PX;unfold ai;rw [aK h.Oh];have X7:=sJ (n:=n+1) (l:=ov) (hp:=[]) (by omega) true
  simp only [go_sem,ya,yc,FH,hv.len,hv.ak,hw.len,hw.ak,ec,dE,show ¬(y.length:Int)=1 by omega,e1y,wrapN (n:=n-1) (by omega),PW,elz,ev,alQ,sJ _ (n:=n+1) (l:=ov) (by omega) true,PX,dN.len,dN.shut,eu,ri,<-G5,anc,wrapN (n:=m-1) (by omega),show ((m-1:Nat):Int)+1=(m:Int) by omega,wrapN (n:=m) (by omega),AL (n:=m) _ (by omega)];generalize kz:D P L (.loop [9,10,11,12,13,14] ET) _=qq;obtain ⟨ex,st,rfl,tm,us,qs,rfl,rfl,t9,t11,t12,t13,KT,KU,CZ,PY,aI,aO⟩:=bP kz (aj9 (P:=P) (L:=L) h dN Bh ri (by omega) (by omega) (by omega) hm dT (s:=s) (U0:=bv 18446744073709551616 x*2^s) m) ⟨m,ou,List.replicate m 0,by
   rw [show ((m-1:Nat):Int)=(m:Int)-1 by omega]
   simp only [go_sem,ya,yc,aA,aB dN.pu,aE _ dN.pu]<;>rfl,rfl,Nat.le_refl _,Zd,by simp,gou,BY dl m,fun i _=>zT m i,by rw [BZ,Nat.zero_mul,yX,Ze],NC⟩
  simp only [go_sem,ya,yc,aA,t9,t11,t12,t13];generalize AN:D P L (.loop [9,11,12,13,96,97] BP) _=PO;obtain ⟨ex,st,rfl,oP,rs,rfl,rfl,t11,t12,t13,PZ,P0,J4⟩:=bP AN (aj8 (P:=P) (L:=L) (qs:=qs) (m:=m) (la:=la+1) (n:=n) z1 KT CZ (by omega) (by omega) n) ⟨0,[],by simp only [go_sem,ya,yc,aA]<;>rfl,by omega,rfl,IZ,by simp [bv]⟩
  have jL:∀(hp:Hp) tm (y:X),ap hp 0=some (.cells true true true 1 ((rs++us.drop n).map uc))->cL tm (la+1) (some y)=some n->eB hp (.sl 1) (.ay 0 0 (la+1)) tm none (some y)=some (.ay 0 0 n):=fun hp tm y h1 h2=>Tl h1 h2 (by omega) (by omega)
  have G8:=kE true qs;rw [KU] at G8;obtain ⟨q1,f1,eD⟩:=sK h.ki G8 (by omega);have dQ:(rs++us.drop n).take n=rs:=by rw [List.take_append_of_le_length (by omega),yD (by omega)]
  have G9:∃e,∀hp:Hp,jK 0 n (some (true,1,(rs++us.drop n).map uc,hp))=some (.aq e n (rs.map uc),hp):=by
   refine ⟨true&&yF 0 1&&ym n ((rs++us.drop n).map uc).length,fun hp=>?_⟩;simp only [jK,yj,yo,slice,yy,<-List.map_take,dQ];rw [yu (by simp;omega)];rfl
  obtain ⟨e,G9⟩:=G9;have fG:=kE e rs;rw [PZ] at fG;obtain ⟨r1,f2,dC⟩:=sK h.ki fG (by omega);unfold ai at f1 f2;refine ⟨[(0,v)],us,qs,rs,⟨KT,KU,CZ,PY,aI,aO,PZ,P0,J4⟩,rfl,q1,r1,eD,dC,?_⟩
  simp only [go_sem,ya,yc,aA,t11,t12,t13,sJ _ (n:=m) (l:=qs) KU true,f1,eD.shut,jL,c7,G9,f2,dC.shut];exact M3 eD dC _
 obtain ⟨tm,us,qs,rs,⟨KT,KU,CZ,PY,aI,aO,PZ,P0,J4⟩,_,q1,r1,eD,dC,e⟩:=gN;have iF:0<bv 18446744073709551616 y:=by
  have:=yO (18446744073709551616^(n-1)) (show 1<=top by omega)
  have:=Nat.pow_pos (n:=n-1) dl
  omega
 rw [pw] at aI aO;have Gb:bv 18446744073709551616 qs=bv 18446744073709551616 x/bv 18446744073709551616 y:=by
  rw [<-Nat.mul_div_mul_right _ _ gR,<-aI,yag,xv,yao (Nat.mul_pos iF gR),wa aO,yX]
 have KV:bv 18446744073709551616 us=(bv 18446744073709551616 x%bv 18446744073709551616 y)*2^s:=by
  rw [<-Nat.mul_mod_mul_right,<-aI,yag,xv (bv _ qs),yap,yN aO]
 have iK:=Er (b:=18446744073709551616) us n (by omega);have fU:bv 18446744073709551616 (us.drop n)=0:=by
  rcases xj (bv 18446744073709551616 (us.drop n)) with h0 | h0
  ·exact h0
  ·have:=yO (18446744073709551616^n) h0
   omega
 have hun:us.getD n 0=0:=by
  have:=IL (b:=18446744073709551616) (l:=us) (i:=n) (by omega)
  omega
 rw [fU,xz,yX] at iK;have zj:us.getD 0 0%2^s=0:=by
  have e1:=IL (b:=18446744073709551616) (l:=us) (i:=0) (by omega);rw [yy,KV] at e1;have e2:18446744073709551616=2^s*2^(64-s):=by rw [<-wi,show s+(64-s)=64 by omega]
  have e3:(us.getD 0 0+18446744073709551616*bv 18446744073709551616 (us.drop (0+1)))%2^s=us.getD 0 0%2^s:=by
   conv=>lhs;rw [e2,xf]
   exact Nat.add_mul_mod_self_left _ _ _
  rw [<-e3,<-e1,Nat.mul_mod_left]
 rw [hun,zj,Nat.zero_mod,xz,yX,yX,<-iK,KV] at J4;have V7:bv 18446744073709551616 rs=bv 18446744073709551616 x%bv 18446744073709551616 y:=Nat.eq_of_mul_eq_mul_right gR J4;exact ⟨q1,r1,e,⟨_,eD,rI PY,rH _,by rw [rG,Gb]⟩,⟨_,dC,rI P0,rH _,by rw [rG,V7]⟩⟩
def W5 (h:Wd P L) {v w:AV} {a b K:Nat} (hv:WN v a) (hw:WN w b) (hb:0<b) (ha:a<18446744073709551616^K) (hbK:b<18446744073709551616^K) (hK:K<=90000000000):
  ∃q r,ai P L 137 [v,w] (.av [q,r])/\WN q (a/b)/\WN r (a%b):=by
 obtain ⟨x,C0,gx,nx,vx⟩:=hv;obtain ⟨y,KW,gy,ny,vy⟩:=hw;have lx:x.length<=90000000000:=xi (lR nx vx ha) hK;have ly:y.length<=90000000000:=xi (lR ny vy hbK) hK;have ec:=WS h.W3 C0 KW gx gy nx ny (by omega) (by omega);subst vx;subst vy;by_cases hc:bv 18446744073709551616 x<bv 18446744073709551616 y
 ·have dE:df (bv 18446744073709551616 x) (bv 18446744073709551616 y)= -1:=by unfold df;rw [yT hc]
  rw [dE] at ec;refine ⟨.af,v,?_,⟨[],pI,IZ,rfl,by rw [wa hc];rfl⟩,⟨x,C0,gx,nx,by rw [yN hc]⟩⟩
  unfold ai;rw [aK h.Oh];simp only [go_sem,ya,FH,C0.ak,KW.ak,ec,show (-1:Int)<0 by decide];exact M3 pI C0 _
 ·rcases (show y.length=0\/y.length=1\/2<=y.length by omega) with h0 | h1 | h2
  ·rw [List.eq_nil_of_length_eq_zero h0] at hb;simp [bv] at hb
  ·obtain ⟨d,rfl⟩:∃d,y=[d]:=by
    cases y with
    | nil=>simp at h1
    | cons d r=>cases r with
     | nil=>exact ⟨d,rfl⟩
     | cons e r=>simp at h1
   exact aka h C0 KW gx lx hb (BX.1 gy) ec (by omega)
  ·exact akb h C0 KW gx gy nx ny lx h2 ec (by omega)
end
def iZ (v:AV) (n:Int):Prop:=∃w l,v= .agg [.bool (decide (n<0)),w]/\bg w l/\dg l/\nz l/\dv l=n.natAbs
def hJ {l:List Int} {k:Nat} (hd:dg l) (hn:nz l) (h:dv l<1000000000^k):l.length<=k:=by
 by_cases h0:l=[]
 ·grind
 ·have h1:=Jg hn hd h0;have h2:1000000000^(l.length-1)<1000000000^k:=xU h1 h;have h3:=(Nat.pow_lt_pow_iff_right (show 1<1000000000 by decide)).1 h2;omega
def eQ {hp:Hp} {ct id:Nat} {a b x y:AV} (h1:cw a=true) (h2:cw b=true) (p1:aX a=true) (p2:aX b=true):
  ie hp ct id 0 2 [a,b] (some (.cells true true true 2 [x,y]))=some (.av [],a6 hp id (.cells true true true 2 [a,b]),ct):=by
 rw [B6 (by rfl) (by simp) (by simp [cd,h1,h2])];simp [aC,p1,p2,over]
section
variable {P:aR} {L:Lib}
def b5 (neg:Bool) (m:Nat):Int:=if neg=true then -(m:Int) else m
def qC (h:Has P L 294 sD) (cC:Has P L 300 jI) (neg:Bool) {v:AV} {l:List Int} (hv:bg v l) (hd:dg l) (hl:l.length<=20000000000):
  ∃r,ai P L 294 [.bool neg,v] r/\iZ r (b5 neg (dv l)):=by
 obtain ⟨w,e1,hw,iG⟩:=sI cC hv hl;have nk:=pH l;have zp:=BG l;have lf:=rF hd;have hc:(neg&&decide ((0:Int)<((dn l).length:Nat)))=decide (b5 neg (dv l)<0):=by
  unfold b5
  cases neg with
  | false=>simp
  | true=>
   simp only [wB,xm];by_cases h0:dn l=[]
   ·rw [h0] at nk ⊢;simp only [dv] at nk;simp [<-nk]
   ·have h1:0<(dn l).length:=uA.2 h0;have h2:0<dv l:=by
     rw [<-nk];rcases xj (dv (dn l)) with h | h
     ·exact absurd (Ue zp lf h) h0
     ·exact h
    rw [xo (by omega),xo (by omega)]
 refine ⟨.agg [.bool (decide (b5 neg (dv l)<0)),w],?_,w,dn l,rfl,hw,lf,zp,?_⟩
 ·rw [<-hc];unfold ai at e1 ⊢;rw [aK h]
  cases neg with
  | false=>
   simp only [go_sem,ya,yc,yt,sD,aZ,hv.ak,e1,hw.pu,hw.shut,hw.one,hw.cells,eQ];rcases hw with ⟨rfl,_⟩ | ⟨e,rfl⟩<;>rfl
  | true=>
   simp only [go_sem,ya,yc,yt,sD,aZ,hv.ak,e1,hw.len,hw.pu,hw.shut,hw.one,hw.cells,eQ];rcases hw with ⟨rfl,_⟩ | ⟨e,rfl⟩<;>rfl
 ·rw [nk];unfold b5;split<;>omega
def W6 (h:Has P L 298 JQ) (iQ:Has P L 294 sD) (cC:Has P L 300 jI) {v:AV} {n:Int} {K:Nat} (hK:K<=20000000000) (hv:iZ v n) (hn:n.natAbs<1000000000^K):∃r,ai P L 298 [v] r/\iZ r (-n):=by
 obtain ⟨w,l,rfl,hw,hd,hz,nk⟩:=hv;obtain ⟨r,e1,hr⟩:=qC iQ cC (!decide (n<0)) hw hd (xi (hJ hd hz (by rw [nk];exact hn)) hK)
 have e:b5 (!decide (n<0)) (dv l)= -n:=by
  rw [nk];unfold b5;by_cases h0:n<0
  ·simp [h0];omega
  ·simp [h0];omega
 rw [e] at hr;obtain ⟨w2,l2,rfl,fJ,ig,gP,qD⟩:=hr;refine ⟨_,?_,w2,l2,rfl,fJ,ig,gP,qD⟩;unfold ai at e1 ⊢;rw [aK h];simp only [go_sem,ya,yc,JQ,aZ,hw.pu,hw.ak,hw.one,fJ.pu,fJ.one,bL,yj,cB,e1,eQ,bN];rcases fJ with ⟨rfl,_⟩ | ⟨e,rfl⟩<;>rfl
end
def cU (s:Int) (w:AV) (z:Int):Prop:=
 (w= .af/\s=z/\-9223372036854775808<=z/\z<9223372036854775808)\/
 (∃e l,w= .aq e l.length (l.map uc)/\lo 18446744073709551616 l/\fo l/\bv 18446744073709551616 l=z.natAbs/\s=(if z<0 then -1 else 1)/\9223372036854775808<=z.natAbs)
def b7 (v:AV) (z:Int):Prop:=∃s w,v= .agg [aa s,w]/\cU s w z
def Bd (k:Nat) (z:Int):Prop:=z.natAbs<2^k
def rY (k:Nat):2^k<=18446744073709551616^k:=uH (by decide) k
def Bd.mono {k m:Nat} {z:Int} (h:Bd k z) (hk:k<=m):Bd m z:=yR h (xA (by decide) hk)
def Bd.neg {k:Nat} {z:Int} (h:Bd k z):Bd k (-z):=by unfold Bd at h ⊢;rwa [Int.natAbs_neg]
def Bd.add {k m:Nat} {a b:Int} (ha:Bd k a) (hb:Bd m b):Bd (max k m+1) (a+b):=by
 have h1:Bd (max k m) a:=ha.mono (by omega);have h2:Bd (max k m) b:=hb.mono (by omega);unfold Bd at h1 h2 ⊢
 grind
def Bd.mul {k m:Nat} {a b:Int} (ha:Bd k a) (hb:Bd m b):Bd (k+m) (a*b):=by
 unfold Bd at*
 rw [Int.natAbs_mul,wi];exact yad ha hb
def Bd.le {k:Nat} {a b:Int} (hb:Bd k b) (h:a.natAbs<=b.natAbs):Bd k a:=xU h hb
def WN.pos {v:AV} {m:Nat} (h:WN v m) (h0:0<m):∃e l,v= .aq e l.length (l.map uc)/\l≠[]/\lo 18446744073709551616 l/\fo l/\bv 18446744073709551616 l=m:=by
 obtain ⟨l,hv,g,n,hb⟩:=h;have hl:l≠[]:=fun e=>by subst e;simp [bv] at hb;omega
 rcases hv with ⟨_,e⟩ | ⟨e,rfl⟩
 ·simp_all
 ·exact ⟨e,l,by simp,hl,g,n,hb⟩
def WN.aU {v:AV} {m:Nat} (h:WN v m):∃l,bw v l/\lo 18446744073709551616 l/\fo l/\bv 18446744073709551616 l=m:=h
def lH (e:Bool) (n:Nat) (cs:List AV):ib .sl (.aq e n cs) .af=some false:=rfl
def fA:ib .sl .af .af=some true:=rfl
def IM (hp:Hp) (ct id:Nat) (a:Int) (e:Bool) (n:Nat) (cs:List AV) (x y:AV):ie hp ct id 0 2 [.int .i64 a,.aq e n cs] (some (.cells true true true 2 [x,y]))=some (.av [],a6 hp id (.cells true true true 2 [.int .i64 a,.aq e n cs]),ct):=eQ rfl rfl rfl rfl
def od {tm:Env} {a x y:AV} {r:List (Nat×Nat×X)} (h:cw a=true):mK tm [x,y] 0 1 [a] r=fill tm [a,y] r:=Un (by simp) h
def cU.mr {z:Int} (h1: -9223372036854775808<=z) (h2:z<9223372036854775808):b7 (.agg [aa z,.af]) z:=⟨z,.af,rfl,.inl ⟨rfl,rfl,h1,h2⟩⟩
def cU.cF {s:Int} {w:AV} {z:Int} (h:cU s w z):(s<0↔z<0)/\(s=0↔z=0)/\-9223372036854775808<=s/\s<9223372036854775808:=by
 rcases h with ⟨_,rfl,h1,h2⟩ | ⟨e,l,_,_,_,_,rfl,h1⟩
 ·grind
 ·grind
section
variable {P:aR} {L:Lib}
structure Nu (P:aR) (L:Lib):Prop extends Wd P L where
 ane:Has P L 117 JA
 anf:Has P L 142 JC
 Ol:Has P L 136 FG
 Gc:Has P L 145 qt
 ang:Has P L 146 NZ
 Om:Has P L 147 FI
 W7:Has P L 163 JH
 anh:Has P L 118 AG
 W8:Has P L 119 c119
 ani:Has P L 156 N2
 J5:Has P L 100 j9
 On:Has P L 164 kh
 anj:Has P L 148 N1
 ank:Has P L 130 NY
def AO (h:Nu P L) {z:Int} (h1: -9223372036854775808<=z) (h2:z<9223372036854775808):ai P L 117 [aa z] (.agg [aa z,.af])/\b7 (.agg [aa z,.af]) z:=⟨n117 h.ane z,cU.mr h1 h2⟩
def Oo (h:Nu P L) {n:Int} (h1: -9223372036854775808<=n) (h2:n<9223372036854775808):ai P L 142 [aa n] (uc n.natAbs):=by
 unfold ai;rw [aK h.anf];by_cases h0:n<0
 ·have e:IntKind.wrap .u64 (IntKind.wrap .i64 (0-n))=(n.natAbs:Int):=by
   by_cases hm:n= -9223372036854775808
   ·subst hm;rfl
   ·rw [wrap64 (by omega) (by omega),Jk];omega
  simp only [go_sem,ya,JC,h0,UQ,e]
 ·have e:IntKind.wrap .u64 n=(n.natAbs:Int):=by rw [Jk];omega
  simp only [go_sem,ya,JC,h0,UQ,e]
def qF (h:Nu P L) {s:Int} {w:AV} {z:Int} (hz:cU s w z):∃r,ai P L 136 [.agg [aa s,w]] (.av [.bool (decide (z<0)),r])/\WN (bG r) z.natAbs:=by
 rcases hz with ⟨rfl,rfl,h1,h2⟩ | ⟨e,l,rfl,g,n,hb,hs,h1⟩
 ·by_cases h0:s=0
  ·subst h0;refine ⟨.af,?_,[],pI,IZ,rfl,rfl⟩;unfold ai;rw [aK h.Ol];simp only [go_sem,ya,yc,FG,aZ,bL,yj,cB,fA,Fa,yaZ];rfl
  ·have e1:=Oo h h1 h2;refine ⟨.cx true 1 1 [uc s.natAbs],?_,[s.natAbs],kE true [s.natAbs],BX.2 (by omega),Bu (by omega) [],rX _⟩;unfold ai;rw [aK h.Ol];simp only [go_sem,ya,yc,yt,yo,FG,aZ,bL,yj,cB,fA,Fa,h0,e1];rfl
 ·have qM:decide (s<0)=decide (z<0):=by rw [hs];split<;>simp<;>omega
  refine ⟨.aq e l.length (l.map uc),?_,l,kE e l,g,n,hb⟩;unfold ai;rw [aK h.Ol];simp only [go_sem,ya,yc,FG,aZ,bL,yj,cB,lH,Fa,qM];rfl
def Sw {d:Nat} (h:d<=9223372036854775807):IntKind.wrap .i64 (d:Int)=d:=wrapN (by omega)
def AP (h:Nu P L) (neg:Bool) {w:AV} {m K:Nat} (hw:WN w m) (hm:m<18446744073709551616^K) (hK:K<=90000000000):∃r,ai P L 145 [.bool neg,w] r/\b7 r (b5 neg m):=by
 obtain ⟨l,hu,g,n,hb⟩:=hw;have pc:l.length<=90000000000:=xi (lR n hb hm) hK;by_cases h0:l=[]
 ·subst h0
  have:m=0:=by rw [<-hb];rfl
  subst this;have e:b5 neg 0=0:=by unfold b5;cases neg<;>rfl
  rw [e];refine ⟨.agg [aa 0,.af],?_,cU.mr (by decide) (by decide)⟩;unfold ai;rw [aK h.Gc];simp only [go_sem,ya,yc,qt,aZ,hu.len,yM,show (((0:Nat):Nat):Int)=0 from rfl,ol];rfl
 ·have iT:0<l.length:=uA.2 h0;by_cases h1:l.length=1/\l.getD 0 0<=9223372036854775807
  ·obtain ⟨h1,h2⟩:=h1;obtain ⟨d,rfl⟩:∃d,l=[d]:=by
    cases l with
    | nil=>simp at h1
    | cons d r=>cases r with
     | nil=>exact ⟨d,rfl⟩
     | cons e r=>simp at h1
   have h2:d<=9223372036854775807:=h2;rw [rX] at hb;subst hb;have ex:=hu.bt (i:=0) (by simp);rw [show ([d]:List Nat).getD 0 0=d from rfl] at ex;have hlen:∀hp,gF hp 1 w=some (.int .i64 1):=fun hp=>hu.len
   cases neg with
   | true=>
    refine ⟨.agg [aa (0-(d:Int)),.af],?_,?_⟩
    ·unfold ai;rw [aK h.Gc]
     simp only [go_sem,ya,yc,yt,qt,aZ,hlen,uv,ex,show (d:Int)<=9223372036854775807 by omega,I1,Sw h2,wrap64 (n:=0-(d:Int)) (by omega) (by omega),ol];rfl
    ·have:b5 true d=0-(d:Int):=by unfold b5;simp
     rw [this];exact cU.mr (by omega) (by omega)
   | false=>
    refine ⟨.agg [aa (d:Int),.af],?_,?_⟩
    ·unfold ai;rw [aK h.Gc];simp only [go_sem,ya,yc,yt,qt,aZ,hlen,uv,ex,show (d:Int)<=9223372036854775807 by omega,I1,Sw h2,ol];rfl
    ·have:b5 false d=(d:Int):=by unfold b5;simp
     rw [this];exact cU.mr (by omega) (by omega)
  ·have Zf:9223372036854775808<=m:=by
    rw [<-hb];by_cases h2:l.length=1
    ·obtain ⟨d,rfl⟩:∃d,l=[d]:=by
      cases l with
      | nil=>simp at h2
      | cons d r=>cases r with
       | nil=>exact ⟨d,rfl⟩
       | cons e r=>simp at h2
     have:¬d<=9223372036854775807:=fun hd=>h1 ⟨h2,hd⟩
     rw [rX];omega
    ·have h3:=MZ (b:=18446744073709551616) (by decide) n h0;have h4:18446744073709551616^1<=18446744073709551616^(l.length-1):=xA (by decide) (by omega);rw [Nat.pow_one] at h4;omega
   have cZ:∃e,w= .aq e l.length (l.map uc):=by
    rcases hu with ⟨rfl,hh⟩ | ⟨e,rfl⟩
    ·simp at hh;exact absurd hh h0
    ·exact ⟨e,by simp⟩
   obtain ⟨e,rfl⟩:=cZ;have ex:=hu.bt (i:=0) iT;have first:(decide ((l.length:Int)=1)=true/\¬((l.getD 0 0:Nat):Int)<=9223372036854775807)\/decide ((l.length:Int)=1)=false:=by
    by_cases h2:l.length=1
    ·left;refine ⟨by simp;omega,fun hd=>h1 ⟨h2,by omega⟩⟩
    ·right;simp;omega
   cases neg with
   | true=>
    refine ⟨.agg [aa (-1),.aq e l.length (l.map uc)],?_,-1,_,rfl,.inr ⟨e,l,rfl,g,n,by rw [hb];unfold b5;simp,by unfold b5;simp;omega,by unfold b5;simp;omega⟩⟩
    unfold ai;rw [aK h.Gc];rcases first with ⟨f1,f2⟩ | f1
    ·simp only [go_sem,ya,yc,yt,qt,aZ,show ¬(l.length:Int)=0 by omega,f1,f2,ex,od,IM];rfl
    ·simp only [go_sem,ya,yc,yt,qt,aZ,show ¬(l.length:Int)=0 by omega,f1,od,IM];rfl
   | false=>
    refine ⟨.agg [aa 1,.aq e l.length (l.map uc)],?_,1,_,rfl,.inr ⟨e,l,rfl,g,n,by rw [hb];unfold b5;simp,by unfold b5;simp,by unfold b5;simp;omega⟩⟩
    unfold ai;rw [aK h.Gc];rcases first with ⟨f1,f2⟩ | f1
    ·simp only [go_sem,ya,yc,yt,qt,aZ,show ¬(l.length:Int)=0 by omega,f1,f2,ex,od,IM];rfl
    ·simp only [go_sem,ya,yc,yt,qt,aZ,show ¬(l.length:Int)=0 by omega,f1,od,IM];rfl
end
def bn:VC->VC
 | .seq a _=>a
 | c=>c
def ae9 {a b:Int} {x y:Nat} (ha:a.natAbs=x) (hb:b.natAbs=y) (h:decide (a<0)=decide (b<0)):b5 (decide (a<0)) (x+y)=a+b:=by
 unfold b5
 grind
def Tm {a b:Int} {m:Nat} (hm:m+b.natAbs=a.natAbs) (h:¬decide (a<0)=decide (b<0)):b5 (decide (a<0)) m=a+b:=by
 unfold b5
 grind
def afa {a:Int}:b5 (!decide (a<0)) a.natAbs= -a:=by
 unfold b5
 grind
def Tn {a b:Int}:b5 (decide (a<0) !=decide (b<0)) (a.natAbs*b.natAbs)=a*b:=by
 unfold b5
 grind
def kJ {s:Int} {w:AV} {l:List Nat} (h:bw w l) (hp:Hp):result hp (.agg [aa s,w])=some (.agg [aa s,w]):=by
 rcases h with ⟨rfl,_⟩ | ⟨e,rfl⟩<;>rfl
def du {s:Int} {w:AV} {l:List Nat} (h:bw w l) (hp:Hp) (ct id:Nat) (x y:AV):ie hp ct id 0 2 [.int .i64 s,w] (some (.cells true true true 2 [x,y]))=some (.av [],a6 hp id (.cells true true true 2 [.int .i64 s,w]),ct):=eQ rfl h.one rfl h.pu
def cU.aU {s:Int} {w:AV} {z:Int} (h:cU s w z):∃l,bw w l:=by
 rcases h with ⟨rfl,_⟩ | ⟨e,l,rfl,_⟩
 ·exact ⟨[],pI⟩
 ·exact ⟨l,kE e l⟩
def V8 (hp:Hp) (sz:Nat) (ag:Bool):AV->Option AV
 | .ptr id o=>KL sz ag o (ap hp id)
 | .bR cs=>fQ sz ag cs
 | _=>none
def ek (tm:Env) (hp:Hp) (ct base i sz:Nat) (ag:Bool):results1 ⟨tm,hp,ct,base⟩ (.cell i sz ag)=V8 hp sz ag (ah tm i):=by
 rfl
def er (hp:Hp) (sz:Nat) (ag:Bool) (id o:Nat):V8 hp sz ag (.ptr id o)=KL sz ag o (ap hp id):=rfl
section
variable {P:aR} {L:Lib}
def Gd (h:Nu P L) {v:AV} {z:Int} (hv:b7 v z):ai P L 146 [v] (aa (cF z)):=by
 obtain ⟨s,w,rfl,hn⟩:=hv;obtain ⟨l,hu⟩:=hn.aU;have e:cF s=cF z:=by
  obtain ⟨h1,h2,_⟩:=hn.cF;unfold cF;by_cases h0:z<0
  ·rw [yT h0,yT (h1.2 h0)]
  ·by_cases h3:z=0
   ·rw [yE (fun h=>h0 (h1.1 h)),yT (h2.2 h3),yE h0,yT h3]
   ·rw [yE (fun h=>h0 (h1.1 h)),yE (fun h=>h3 (h2.1 h)),yE h0,yE h3]
 unfold ai;rw [aK h.ang];simp only [go_sem,ya,yc,NZ,aZ,hu.pu,hu.one,bL,yj,UP,E9,Tg,Es,ajT,e]
def Cw (h:Nu P L) {v:AV} {z:Int} {K:Nat} (hv:b7 v z) (hz:Bd K z) (hK:K<=90000000000):∃r,ai P L 147 [v] r/\b7 r (-z):=by
 obtain ⟨s,w,rfl,hn⟩:=hv;obtain ⟨p,e1,hp⟩:=qF h hn;obtain ⟨lp,gj,_⟩:=hp.aU;obtain ⟨r,e2,hr⟩:=AP h (!decide (z<0)) hp (yR hz (rY K)) hK;rw [afa] at hr;have b9:=hr;obtain ⟨s',w',rfl,kv⟩:=hr;obtain ⟨l',gU⟩:=kv.aU;rcases hn with ⟨rfl,rfl,h1,h2⟩ | ⟨e,l0,rfl,g,n,hb,hs,h1⟩
 ·by_cases h0:s= -9223372036854775808
  ·refine ⟨_,?_,b9⟩;unfold ai;rw [aK h.Om];simp only [go_sem,ya,yc,FI,aZ,bL,yj,cB,fA,c8,h0];rw [h0] at e1 e2;simp only [go_sem,ya,bQ,bY,e1,e2,gj.ak,bN,ek,er,bQ,yy,kJ gU,du gU]
  ·refine ⟨.agg [aa (-s),.af],?_,cU.mr (by omega) (by omega)⟩;unfold ai;rw [aK h.Om]
   simp only [go_sem,ya,yc,FI,aZ,bL,yj,cB,fA,c8,h0,wrap64 (n:=0-s) (by omega) (by omega),ol,od];rw [Int.zero_sub];rfl
 ·refine ⟨_,?_,b9⟩;unfold ai;rw [aK h.Om];simp only [go_sem,ya,yc,FI,aZ,bL,yj,cB,lH,c8,bQ,bY,e1,e2,gj.ak,bN,ek,er,bQ,yy,kJ gU,du gU]
def W9 (h:Nu P L) {v:AV} {z:Int} {K:Nat} (hv:b7 v z) (hz:Bd K z) (hK:K<=90000000000):∃r,ai P L 163 [v] r/\b7 r (z.natAbs:Nat):=by
 have dN:=hv;obtain ⟨s,w,rfl,hn⟩:=hv;obtain ⟨l,hu⟩:=hn.aU;have C1:=hn.cF.1;by_cases h0:z<0
 ·obtain ⟨r,e1,hr⟩:=Cw h dN hz hK;rw [show -z=(z.natAbs:Int) by omega] at hr;have b9:=hr;obtain ⟨s',w',rfl,kv⟩:=hr;obtain ⟨l',gU⟩:=kv.aU;refine ⟨_,?_,b9⟩;unfold ai;rw [aK h.W7];simp only [go_sem,ya,yc,JH,aZ,hu.pu,hu.ak,hu.one,bL,yj,C1.2 h0,bQ,bY,e1,bN,ek,er,bQ,yy,kJ gU,du gU]
 ·rw [show ((z.natAbs:Nat):Int)=z by omega];refine ⟨_,?_,dN⟩;unfold ai;rw [aK h.W7];simp only [go_sem,ya,yc,JH,aZ,hu.pu,hu.one,bL,yj,show ¬s<0 from fun h=>h0 (C1.1 h),bQ,ek,er,bQ,yy,kJ hu,du hu]
def akc (h:Nu P L) {s1 s2:Int} {w1 w2:AV} {a b:Int} {K:Nat} (ha:cU s1 w1 a) (hb:cU s2 w2 b) (ka:Bd K a) (kb:Bd K b) (hK:K<=40000000000):
  ∃r,b7 r (a+b)/\∀tm,ah tm 2= .ptr 0 0->ah tm 3= .ptr 1 0->ah tm 4= .ptr 2 0->fg [.cell 4 2 true] (D P L (ax (ax c119.body)) ⟨tm,[(2,.cells true true true 2 [.int .i64 0,.af]),(1,.cells true true true 2 [aa s2,w2]),(0,.cells true true true 2 [aa s1,w1])],3,0⟩)=some r:=by
 obtain ⟨l1,u1⟩:=ha.aU;obtain ⟨l2,u2⟩:=hb.aU;obtain ⟨p,e1,hp⟩:=qF h ha;obtain ⟨q,e2,hq⟩:=qF h hb;obtain ⟨lp,gj,gp,np,vp⟩:=hp.aU;obtain ⟨lq,mi,gq,nq,vq⟩:=hq.aU;have zq:=yR ka (rY K);have C2:=yR kb (rY K);have llp:lp.length<=40000000000:=xi (lR np vp zq) hK;have llq:lq.length<=40000000000:=xi (lR nq vq C2) hK;by_cases hs:decide (a<0)=decide (b<0)
 ·obtain ⟨o,lc,e3,ho,kZ,no,vo⟩:=amV h.am5 h.ki h.fh gj mi gp gq (by omega) (by omega);obtain ⟨r,e4,hr⟩:=AP h (decide (a<0)) ⟨lc,ho,kZ,no,vo⟩ (K:=K+1) (by rw [vp,vq,y9];omega) (by omega);rw [ae9 vp.symm vq.symm hs] at hr;have b9:=hr;obtain ⟨s',w',rfl,kv⟩:=hr;obtain ⟨l',gU⟩:=kv.aU;refine ⟨_,b9,fun tm t2 t3 t4=>?_⟩;simp only [go_sem,ya,c119,ax,t2,t3,bQ,bY,u1.ak,u2.ak,e1,e2,gj.ak,mi.ak,c8,mL,hs,ub];rw [hs] at e4;simp only [go_sem,ya,t4,e3,ho.ak,ho.shut,e4,bN,ek,er,bQ,yy,kJ gU,du gU]
 ·have Ha:(decide (a<0)==decide (b<0))=false:=by simpa using hs
  have e3:=WS h.W3 gj mi gp gq np nq (by omega) (by omega);rw [vp,vq] at e3;by_cases hc:b.natAbs<=a.natAbs
  ·obtain ⟨o,lc,e4,ho,kZ,no,vo⟩:=WT h.W4 h.ki h.oJ gj mi gp gq nq (by omega) (by rw [vp,vq];exact hc)
   rw [vp,vq] at vo;obtain ⟨r,e5,hr⟩:=AP h (decide (a<0)) ⟨lc,ho,kZ,no,rfl⟩ (K:=K) (by omega) (by omega);rw [Tm vo hs] at hr;have b9:=hr;obtain ⟨s',w',rfl,kv⟩:=hr;obtain ⟨l',gU⟩:=kv.aU;have dE:(0:Int)<=df a.natAbs b.natAbs:=by unfold df;rw [yE (by omega)];split<;>decide
   refine ⟨_,b9,fun tm t2 t3 t4=>?_⟩;simp only [go_sem,ya,c119,ax,t2,t3,t4,bQ,bY,u1.ak,u2.ak,e1,e2,gj.ak,mi.ak,c8,mL,Ha,e3,dE,e4,ho.ak,ho.shut,e5,bN,ek,er,bQ,yy,kJ gU,du gU]
  ·obtain ⟨o,lc,e4,ho,kZ,no,vo⟩:=WT h.W4 h.ki h.oJ mi gj gq gp np (by omega) (by rw [vp,vq];omega);rw [vp,vq] at vo;obtain ⟨r,e5,hr⟩:=AP h (decide (b<0)) ⟨lc,ho,kZ,no,rfl⟩ (K:=K) (by omega) (by omega);rw [Tm vo (fun e=>hs e.symm),Int.add_comm] at hr;have b9:=hr;obtain ⟨s',w',rfl,kv⟩:=hr;obtain ⟨l',gU⟩:=kv.aU;have dE:¬(0:Int)<=df a.natAbs b.natAbs:=by unfold df;rw [yT (by omega)];decide
   refine ⟨_,b9,fun tm t2 t3 t4=>?_⟩;simp only [go_sem,ya,c119,ax,t2,t3,t4,bQ,bY,u1.ak,u2.ak,e1,e2,gj.ak,mi.ak,c8,mL,Ha,e3,dE,e4,ho.ak,ho.shut,e5,bN,ek,er,bQ,yy,kJ gU,du gU]
def Ge (h:Nu P L) {v w:AV} {a b:Int} {K:Nat} (hv:b7 v a) (hw:b7 w b) (ka:Bd K a) (kb:Bd K b) (hK:K<=40000000000):∃r,ai P L 119 [v,w] r/\b7 r (a+b):=by
 obtain ⟨s1,w1,rfl,h1⟩:=hv;obtain ⟨s2,w2,rfl,h2⟩:=hw;obtain ⟨l2,u2⟩:=h2.aU;obtain ⟨r,hr,tail⟩:=akc h h1 h2 ka kb hK;have fin:∀tm,ah tm 2= .ptr 0 0->ah tm 3= .ptr 1 0->ah tm 4= .ptr 2 0->
   D P L (.seq (bn c119.body) (bn (ax c119.body))) ⟨[(0,.agg [aa s1,w1]),(1,.agg [aa s2,w2])],[],0,0⟩=some (.normal,⟨tm,[(2,.cells true true true 2 [.int .i64 0,.af]),(1,.cells true true true 2 [aa s2,w2]),(0,.cells true true true 2 [aa s1,w1])],3,0⟩)->ai P L 119 [.agg [aa s1,w1],.agg [aa s2,w2]] r:=fun tm t2 t3 t4 e=>by
  unfold ai;rw [aK h.W8];show fg [.cell 4 2 true] (D P L (.seq (bn c119.body) (.seq (bn (ax c119.body)) (ax (ax c119.body)))) ⟨[(0,.agg [aa s1,w1]),(1,.agg [aa s2,w2])],[],0,0⟩)=_
  have e2:D P L (.seq (bn c119.body) (.seq (bn (ax c119.body)) (ax (ax c119.body)))) ⟨[(0,.agg [aa s1,w1]),(1,.agg [aa s2,w2])],[],0,0⟩=mJ P L (D P L (.seq (bn c119.body) (bn (ax c119.body))) ⟨[(0,.agg [aa s1,w1]),(1,.agg [aa s2,w2])],[],0,0⟩) (ax (ax c119.body)):=by
   rw [j0,j0]
   cases D P L (bn c119.body) ⟨[(0,.agg [aa s1,w1]),(1,.agg [aa s2,w2])],[],0,0⟩ with
   | none=>rfl
   | some q=>
    obtain ⟨ex,st⟩:=q
    cases ex with
    | normal=>rw [fL,fL,j0]
    | ret=>rfl
    | exit id=>rfl
  rw [e2,e,fL];exact tail tm t2 t3 t4
 rcases h1 with ⟨rfl,rfl,a1,a2⟩ | ⟨e,l,rfl,ga,na,va,sa,a1⟩
 ·rcases h2 with ⟨rfl,rfl,b1,b2⟩ | ⟨e,l,rfl,gb,nb,vb,sb,b1⟩
  ·by_cases fT: -9223372036854775808<=s1+s2/\s1+s2<9223372036854775808
   ·refine ⟨.agg [aa (s1+s2),.af],?_,cU.mr fT.1 fT.2⟩;have e:decide (s1<s1+s2)=decide (0<s2):=by
     by_cases h:0<s2
     ·simp only [h,yJ];exact xo (by omega)
     ·simp only [h,yG];exact xb (by omega)
    unfold ai;rw [aK h.W8]
    simp only [go_sem,ya,yc,c119,aZ,ol,fA,c8,mL,bL,yj,cB,wrap64 (n:=s1+s2) fT.1 fT.2,e,ub,od];rfl
   ·have e:(decide (s1<IntKind.wrap .i64 (s1+s2))==decide (0<s2))=false:=by
     have hw:(9223372036854775808<=s1+s2/\IntKind.wrap .i64 (s1+s2)=s1+s2-18446744073709551616)\/(s1+s2< -9223372036854775808/\IntKind.wrap .i64 (s1+s2)=s1+s2+18446744073709551616):=by
      simp only [IntKind.wrap,IntKind.bits,IntKind.signed,wB]
      split<;>rename_i h<;>simp at h<;>omega
     by_cases h0:0<s2
     ·rw [xo h0,xb (by omega)];rfl
     ·rw [xb h0,xo (by omega)];rfl
    refine ⟨r,fin _ ?_ ?_ ?_ (by simp only [go_sem,ya,yc,bn,ax,c119,aZ,fA,c8,mL,bL,yj,cB,e]<;>rfl),hr⟩<;>simp only [go_sem,ya]
  ·refine ⟨r,fin _ ?_ ?_ ?_ (by simp only [go_sem,ya,yc,bn,ax,c119,aZ,fA,lH,c8,bL,yj,cB]<;>rfl),hr⟩<;>simp only [go_sem,ya]
 ·refine ⟨r,fin _ ?_ ?_ ?_ (by simp only [go_sem,ya,yc,bn,ax,c119,aZ,u2.pu,u2.one,lH,c8,bL,yj,cB]<;>rfl),hr⟩<;>simp only [go_sem,ya]
end
def zO {P:aR} {L:Lib} (a b c:VC) (s:St):D P L (.seq a (.seq b c)) s=mJ P L (D P L (.seq a b) s) c:=by
 rw [j0,j0]
 cases D P L a s with
 | none=>rfl
 | some q=>
  obtain ⟨ex,st⟩:=q
  cases ex with
  | normal=>rw [fL,fL,j0]
  | ret=>rfl
  | exit id=>rfl
def UW {s s':Int} {w w':AV} {l l':List Nat} (h:bw w l) (h':bw w' l') (hp:Hp):result hp (.av [.agg [aa s,w],.agg [aa s',w']])=some (.av [.agg [aa s,w],.agg [aa s',w']]):=by
 rcases h with ⟨rfl,_⟩ | ⟨e,rfl⟩<;>rcases h' with ⟨rfl,_⟩ | ⟨e',rfl⟩<;>rfl
def J6 (tm:Env) (hp:Hp) (ct:Nat) (rs:List (Nat×Bool×Nat)) (sz:Nat) (p:AV) (new:List AV):fj:=match p with | .ptr id o=>bif jw tm id rs then ie hp ct id o sz new (ap hp id) else none | _=>none
def J7 (id:Nat):AV->Bool | .ptr j _=> !ym j id | .bR _=>true | _=>false
def M4 {P:aR} {L:Lib} (f:bZ) (tm:Env) (hp:Hp) (ct:Nat) (rs:List (Nat×Bool×Nat)) (sz:Nat) (x v:X):aW P L f tm hp ct (.iR rs sz x v)=J6 tm hp ct rs sz (ao tm x) (cellsOf (ao tm v)):=by
 simp only [aW,J6]
 cases hx:ao tm x with
 | ptr id o=>
  rw [Td,hx,VX]
 | _=>rfl
def M5 {tm:Env} {hp:Hp} {ct:Nat} {rs:List (Nat×Bool×Nat)} {sz id o:Nat} {new:List AV} (h:jw tm id rs=true):J6 tm hp ct rs sz (.ptr id o) new=ie hp ct id o sz new (ap hp id):=by
 simp only [J6,h,yp]
def MG (tm:Env) (id:Nat):jw tm id []=true:=(rfl)
def Mm (tm:Env) (id sz x:Nat) (ag:Bool) (r:List (Nat×Bool×Nat)):jw tm id ((sz,ag,x)::r)=(J7 id (ah tm x)&&jw tm id r):=by
 simp only [jw,J7]
 grind
def M6 {id j o:Nat} (h:j≠id):J7 id (.ptr j o)=true:=by simp only [J7,fM h,yY]
section
variable {P:aR} {L:Lib}
def Xa (h:Nu P L) {v w:AV} {a b:Int} {K:Nat} (hv:b7 v a) (hw:b7 w b) (ka:Bd K a) (kb:Bd K b) (hK:K<=40000000000):∃r,ai P L 156 [v,w] r/\b7 r (a-b):=by
 obtain ⟨n,e1,hn⟩:=Cw h hw kb (by omega);obtain ⟨r,e2,hr⟩:=Ge h hv hn ka kb.neg hK;have b9:=hr;obtain ⟨s1,w1,rfl,h1⟩:=hv;obtain ⟨s2,w2,rfl,h2⟩:=hw;obtain ⟨s3,w3,rfl,h3⟩:=hn;obtain ⟨s4,w4,rfl,h4⟩:=hr;obtain ⟨l1,u1⟩:=h1.aU;obtain ⟨l2,u2⟩:=h2.aU;obtain ⟨l3,u3⟩:=h3.aU;obtain ⟨l4,u4⟩:=h4.aU;refine ⟨_,?_,b9⟩;unfold ai;rw [aK h.ani];simp only [go_sem,ya,yc,N2,aZ,u1.pu,u1.ak,u1.one,u2.pu,u2.ak,u2.one,u3.ak,bY,e1,e2,bN,ek,er,bQ,yy,kJ u4,du u4]
def anl (h:Nu P L) {v w:AV} {a b:Int} {K:Nat} (hv:b7 v a) (hw:b7 w b) (ka:Bd K a) (kb:Bd K b) (hK:K<=40000000000):ai P L 118 [v,w] (aa (cF (a-b))):=by
 obtain ⟨d,e1,hd⟩:=Xa h hv hw ka kb hK;have e2:=Gd h hd;obtain ⟨s1,w1,rfl,h1⟩:=hv;obtain ⟨s2,w2,rfl,h2⟩:=hw;obtain ⟨s3,w3,rfl,h3⟩:=hd;obtain ⟨l2,u2⟩:=h2.aU;obtain ⟨l3,u3⟩:=h3.aU;unfold ai;rw [aK h.anh];rcases h1 with ⟨rfl,rfl,a1,a2⟩ | ⟨e,l,rfl,ga,na,va,sa,a1⟩
 ·rcases h2 with ⟨rfl,rfl,b1,b2⟩ | ⟨e,l,rfl,gb,nb,vb,sb,b1⟩
  ·by_cases c1:s1<s2
   ·rw [show cF (s1-s2)= -1 by unfold cF;rw [yT (by omega)]];simp only [go_sem,ya,yc,AG,aZ,fA,c8,bL,yj,cB,c1]
   ·by_cases c2:s2<s1
    ·rw [show cF (s1-s2)=1 by unfold cF;rw [yE (by omega),yE (by omega)]];simp only [go_sem,ya,yc,AG,aZ,fA,c8,bL,yj,cB,c1,c2]
    ·rw [show cF (s1-s2)=0 by unfold cF;rw [yE (by omega),yT (by omega)]];simp only [go_sem,ya,yc,AG,aZ,fA,c8,bL,yj,cB,c1,c2]
  ·simp only [go_sem,ya,yc,AG,aZ,fA,lH,c8,bL,yj,cB,bQ,bY,e1,e2,u3.ak,bN]
 ·simp only [go_sem,ya,yc,AG,aZ,u2.pu,u2.ak,u2.one,lH,c8,bL,yj,cB,bQ,bY,e1,e2,u3.ak,bN]
def akd (h:Nu P L) {s1 s2:Int} {w1 w2:AV} {a b:Int} {K:Nat} (ha:cU s1 w1 a) (hb:cU s2 w2 b) (ka:Bd K a) (kb:Bd K b) (hK:K<=40000000000):
  ∃r,b7 r (a*b)/\∀tm,ah tm 2= .ptr 0 0->ah tm 3= .ptr 1 0->ah tm 4= .ptr 2 0->fg [.cell 4 2 true] (D P L (ax (ax j9.body)) ⟨tm,[(2,.cells true true true 2 [.int .i64 0,.af]),(1,.cells true true true 2 [aa s2,w2]),(0,.cells true true true 2 [aa s1,w1])],3,0⟩)=some r:=by
 obtain ⟨l1,u1⟩:=ha.aU;obtain ⟨l2,u2⟩:=hb.aU;obtain ⟨p,e1,hp⟩:=qF h ha;obtain ⟨q,e2,hq⟩:=qF h hb;obtain ⟨lp,gj,gp,np,vp⟩:=hp.aU;obtain ⟨lq,mi,gq,nq,vq⟩:=hq.aU;have zq:=yR ka (rY K);have C2:=yR kb (rY K);have llp:lp.length<=40000000000:=xi (lR np vp zq) hK;have llq:lq.length<=40000000000:=xi (lR nq vq C2) hK;obtain ⟨o,lc,e3,ho,kZ,no,vo⟩:=amY h.am6 h.ki h.kj h.fh gj mi gp gq (by omega) (by omega);obtain ⟨r,e4,hr⟩:=AP h (decide (a<0) !=decide (b<0)) ⟨lc,ho,kZ,no,vo⟩ (K:=K+K) (by rw [vp,vq,wi];exact yad zq C2) (by omega)
 rw [vp,vq,Tn] at hr;have b9:=hr;obtain ⟨s',w',rfl,kv⟩:=hr;obtain ⟨l',gU⟩:=kv.aU;refine ⟨_,b9,fun tm t2 t3 t4=>?_⟩;have oW:∀x y:Bool,F3 true (some (x==y))=some (.bool (x !=y)):=fun x y=>by cases x<;>cases y<;>rfl
 simp only [go_sem,ya,j9,ax,t2,t3,t4,bQ,bY,u1.ak,u2.ak,e1,e2,gj.ak,mi.ak,mL,oW,e3,ho.ak,ho.shut,e4,bN,ek,er,bQ,yy,kJ gU,du gU]
def afb {a b:Int} {m:Nat} (h:a.natAbs*b.natAbs=m):a*b=if (decide (a<0)==decide (b<0))=true then (m:Int) else 0-(m:Int):=by
 have:=Tn (a:=a) (b:=b)
 rw [h] at this;unfold b5 at this
 cases hd:(decide (a<0)==decide (b<0)) with
 | true=>simp only [bne,hd,y5,Bool.false_eq_true,y8] at this;exact this.symm
 | false=>simp only [bne,hd,yY,xm] at this;rw [yE (by decide)];omega
def Cx (h:Nu P L) {v w:AV} {a b:Int} {K:Nat} (hv:b7 v a) (hw:b7 w b) (ka:Bd K a) (kb:Bd K b) (hK:K<=40000000000):∃r,ai P L 100 [v,w] r/\b7 r (a*b):=by
 obtain ⟨s1,w1,rfl,h1⟩:=hv;obtain ⟨s2,w2,rfl,h2⟩:=hw;obtain ⟨l1,u1⟩:=h1.aU;obtain ⟨l2,u2⟩:=h2.aU;obtain ⟨r,hr,tail⟩:=akd h h1 h2 ka kb hK;have fin:∀tm,ah tm 2= .ptr 0 0->ah tm 3= .ptr 1 0->ah tm 4= .ptr 2 0->
   D P L (.seq (bn j9.body) (bn (ax j9.body))) ⟨[(0,.agg [aa s1,w1]),(1,.agg [aa s2,w2])],[],0,0⟩=some (.normal,⟨tm,[(2,.cells true true true 2 [.int .i64 0,.af]),(1,.cells true true true 2 [aa s2,w2]),(0,.cells true true true 2 [aa s1,w1])],3,0⟩)->ai P L 100 [.agg [aa s1,w1],.agg [aa s2,w2]] r:=fun tm t2 t3 t4 e=>by
  unfold ai;rw [aK h.J5];show fg [.cell 4 2 true] (D P L (.seq (bn j9.body) (.seq (bn (ax j9.body)) (ax (ax j9.body)))) ⟨[(0,.agg [aa s1,w1]),(1,.agg [aa s2,w2])],[],0,0⟩)=_
  rw [zO,e,fL];exact tail tm t2 t3 t4
 rcases h1 with ⟨rfl,rfl,a1,a2⟩ | ⟨e,l,rfl,ga,na,va,sa,a1⟩
 ·rcases h2 with ⟨rfl,rfl,b1,b2⟩ | ⟨e,l,rfl,gb,nb,vb,sb,b1⟩
  ·have f1:=Oo h a1 a2;have f2:=Oo h b1 b2;have f3:=I2 (P:=P) (f:=D P L) h.kj (x:=s1.natAbs) (y:=s2.natAbs) (by omega) (by omega);obtain ⟨m,hm⟩:∃m,s1.natAbs*s2.natAbs=m:=⟨_,rfl⟩;rw [hm] at f3;have lW:=afb hm;by_cases fT:m<=9223372036854775807
   ·rw [wa (by omega),yN (by omega)] at f3;rw [show (uc 0)=AV.int .u64 0 from rfl] at f3;by_cases hs:(decide (s1<0)==decide (s2<0))=true
    ·rw [yT hs] at lW;refine ⟨.agg [aa (m:Int),.af],?_,by rw [lW];exact cU.mr (by omega) (by omega)⟩
     unfold ai;rw [aK h.J5]
     simp only [go_sem,ya,yc,j9,aZ,ol,fA,c8,Fa,mL,bL,yj,cB,f1,f2,f3,show (m:Int)<=9223372036854775807 by omega,hs,I1,wrap64 (n:=(m:Int)) (by omega) (by omega),od];rfl
    ·rw [yE hs] at lW;refine ⟨.agg [aa (0-(m:Int)),.af],?_,by rw [lW];exact cU.mr (by omega) (by omega)⟩
     unfold ai;rw [aK h.J5]
     simp only [go_sem,ya,yc,j9,aZ,ol,fA,c8,Fa,mL,bL,yj,cB,f1,f2,f3,show (m:Int)<=9223372036854775807 by omega,hs,I1,wrap64 (n:=(m:Int)) (by omega) (by omega),wrap64 (n:=0-(m:Int)) (by omega) (by omega),od];rfl
   ·by_cases zt:m/18446744073709551616=0
    ·rw [zt,yN (by omega)] at f3;rw [show (uc 0)=AV.int .u64 0 from rfl] at f3;refine ⟨r,fin _ ?_ ?_ ?_ (by simp only [go_sem,ya,yc,bn,ax,j9,aZ,fA,c8,bL,yj,cB,f1,f2,f3,show ¬(m:Int)<=9223372036854775807 by omega]<;>rfl),hr⟩<;>simp only [go_sem,ya]
    ·obtain ⟨q,hq⟩:∃q,q=m/18446744073709551616:=⟨_,rfl⟩;rw [<-hq] at f3 zt;refine ⟨r,fin _ ?_ ?_ ?_ (by simp only [go_sem,ya,yc,bn,ax,j9,aZ,fA,c8,bL,yj,cB,f1,f2,f3,show ¬(q:Int)=0 by omega]<;>rfl),hr⟩<;>simp only [go_sem,ya]
  ·refine ⟨r,fin _ ?_ ?_ ?_ (by simp only [go_sem,ya,yc,bn,ax,j9,aZ,fA,lH,c8,bL,yj,cB]<;>rfl),hr⟩<;>simp only [go_sem,ya]
 ·refine ⟨r,fin _ ?_ ?_ ?_ (by simp only [go_sem,ya,yc,bn,ax,j9,aZ,u2.pu,u2.one,lH,c8,bL,yj,cB]<;>rfl),hr⟩<;>simp only [go_sem,ya]
end
def ac4 {a b:Int} {q r:Nat} (hb:0<b) (h:q=a.natAbs/b.natAbs) (h2:r=a.natAbs%b.natAbs):
  (b5 (decide (a<0)) r<0->a/b=b5 (decide (a<0)) q-1/\a%b=b5 (decide (a<0)) r+b)/\(¬b5 (decide (a<0)) r<0->a/b=b5 (decide (a<0)) q/\a%b=b5 (decide (a<0)) r):=by
 have eJ:=xH a.natAbs b.natAbs;have aO:r<b.natAbs:=by rw [h2];exact xq _ (by omega)
 unfold b5;by_cases h0:a<0
 ·simp only [h0,yJ,xm];constructor
  ·intro h3;refine (uz hb).2 ⟨?_,by omega,by omega⟩
   grind
  ·intro h3;refine (uz hb).2 ⟨?_,by omega,by omega⟩
   grind
 ·grind
section
variable {P:aR} {L:Lib}
def ake (h:Nu P L) {s1 s2:Int} {w1 w2:AV} {a b:Int} {K:Nat} (ha:cU s1 w1 a) (hb:cU s2 w2 b) (dl:0<b) (ka:Bd K a) (kb:Bd K b) (hK:K<=30000000000):
  ∃q r,b7 q (a/b)/\b7 r (a%b)/\∀tm,ah tm 2= .ptr 0 0->ah tm 3= .ptr 1 0->ah tm 4= .ptr 2 0->ah tm 5= .ptr 3 0->fg [.cell 4 2 true,.cell 5 2 true] (D P L (ax (ax kh.body)) ⟨tm,[(3,.cells true true true 2 [.int .i64 0,.af]),(2,.cells true true true 2 [.int .i64 0,.af]),(1,.cells true true true 2 [aa s2,w2]),(0,.cells true true true 2 [aa s1,w1])],4,0⟩)=some (.av [q,r]):=by
 obtain ⟨l1,u1⟩:=ha.aU;obtain ⟨l2,u2⟩:=hb.aU;obtain ⟨p,e1,hp⟩:=qF h ha;obtain ⟨q,e2,hq⟩:=qF h hb;have bK:b7 (.agg [aa s2,w2]) b:=⟨s2,w2,rfl,hb⟩;obtain ⟨lp,gj,_⟩:=hp.aU;obtain ⟨lq,mi,_⟩:=hq.aU;have zq:=yR ka (rY K);have C2:=yR kb (rY K);obtain ⟨dq,dr,e3,Bi,gS⟩:=W5 h.toWd hp hq (by omega) zq C2 (by omega);obtain ⟨Hb,uq,_⟩:=Bi.aU;obtain ⟨lr1,ur,_⟩:=gS.aU;have hqk:a.natAbs/b.natAbs<18446744073709551616^K:=xU (wU _ _) zq;have hrk:a.natAbs%b.natAbs<18446744073709551616^K:=xU (ybq _ _) zq;have Y9:a.natAbs/b.natAbs<2^K:=xU (wU _ _) ka;have P1:a.natAbs%b.natAbs<2^K:=xU (ybq _ _) ka;obtain ⟨f1,f2⟩:=ac4 (a:=a) dl rfl rfl;generalize a.natAbs/b.natAbs=Q at*
 generalize a.natAbs%b.natAbs=R at*
 obtain ⟨vq,e4,Zg⟩:=AP h (decide (a<0)) Bi hqk (by omega);obtain ⟨vr,e5,GW⟩:=AP h (decide (a<0)) gS hrk (by omega);have hsq:Bd K (b5 (decide (a<0)) Q):=by unfold Bd b5;split<;>omega
 have hsr:Bd K (b5 (decide (a<0)) R):=by unfold Bd b5;split<;>omega
 generalize b5 (decide (a<0)) R=Rs at*
 have e6:=Gd h GW;have Xb:=Zg;have Xc:=GW;obtain ⟨s3,w3,rfl,h3⟩:=Zg;obtain ⟨s4,w4,rfl,h4⟩:=GW;obtain ⟨l3,u3⟩:=h3.aU;obtain ⟨l4,u4⟩:=h4.aU;by_cases h0:Rs<0
 ·obtain ⟨g1,g2⟩:=f1 h0;have iC:Bd (K+1) 1:=Bd.mono (k:=1) (by unfold Bd;decide) (by omega)
  obtain ⟨o1,o2⟩:=AO h (z:=1) (by decide) (by decide);obtain ⟨vq2,e7,Oq⟩:=Xa h Xb o2 (K:=K+1) (hsq.mono (by omega)) iC (by omega);obtain ⟨vr2,e8,Ot⟩:=Ge h Xc bK (K:=K+1) (hsr.mono (by omega)) (kb.mono (by omega)) (by omega);rw [<-g1] at Oq;rw [<-g2] at Ot;have kT:cF Rs<0:=by unfold cF;rw [yT h0];decide
  have k1:=Oq;have k2:=Ot;obtain ⟨s5,w5,rfl,h5⟩:=Oq;obtain ⟨s6,w6,rfl,h6⟩:=Ot;obtain ⟨l5,u5⟩:=h5.aU;obtain ⟨l6,u6⟩:=h6.aU;refine ⟨_,_,k1,k2,fun tm t2 t3 t4 t5=>?_⟩;simp only [go_sem,ya,yc,kh,ax,t2,t3,t4,t5,M4,M5,MG,Mm,M6,wC,aZ,bQ,bY,u1.ak,u2.ak,e1,e2,gj.ak,mi.ak,e3,uq.ak,uq.bG,ur.ak,ur.bG,e4,e5,bN,ek,er,bQ,yy,du u3,du u4,u3.ak,u4.ak,e6,kT,o1,e7,e8,ek,er,bQ,yy,du u5,du u6,UW u5 u6]
 ·obtain ⟨g1,g2⟩:=f2 h0;have kT:¬cF Rs<0:=by unfold cF;rw [yE h0];split<;>decide
  refine ⟨_,_,by rw [g1];exact Xb,by rw [g2];exact Xc,fun tm t2 t3 t4 t5=>?_⟩
  simp only [go_sem,ya,yc,kh,ax,t2,t3,t4,t5,M4,M5,MG,Mm,M6,wC,aZ,bQ,bY,u1.ak,u2.ak,e1,e2,gj.ak,mi.ak,e3,uq.ak,uq.bG,ur.ak,ur.bG,e4,e5,bN,ek,er,bQ,yy,du u3,du u4,u4.ak,e6,kT,UW u3 u4]
def Xd (h:Nu P L) {v w:AV} {a b:Int} {K:Nat} (hv:b7 v a) (hw:b7 w b) (dl:0<b) (ka:Bd K a) (kb:Bd K b) (hK:K<=30000000000):∃q r,ai P L 164 [v,w] (.av [q,r])/\b7 q (a/b)/\b7 r (a%b):=by
 obtain ⟨s1,w1,rfl,h1⟩:=hv;obtain ⟨s2,w2,rfl,h2⟩:=hw;obtain ⟨l1,u1⟩:=h1.aU;obtain ⟨l2,u2⟩:=h2.aU;obtain ⟨q,r,hq,hr,tail⟩:=ake h h1 h2 dl ka kb hK;have fin:∀tm,ah tm 2= .ptr 0 0->ah tm 3= .ptr 1 0->ah tm 4= .ptr 2 0->ah tm 5= .ptr 3 0->
   D P L (.seq (bn kh.body) (bn (ax kh.body))) ⟨[(0,.agg [aa s1,w1]),(1,.agg [aa s2,w2])],[],0,0⟩=some (.normal,⟨tm,[(3,.cells true true true 2 [.int .i64 0,.af]),(2,.cells true true true 2 [.int .i64 0,.af]),(1,.cells true true true 2 [aa s2,w2]),(0,.cells true true true 2 [aa s1,w1])],4,0⟩)->ai P L 164 [.agg [aa s1,w1],.agg [aa s2,w2]] (.av [q,r]):=fun tm t2 t3 t4 t5 e=>by
  unfold ai;rw [aK h.On];show fg [.cell 4 2 true,.cell 5 2 true] (D P L (.seq (bn kh.body) (.seq (bn (ax kh.body)) (ax (ax kh.body)))) ⟨[(0,.agg [aa s1,w1]),(1,.agg [aa s2,w2])],[],0,0⟩)=_
  rw [zO,e,fL];exact tail tm t2 t3 t4 t5
 rcases h1 with ⟨rfl,rfl,a1,a2⟩ | ⟨e,l,rfl,ga,na,va,sa,a1⟩
 ·rcases h2 with ⟨rfl,rfl,b1,b2⟩ | ⟨e,l,rfl,gb,nb,vb,sb,b1⟩
  ·by_cases hm:s1= -9223372036854775808
   ·refine ⟨q,r,fin _ ?_ ?_ ?_ ?_ (by simp only [go_sem,ya,yc,bn,ax,kh,aZ,fA,c8,bL,yj,cB,hm]<;>rfl),hq,hr⟩<;>simp only [go_sem,ya]
   ·obtain ⟨f1,f2⟩:=acU (a:=s1) dl;have bB:s1.tdiv s2=0\/(s1.tdiv s2).natAbs<=s1.natAbs:= .inr (Int.natAbs_tdiv_le_natAbs s1 s2);have dC:=Int.tmod_lt_of_pos s1 dl;have kw:=Int.lt_tmod_of_pos s1 dl;by_cases h0:s1.tmod s2<0
    ·obtain ⟨g1,g2⟩:=f1 h0;rw [g1,g2];refine ⟨.agg [aa (s1.tdiv s2-1),.af],.agg [aa (s1.tmod s2+s2),.af],?_,cU.mr (by omega) (by omega),cU.mr (by omega) (by omega)⟩;unfold ai;rw [aK h.On]
     simp only [go_sem,ya,yc,kh,aZ,ol,fA,c8,bL,yj,cB,hm,e9 _ _ _ (show s2≠0 by omega),gC _ _ _ (show s2≠0 by omega),h0,wrap64 (n:=s1.tdiv s2) (by omega) (by omega),wrap64 (n:=s1.tdiv s2-1) (by omega) (by omega),wrap64 (n:=s1.tmod s2+s2) (by omega) (by omega),od];rfl
    ·obtain ⟨g1,g2⟩:=f2 h0;rw [g1,g2];refine ⟨.agg [aa (s1.tdiv s2),.af],.agg [aa (s1.tmod s2),.af],?_,cU.mr (by omega) (by omega),cU.mr (by omega) (by omega)⟩;unfold ai;rw [aK h.On]
     simp only [go_sem,ya,yc,kh,aZ,ol,fA,c8,bL,yj,cB,hm,e9 _ _ _ (show s2≠0 by omega),gC _ _ _ (show s2≠0 by omega),h0,wrap64 (n:=s1.tdiv s2) (by omega) (by omega),od];rfl
  ·refine ⟨q,r,fin _ ?_ ?_ ?_ ?_ (by simp only [go_sem,ya,yc,bn,ax,kh,aZ,fA,lH,c8,bL,yj,cB]<;>rfl),hq,hr⟩<;>simp only [go_sem,ya]
 ·refine ⟨q,r,fin _ ?_ ?_ ?_ ?_ (by simp only [go_sem,ya,yc,bn,ax,kh,aZ,u2.pu,u2.one,lH,c8,bL,yj,cB]<;>rfl),hq,hr⟩<;>simp only [go_sem,ya]
def Xe (h:Nu P L) {v w:AV} {a b:Int} {K:Nat} (hv:b7 v a) (hw:b7 w b) (dl:0<b) (ka:Bd K a) (kb:Bd K b) (hK:K<=30000000000):∃r,ai P L 148 [v,w] r/\b7 r (a/b):=by
 have e1:=Gd h hw;obtain ⟨q,r,e2,hq,hr⟩:=Xd h hv hw dl ka kb hK;have e3:cF b=1:=by unfold cF;rw [yE (by omega),yE (by omega)]
 rw [e3] at e1;have bB:=hq;obtain ⟨s1,w1,rfl,h1⟩:=hv;obtain ⟨s2,w2,rfl,h2⟩:=hw;obtain ⟨s3,w3,rfl,h3⟩:=hq;obtain ⟨s4,w4,rfl,h4⟩:=hr;obtain ⟨l1,u1⟩:=h1.aU;obtain ⟨l2,u2⟩:=h2.aU;obtain ⟨l3,u3⟩:=h3.aU;obtain ⟨l4,u4⟩:=h4.aU;refine ⟨_,?_,bB⟩;unfold ai;rw [aK h.anj];simp only [go_sem,ya,yc,N1,yaZ,yG,aZ,u1.pu,u1.ak,u1.one,u2.pu,u2.ak,u2.one,yj,bY,e1,e2,Ei,ek,er,bQ,yy,kJ u3,du u3,du u4]
def akf (h:Nu P L) (G:Nat) {K:Nat} (hK:K<=30000000000) {o1 o2:AV}:
  ∀k s,(∃(x y:Nat) (s1 s2:Int) (w1 w2:AV),aV [2,3,4] s=⟨[(2,.ptr 0 0),(3,.ptr 1 0),(4,.ptr 2 0)],[(2,.cells true true true 2 [o1,o2]),(1,.cells true true true 2 [aa s2,w2]),(0,.cells true true true 2 [aa s1,w1])],3,0⟩/\cU s1 w1 x/\cU s2 w2 y/\Bd K x/\Bd K y/\Nat.gcd x y=G/\y=k)->
   ∃ex s',D P L (.loop [2,3,4] ER) s=some (ex,s')/\∃tm s1 w1 c1,s'=⟨tm,[(2,.cells true true true 2 [o1,o2]),(1,c1),(0,.cells true true true 2 [aa s1,w1])],3,0⟩/\ex= .exit 0/\ah tm 2= .ptr 0 0/\ah tm 4= .ptr 2 0/\cU s1 w1 G:=by
 intro dq sq;generalize bz:aV [2,3,4] sq=s0;revert bz s0 sq dq;apply eb;rintro k s ⟨x,y,s1,s2,w1,w2,rfl,h1,h2,k1,k2,hG,rfl⟩;obtain ⟨l1,u1⟩:=h1.aU;obtain ⟨l2,u2⟩:=h2.aU;have i1:b7 (.agg [aa s1,w1]) (x:Int):=⟨s1,w1,rfl,h1⟩;have i2:b7 (.agg [aa s2,w2]) (y:Int):=⟨s2,w2,rfl,h2⟩;have e1:=Gd h i2;by_cases iF:y=0
 ·right
  subst iF;rw [show cF ((0:Nat):Int)=0 from rfl] at e1;simp only [go_sem,ya,ER,yJ,y5,bQ,bY,u2.ak,e1];obtain rfl:x=G:=by rw [<-hG,Nat.gcd_zero_right]
  exact ⟨_,_,rfl,by simp,_,s1,w1,_,rfl,rfl,by simp only [go_sem,ya],by simp only [go_sem,ya],h1⟩
 ·left
  have e3:cF (y:Int)=1:=by unfold cF;rw [yE (by omega),yE (by omega)]
  rw [e3] at e1;obtain ⟨q,r,e2,hq,hr⟩:=Xd h i1 i2 (by omega) k1 k2 hK;obtain ⟨s3,w3,rfl,h3⟩:=hq;obtain ⟨s4,w4,rfl,h4⟩:=hr;obtain ⟨l3,u3⟩:=h3.aU;obtain ⟨l4,u4⟩:=h4.aU;have aO:=xq x (show 0<y by omega);have kr:Bd K ((x%y:Nat):Int):=k2.le (by omega);simp only [go_sem,ya,yc,ER,M4,M5,MG,Mm,M6,wC,uv,yG,yY,aZ,bQ,bY,u1.ak,u2.ak,e1,e2,Ei,bQ,yy,du u2,du u3,du u4];refine ⟨_,x%y,rfl,aO,y,x%y,s2,s4,w2,w4,?_,h2,h4,k2,kr,by rw [<-hG];exact ae1 x y iF,rfl⟩
  simp only [go_sem,ya,yc,aA]
def Xf (h:Nu P L) {v w:AV} {a b:Int} {K:Nat} (hv:b7 v a) (hw:b7 w b) (ka:Bd K a) (kb:Bd K b) (hK:K<=30000000000):∃r,ai P L 130 [v,w] r/\b7 r (wE a b:Nat):=by
 obtain ⟨va,e1,ha⟩:=W9 h hv ka (by omega);obtain ⟨vb,e2,hb⟩:=W9 h hw kb (by omega);obtain ⟨s1,w1,rfl,h1⟩:=hv;obtain ⟨s2,w2,rfl,h2⟩:=hw;obtain ⟨s3,w3,rfl,h3⟩:=ha;obtain ⟨s4,w4,rfl,h4⟩:=hb;obtain ⟨l1,u1⟩:=h1.aU;obtain ⟨l2,u2⟩:=h2.aU;obtain ⟨l3,u3⟩:=h3.aU;obtain ⟨l4,u4⟩:=h4.aU;have gN:∃s w,ai P L 130 [.agg [aa s1,w1],.agg [aa s2,w2]] (.agg [aa s,w])/\cU s w (wE a b:Nat):=by
  unfold ai;rw [aK h.ank];simp only [go_sem,ya,yc,NY,aZ,u1.pu,u1.ak,u1.one,u2.pu,u2.ak,u2.one,bQ,bY,e1,e2,bN,bQ,yy,du u3,du u4,yj];generalize hq:D P L (.loop [2,3,4] ER) _=q;obtain ⟨ex,s,rfl,tm,s5,w5,c1,rfl,rfl,t2,t4,h5⟩:=bP hq (akf (P:=P) (L:=L) h (wE a b) (K:=K) hK (o1:= .int .i64 0) (o2:= .af) b.natAbs) ⟨a.natAbs,b.natAbs,s3,s4,w3,w4,by simp only [go_sem,ya,yc,aA],h3,h4,ka,kb,rfl,rfl⟩;obtain ⟨l5,u5⟩:=h5.aU;refine ⟨s5,w5,?_,h5⟩;simp only [go_sem,ya,yc,aA,t2,t4,ek,er,bQ,yy,kJ u5,du u5]
 obtain ⟨s,w,e,hn⟩:=gN;exact ⟨_,e,s,w,rfl,hn⟩
end
def ez (v:AV) (r:Rat):Prop:=∃s1 w1 s2 w2,v= .agg [aa s1,w1,aa s2,w2]/\cU s1 w1 r.num/\cU s2 w2 (r.den:Int)
def Hq (k:Nat) (r:Rat):Prop:=Bd k r.num/\Bd k (r.den:Int)
def Ld {a b:Int} (hb:0<b):(wb a b).num=a/(wE a b:Nat)/\((wb a b).den:Int)=b/(wE a b:Nat):=by
 constructor
 ·rw [yax,Int.sign_eq_one_of_pos hb,Int.one_mul,yba]
 ·rw [yay,yE (by omega),yba]
  grind
def Hq.divInt {k:Nat} {a b:Int} (hb:0<b) (ka:Bd k a) (kb:Bd k b):Hq k (wb a b):=by
 obtain ⟨h1,h2⟩:=Ld (a:=a) hb;refine ⟨ka.le ?_,kb.le ?_⟩
 ·rw [h1,vG (Int.gcd_dvd_left a b)];exact wU _ _
 ·rw [h2,vG (Int.gcd_dvd_right a b)];exact wU _ _
section
def BH {tm:Env} {a b x y z w:AV} {r:List (Nat×Nat×X)} (h1:cw a=true) (h2:cw b=true):mK tm [x,y,z,w] 0 2 [a,b] r=fill tm [a,b,z,w] r:=by
 rw [EE (by rfl) (by simp) (by simp [cd,h1,h2])];rfl
def BI {tm:Env} {a b x y z w:AV} {r:List (Nat×Nat×X)} (h1:cw a=true) (h2:cw b=true):mK tm [x,y,z,w] 2 2 [a,b] r=fill tm [x,y,a,b] r:=by
 rw [EE (by rfl) (by simp) (by simp [cd,h1,h2])];rfl
def lK {s t:Int} {v w:AV} {l m:List Nat} (hv:bw v l) (hw:bw w m) (hp:Hp) (ct id:Nat) (a b x y:AV):ie hp ct id 0 4 [.int .i64 s,v,.int .i64 t,w] (some (.cells true true true 4 [a,b,x,y]))=some (.av [],a6 hp id (.cells true true true 4 [.int .i64 s,v,.int .i64 t,w]),ct):=by
 rw [B6 (by rfl) (by simp) (by simp [cd,hv.one,hw.one,Um])];simp [aC,hv.pu,hw.pu,over,UM]
def lL {s t:Int} {v w:AV} {l m:List Nat} (hv:bw v l) (hw:bw w m) (hp:Hp):result hp (.agg [aa s,v,aa t,w])=some (.agg [aa s,v,aa t,w]):=by
 rcases hv with ⟨rfl,_⟩ | ⟨e,rfl⟩<;>rcases hw with ⟨rfl,_⟩ | ⟨e',rfl⟩<;>rfl
variable {P:aR} {L:Lib}
structure Fr' (P:aR) (L:Lib):Prop extends Nu P L where
 anm:Has P L 101 kN
 P2:Has P L 69 Pw
 ann:Has P L 111 NX
 h98:Has P L 98 KC
 arB:Has P L 108 WE
 ano:Has P L 102 NW
 Zh:Has P L 74 GM
 P3:Has P L 50 Pv
 nl:Has P L 49 c49
 h73:Has P L 73 Yi
 h70:Has P L 70 Yg
 h71:Has P L 71 Yh
 arC:Has P L 149 WG
def UX (h:Fr' P L) {s1 s2:Int} {w1 w2:AV} {a b:Int} {K:Nat} (h1:cU s1 w1 a) (h2:cU s2 w2 b) (dl:0<b) (ka:Bd K a) (kb:Bd K b) (hK:K<=30000000000):
  ∃r,ez r (wb a b)/\∀tm,ah tm 2= .ptr 0 0->ah tm 3= .ptr 1 0->ah tm 4= .ptr 2 0->fg [.cell 4 4 true] (D P L (ax (ax kN.body)) ⟨tm,[(2,.cells true true true 4 [.int .i64 0,.af,.int .i64 0,.af]),(1,.cells true true true 2 [aa s2,w2]),(0,.cells true true true 2 [aa s1,w1])],3,0⟩)=some r:=by
 have hv:b7 (.agg [aa s1,w1]) a:=⟨s1,w1,rfl,h1⟩;have hw:b7 (.agg [aa s2,w2]) b:=⟨s2,w2,rfl,h2⟩;obtain ⟨p1,p2⟩:=Ld (a:=a) dl;have Zi:=II (a:=a) dl;have Zj:Bd K ((wE a b:Nat):Int):=kb.le (by
  have:=Int.gcd_le_natAbs_right a (show b≠0 by omega)
  omega)
 obtain ⟨g,e2,hg⟩:=Xf h.toNu hv hw ka kb hK;obtain ⟨q1,e4,eD⟩:=Xe h.toNu hv hg Zi ka Zj hK;obtain ⟨q2,e5,KP⟩:=Xe h.toNu hw hg Zi kb Zj hK;rw [<-p1] at eD;rw [<-p2] at KP;obtain ⟨s3,w3,rfl,h3⟩:=hg;obtain ⟨s4,w4,rfl,h4⟩:=eD;obtain ⟨s5,w5,rfl,h5⟩:=KP;obtain ⟨l1,u1⟩:=h1.aU;obtain ⟨l2,u2⟩:=h2.aU;obtain ⟨l3,u3⟩:=h3.aU;obtain ⟨l4,u4⟩:=h4.aU;obtain ⟨l5,u5⟩:=h5.aU;by_cases eR:w2= .af/\s2=1
 ·obtain ⟨rfl,rfl⟩:=eR;have iC:b=1:=by
   rcases h2 with ⟨_,h,_⟩ | ⟨_,_,h,_⟩
   ·exact h.symm
   ·cases h
  subst iC;rw [Int.gcd_one] at p1 p2;have p1:(wb a 1).num=a:=by rw [p1];exact Int.ediv_one a
  refine ⟨.agg [aa s1,w1,aa 1,.af],⟨s1,w1,1,.af,rfl,by rw [p1];exact h1,by rw [p2];exact h2⟩,fun tm t2 t3 t4=>?_⟩
  have un:=pI;simp only [go_sem,ya,kN,ax,t2,t3,t4,u1.one,bQ,bL,yj,cB,fA,c8,BH,BI,lK u1 un,ek,er,yy,iM,lL u1 un]
 ·refine ⟨.agg [aa s4,w4,aa s5,w5],⟨s4,w4,s5,w5,rfl,h4,h5⟩,fun tm t2 t3 t4=>?_⟩;rcases u2 with ⟨rfl,_⟩ | ⟨e,rfl⟩
  ·simp only [go_sem,ya,yc,kN,ax,t2,t3,t4,aZ,u1.ak,bQ,bY,bL,yj,cB,fA,c8,show ¬s2=1 from fun e=>eR ⟨rfl,e⟩,e2,e4,e5,bN,ek,er,bQ,yy,du u3,u3.ak,u4.one,u5.one,BH,BI,lK u4 u5,iM,lL u4 u5]
  ·simp only [go_sem,ya,yc,kN,ax,t2,t3,t4,aZ,u1.ak,bQ,bY,bL,yj,cB,lH,c8,e2,e4,e5,bN,ek,er,bQ,yy,du u3,u3.ak,u4.one,u5.one,BH,BI,lK u4 u5,iM,lL u4 u5]
def anp (h:Fr' P L) {v w:AV} {a b:Int} {K:Nat} (hv:b7 v a) (hw:b7 w b) (dl:b≠0) (ka:Bd K a) (kb:Bd K b) (hK:K<=30000000000):∃r,ai P L 101 [v,w] r/\ez r (wb a b):=by
 have e1:=Gd h.toNu hw;have dN:=hv;have P4:=hw;obtain ⟨s1,w1,rfl,h1⟩:=hv;obtain ⟨s2,w2,rfl,h2⟩:=hw;obtain ⟨l1,u1⟩:=h1.aU;obtain ⟨l2,u2⟩:=h2.aU;have fin:∀r t1 t2 v1 v2 tm,(∀tm,ah tm 2= .ptr 0 0->ah tm 3= .ptr 1 0->ah tm 4= .ptr 2 0->fg [.cell 4 4 true] (D P L (ax (ax kN.body)) ⟨tm,[(2,.cells true true true 4 [.int .i64 0,.af,.int .i64 0,.af]),(1,.cells true true true 2 [aa t2,v2]),(0,.cells true true true 2 [aa t1,v1])],3,0⟩)=some r)->ah tm 2= .ptr 0 0->ah tm 3= .ptr 1 0->ah tm 4= .ptr 2 0->
   D P L (.seq (bn kN.body) (bn (ax kN.body))) ⟨[(0,.agg [aa s1,w1]),(1,.agg [aa s2,w2])],[],0,0⟩=some (.normal,⟨tm,[(2,.cells true true true 4 [.int .i64 0,.af,.int .i64 0,.af]),(1,.cells true true true 2 [aa t2,v2]),(0,.cells true true true 2 [aa t1,v1])],3,0⟩)->ai P L 101 [.agg [aa s1,w1],.agg [aa s2,w2]] r:=fun r t1 t2 v1 v2 tm tail k2 k3 k4 e=>by
  unfold ai;rw [aK h.anm];show fg [.cell 4 4 true] (D P L (.seq (bn kN.body) (.seq (bn (ax kN.body)) (ax (ax kN.body)))) ⟨[(0,.agg [aa s1,w1]),(1,.agg [aa s2,w2])],[],0,0⟩)=_
  rw [zO,e,fL];exact tail tm k2 k3 k4
 by_cases hn:b<0
 ·obtain ⟨n1,e2,jN⟩:=Cw h.toNu dN ka (by omega);obtain ⟨n2,e3,da⟩:=Cw h.toNu P4 kb (by omega);obtain ⟨s3,w3,rfl,h3⟩:=jN;obtain ⟨s4,w4,rfl,h4⟩:=da;obtain ⟨l3,u3⟩:=h3.aU;obtain ⟨l4,u4⟩:=h4.aU;obtain ⟨r,hr,tail⟩:=UX h h3 h4 (by omega) ka.neg kb.neg hK;rw [Rat.neg_divInt_neg] at hr;have hs:cF b<0:=by unfold cF;rw [yT hn];decide
  refine ⟨r,fin r _ _ _ _ _ tail ?_ ?_ ?_ (by simp only [go_sem,ya,yc,kN,bn,ax,hs,aZ,u1.pu,u1.ak,u1.one,u2.pu,u2.ak,u2.one,bQ,bY,e1,e2,e3,bN,du u3,du u4]<;>rfl),hr⟩<;>simp only [go_sem,ya]
 ·obtain ⟨r,hr,tail⟩:=UX h h1 h2 (by omega) ka kb hK;have hs:¬cF b<0:=by unfold cF;rw [yE hn];split<;>decide
  refine ⟨r,fin r _ _ _ _ _ tail ?_ ?_ ?_ (by simp only [go_sem,ya,yc,kN,bn,ax,hs,aZ,u1.pu,u1.one,u2.pu,u2.ak,u2.one,bQ,bY,e1]<;>rfl),hr⟩<;>simp only [go_sem,ya]
end
def Hq.mono {k m:Nat} {r:Rat} (h:Hq k r) (hk:k<=m):Hq m r:=⟨h.1.mono hk,h.2.mono hk⟩
def Hq.neg {k:Nat} {r:Rat} (h:Hq k r):Hq k (-r):=⟨h.1.neg,h.2⟩
def add_eq (a b:Rat):a+b=wb (a.num*b.den+b.num*a.den) ((a.den:Int)*b.den):=by
 rw [Rat.add_def',<-Rat.divInt_ofNat,Int.natCast_mul]
def To (a:Rat):0<(a.den:Int):=by have:=a.den_pos;omega
def Lm (a b:Rat):0<(a.den:Int)*b.den:=Int.mul_pos (To a) (To b)
def Bd.Ou {k:Nat} {a b:Int} (ha:Bd k a) (hb:Bd k b):Bd (k+1) (a+b):=by
 have:=ha.add hb
 grind
def Hq.add {k m:Nat} {a b:Rat} (ha:Hq k a) (hb:Hq m b):Hq (k+m+1) (a+b):=by
 rw [add_eq];refine Hq.divInt (Lm a b) ?_ ((ha.2.mul hb.2).mono (by omega));exact (ha.1.mul hb.2).Ou ((hb.1.mul ha.2).mono (by omega))
def Hq.sub {k m:Nat} {a b:Rat} (ha:Hq k a) (hb:Hq m b):Hq (k+m+1) (a-b):=by
 rw [tP];exact ha.add hb.neg
def MH (a:Rat) (h:a.den=1):a=(a.num:Rat):=by
 have:=Rat.num_divInt_den a
 rw [h] at this;rw [<-this];exact (Rat.ext (by simp [yax]) (by simp [yay]))
def Jn (a b c d:AV) (r:List AV):fQ 2 true (List.drop 2 (a::b::c::d::r))=some (.agg [c,d]):=rfl
def B7 (a b:AV) (r:List AV):fQ 2 true (a::b::r)=some (.agg [a,b]):=rfl
section
variable {P:aR} {L:Lib}
def Ov (h:Fr' P L) {v:AV} {z:Int} (hv:b7 v z):∃r,ai P L 111 [v] r/\ez r (z:Rat):=by
 obtain ⟨o1,o2⟩:=AO h.toNu (z:=1) (by decide) (by decide);obtain ⟨s1,w1,rfl,h1⟩:=hv;obtain ⟨l1,u1⟩:=h1.aU;have un:=pI;refine ⟨.agg [aa s1,w1,aa 1,.af],?_,s1,w1,1,.af,rfl,h1,.inl ⟨rfl,rfl,(by show (-9223372036854775808:Int)<=1;decide),(by show (1:Int)<9223372036854775808;decide)⟩⟩
 unfold ai;rw [aK h.ann];simp only [go_sem,ya,yc,NX,aZ,u1.pu,u1.one,bQ,o1,bN,BH,BI,lK u1 un,ek,er,yy,iM,lL u1 un]
def m69 (h:Fr' P L) {z:Int} (h1: -9223372036854775808<=z) (h2:z<9223372036854775808):∃r,ai P L 69 [aa z] r/\ez r (z:Rat):=by
 obtain ⟨o1,o2⟩:=AO h.toNu h1 h2;obtain ⟨r,e,hr⟩:=Ov h o2;have b9:=hr;obtain ⟨s1,w1,s2,w2,rfl,k1,k2⟩:=hr;obtain ⟨l1,u1⟩:=k1.aU;obtain ⟨l2,u2⟩:=k2.aU;refine ⟨_,?_,b9⟩;unfold ai;rw [aK h.P2];simp only [go_sem,ya,yc,Pw,aZ,bY,o1,e,bN,lK u1 u2,ek,er,yy,iM,lL u1 u2]
def P5 (h:Fr' P L) {v:AV} {a:Rat} (hv:ez v a):ai P L 98 [v] (.bool (decide (a.den=1))):=by
 obtain ⟨s1,w1,s2,w2,rfl,h1,h2⟩:=hv;obtain ⟨l1,u1⟩:=h1.aU;unfold ai;rw [aK h.h98];rcases h2 with ⟨rfl,rfl,b1,b2⟩ | ⟨e,l,rfl,gb,nb,vb,sb,b1⟩
 ·have e:decide (((a.den:Nat):Int)=1)=decide (a.den=1):=by simp;omega
  simp only [go_sem,ya,yc,KC,aZ,u1.pu,u1.one,bL,yj,alK,V1,fA,c8,e]
 ·have e:decide (a.den=1)=false:=xb (by omega);rw [e];simp only [go_sem,ya,yc,KC,aZ,u1.pu,u1.one,bL,yj,V1,lH,c8]
def anq (h:Fr' P L) {v:AV} {a:Rat} {K:Nat} (hv:ez v a) (ka:Hq K a) (hK:K<=30000000000):∃r,ai P L 102 [v] r/\ez r (-a):=by
 obtain ⟨s1,w1,s2,w2,rfl,h1,h2⟩:=hv;obtain ⟨l1,u1⟩:=h1.aU;obtain ⟨l2,u2⟩:=h2.aU;obtain ⟨n,e1,hn⟩:=Cw h.toNu ⟨s1,w1,rfl,h1⟩ ka.1 (by omega);obtain ⟨s3,w3,rfl,h3⟩:=hn;obtain ⟨l3,u3⟩:=h3.aU;refine ⟨.agg [aa s3,w3,aa s2,w2],?_,s3,w3,s2,w2,rfl,h3,h2⟩;unfold ai;rw [aK h.ano];simp only [go_sem,ya,yc,NW,aZ,u1.pu,u1.ak,u1.one,u2.pu,u2.one,u3.one,bL,yj,B7,Jn,bY,e1,bN,BH,BI,lK u3 u2,ek,er,yy,iM,lL u3 u2]
def m74 (h:Fr' P L) {v w:AV} {a b:Rat} {K:Nat} (hv:ez v a) (hw:ez w b) (ka:Hq K a) (kb:Hq K b) (hK:K<=10000000000):∃r,ai P L 74 [v,w] r/\ez r (a+b):=by
 have i1:=P5 h hv;have i2:=P5 h hw;obtain ⟨s1,w1,s2,w2,rfl,h1,h2⟩:=hv;obtain ⟨s3,w3,s4,w4,rfl,h3,h4⟩:=hw;obtain ⟨l1,u1⟩:=h1.aU;obtain ⟨l2,u2⟩:=h2.aU;obtain ⟨l3,u3⟩:=h3.aU;obtain ⟨l4,u4⟩:=h4.aU;have n1:b7 (.agg [aa s1,w1]) a.num:=⟨s1,w1,rfl,h1⟩;have n2:b7 (.agg [aa s2,w2]) a.den:=⟨s2,w2,rfl,h2⟩;have n3:b7 (.agg [aa s3,w3]) b.num:=⟨s3,w3,rfl,h3⟩;have n4:b7 (.agg [aa s4,w4]) b.den:=⟨s4,w4,rfl,h4⟩;by_cases KM:a.den=1/\b.den=1
 ·obtain ⟨d1,d2⟩:=KM;obtain ⟨p,e1,hp⟩:=Ge h.toNu n1 n3 ka.1 kb.1 (by omega);obtain ⟨r,e2,hr⟩:=Ov h hp;have he:((a.num+b.num:Int):Rat)=a+b:=by
   rw [Rat.intCast_add,<-MH a d1,<-MH b d2]
  rw [he] at hr;have b9:=hr;obtain ⟨s5,w5,rfl,h5⟩:=hp;obtain ⟨s6,w6,s7,w7,rfl,h6,h7⟩:=hr;obtain ⟨l5,u5⟩:=h5.aU;obtain ⟨l6,u6⟩:=h6.aU;obtain ⟨l7,u7⟩:=h7.aU;refine ⟨_,?_,b9⟩;rw [d1] at i1;rw [d2] at i2;unfold ai;rw [aK h.Zh];simp only [go_sem,ya,yc,GM,aZ,u1.pu,u1.ak,u1.one,u2.pu,u2.ak,u2.one,u3.pu,u3.ak,u3.one,u4.pu,u4.ak,u4.one,bL,yj,iM,B7,bY,i1,i2,e1,u5.ak,e2,bN,lK u6 u7,ek,er,yy,iM,lL u6 u7]
 ·obtain ⟨p1,e1,bi⟩:=Cx h.toNu n1 n4 ka.1 kb.2 (by omega);obtain ⟨p2,e2,kR⟩:=Cx h.toNu n3 n2 kb.1 ka.2 (by omega);obtain ⟨p3,e3,Zk⟩:=Ge h.toNu bi kR (ka.1.mul kb.2) (kb.1.mul ka.2) (by omega);obtain ⟨p4,e4,Zl⟩:=Cx h.toNu n2 n4 ka.2 kb.2 (by omega);obtain ⟨r,e5,hr⟩:=anp h Zk Zl (by have:=Lm a b;omega) ((ka.1.mul kb.2).Ou (kb.1.mul ka.2)) ((ka.2.mul kb.2).mono (by omega)) (by omega);rw [<-add_eq] at hr;have b9:=hr;obtain ⟨s5,w5,rfl,h5⟩:=bi;obtain ⟨s6,w6,rfl,h6⟩:=kR;obtain ⟨s7,w7,rfl,h7⟩:=Zk;obtain ⟨s8,w8,rfl,h8⟩:=Zl;obtain ⟨s9,w9,s10,w10,rfl,h9,fH⟩:=hr;obtain ⟨l5,u5⟩:=h5.aU;obtain ⟨l6,u6⟩:=h6.aU;obtain ⟨l7,u7⟩:=h7.aU;obtain ⟨l8,u8⟩:=h8.aU;obtain ⟨l9,u9⟩:=h9.aU;obtain ⟨l10,KX⟩:=fH.aU;refine ⟨_,?_,b9⟩;unfold ai;rw [aK h.Zh];by_cases d1:a.den=1
  ·rw [d1] at i1;rw [xb (fun d2=>KM ⟨d1,d2⟩)] at i2;simp only [go_sem,ya,yc,GM,aZ,u1.pu,u1.ak,u1.one,u2.pu,u2.ak,u2.one,u3.pu,u3.ak,u3.one,u4.pu,u4.ak,u4.one,bL,yj,iM,B7,Jn,bY,i1,i2,e1,e2,u5.ak,u6.ak,e3,e4,u7.ak,u8.ak,e5,bN,lK u9 KX,ek,er,yy,iM,lL u9 KX]
  ·rw [xb d1] at i1;simp only [go_sem,ya,yc,GM,aZ,u1.pu,u1.ak,u1.one,u2.pu,u2.ak,u2.one,u3.pu,u3.ak,u3.one,u4.pu,u4.ak,u4.one,bL,yj,iM,B7,Jn,bY,i1,e1,e2,u5.ak,u6.ak,e3,e4,u7.ak,u8.ak,e5,bN,lK u9 KX,ek,er,yy,iM,lL u9 KX]
def m50 (h:Fr' P L) {v w:AV} {a b:Rat} {K:Nat} (hv:ez v a) (hw:ez w b) (ka:Hq K a) (kb:Hq K b) (hK:K<=10000000000):∃r,ai P L 50 [v,w] r/\ez r (a-b):=by
 obtain ⟨n,e1,hn⟩:=anq h hw kb (by omega);obtain ⟨r,e2,hr⟩:=m74 h hv hn ka kb.neg hK;rw [<-tP] at hr;have b9:=hr;obtain ⟨s1,w1,s2,w2,rfl,h1,h2⟩:=hv;obtain ⟨s3,w3,s4,w4,rfl,h3,h4⟩:=hw;obtain ⟨s5,w5,s6,w6,rfl,h5,h6⟩:=hn;obtain ⟨s7,w7,s8,w8,rfl,h7,h8⟩:=hr;obtain ⟨l1,u1⟩:=h1.aU;obtain ⟨l2,u2⟩:=h2.aU;obtain ⟨l3,u3⟩:=h3.aU;obtain ⟨l4,u4⟩:=h4.aU;obtain ⟨l5,u5⟩:=h5.aU;obtain ⟨l6,u6⟩:=h6.aU;obtain ⟨l7,u7⟩:=h7.aU;obtain ⟨l8,u8⟩:=h8.aU;refine ⟨_,?_,b9⟩;unfold ai;rw [aK h.P3];simp only [go_sem,ya,yc,Pv,aZ,u1.pu,u1.ak,u1.one,u2.pu,u2.ak,u2.one,u3.pu,u3.ak,u3.one,u4.pu,u4.ak,u4.one,u5.ak,u6.ak,iM,bY,e1,e2,bN,lK u7 u8,ek,er,yy,iM,lL u7 u8]
end
def om:List AV->Option (List Nat)
 | []=>some []
 | .int .u64 (.ofNat d)::r=>bif yF d 18446744073709551616 then (match om r with | some l=>some (d::l) | none=>none) else none
 | _::_=>none
def oM:List Nat->Nat
 | []=>0
 | a::r=>a+18446744073709551616*oM r
def su:List Nat->Bool
 | []=>false
 | [a]=> !ym a 0
 | _::r=>su r
def IN:List AV->Option AV
 | [.agg [.int .i64 s,.af]]=>bif sn s then some (.str (aS s)) else none
 | [.agg [.int .i64 s,.aq _ n cs]]=>
  match om cs with
  | some l=>
   bif ym l.length n&&(yx n 4000000000&&(su l&&yx 9223372036854775808 (oM l))) then
    match s with
    | .ofNat 1=>some (.str (aw (oM l)))
    | .negSucc 0=>some (.str (45::aw (oM l)))
    | _=>none
   else none
  | none=>none
 | _=>none
def RF:∀{l:List Nat},lo 18446744073709551616 l->om (l.map uc)=some l
 | [],_=>rfl
 | a::l,h=>by
  have h1:=h a (by simp);have h2:=RF (l:=l) (fun x hx=>h x (by simp [hx]));show (bif yF a 18446744073709551616 then (match om (l.map uc) with | some l=>some (a::l) | none=>none) else none)=_
  rw [jd h1,h2];rfl
def MI:∀l:List Nat,oM l=bv 18446744073709551616 l
 | []=>rfl
 | a::l=>by simp only [oM,bv,MI l]
def Tp:∀{l:List Nat},l≠[]->fo l->su l=true
 | [],h,_=>absurd rfl h
 | [a],_,h=>by
  have:a≠0:=fun e=>by
   subst e;have h:dt [0]=[0]:=h;simp [dt] at h
  simp [su,fM this]
 | a::b::r,_,h=>by
  have h1:fo (b::r):=by
   have h:dt (a::b::r)=a::b::r:=h;rw [dt] at h
   grind
  have:=Tp (l:=b::r) (by simp) h1
  simpa [su] using this
section
variable {P:aR} {L:Lib}
structure Tx (P:aR) (L:Lib):Prop extends Fr' P L where
 C3:L.pure 99=some IN
 anr:L.pure 175=some EO
 Xg:L.pure 152=some HK
 Ow:L.pure 153=some Hw
 Ox:L.pure 154=some Fp
 Oy:L.pure 109=some Jw
 Oz:Has P L 155 JF
 Xh:Has P L 172 JJ
 ans:Has P L 151 JE
 ant:Has P L 107 Jy
 P6:Has P L 46 KA
 Xi:Has P L 110 Jz
 KY:Has P L 62 KB
def P7 (h:Tx P L) {v:AV} {z:Int} {K:Nat} (hv:b7 v z) (hz:Bd K z) (hK:K<=4000000000):ai P L 99 [v] (.str (aS z)):=by
 obtain ⟨s,w,rfl,hn⟩:=hv;unfold ai;rw [gX h.C3];rcases hn with ⟨rfl,rfl,h1,h2⟩ | ⟨e,l,rfl,g,n,hb,hs,h1⟩
 ·show (bif sn s then some (AV.str (aS s)) else none)=_
  have:sn s=true:=by
   cases s with
   | ofNat k=>exact jd (by have:(Int.ofNat k)=(k:Int):=rfl;omega)
   | negSucc k=>exact jd (by omega)
  grind
 ·have iT:l≠[]:=fun e=>by subst e;simp [bv] at hb;omega
  have pc:l.length<=4000000000:=xi (lR n hb (yR hz (rY K))) hK
  show (match om (l.map uc) with
   | some l'=>bif ym l'.length l.length&&(yx l.length 4000000000&&(su l'&&yx 9223372036854775808 (oM l'))) then (match s with | .ofNat 1=>some (AV.str (aw (oM l'))) | .negSucc 0=>some (.str (45::aw (oM l'))) | _=>none) else none
   | none=>none)=_
  rw [RF g];simp only [Nat.beq_refl,yu pc,Tp iT n,MI,hb,yu h1,wC,yp];by_cases h0:z<0
  ·rw [yT h0] at hs;subst hs;rw [lm h0];rfl
  ·rw [yE h0] at hs;subst hs;obtain ⟨m,rfl⟩:∃m:Nat,z=m:=⟨z.toNat,by omega⟩;rfl
def RT (r:Rat):List Nat:=aS r.num++(if r.den=1 then [] else 47::aw r.den)
def Em {z:Int} {k:Nat} (h:Bd k z):(aS z).length<=k+1:=by
 have h1:∀m:Nat,m<2^k->(aw m).length<=max k 1:=fun m hm=>by
  cases k with
  | zero=>
       have:m=0:=by simpa using hm
       subst this;decide
  | succ k=>
   rw [Nat.max_eq_left (by omega)];exact oc (k:=k) (yR hm (uH (by decide) _))
 by_cases h0:z<0
 ·rw [lm h0];unfold Bd at h
  grind
 ·obtain ⟨m,rfl⟩:∃m:Nat,z=m:=⟨z.toNat,by omega⟩
  have:=h1 m (by unfold Bd at h;simpa using h)
  rw [jQ];omega
def m46 (h:Tx P L) {v:AV} {a:Rat} {K:Nat} (hv:ez v a) (ka:Hq K a) (hK:K<=4000000000):ai P L 46 [v] (.str (RT a)):=by
 have i1:=P5 h.toFr' hv;obtain ⟨s1,w1,s2,w2,rfl,h1,h2⟩:=hv;obtain ⟨l1,u1⟩:=h1.aU;obtain ⟨l2,u2⟩:=h2.aU;have e1:=P7 h (v:= .agg [aa s1,w1]) ⟨s1,w1,rfl,h1⟩ ka.1 hK;have e2:=P7 h (v:= .agg [aa s2,w2]) ⟨s2,w2,rfl,h2⟩ ka.2 hK;have b1:=Em ka.1;have b2:=Em ka.2;rw [jQ] at e2 b2;unfold ai RT;rw [aK h.P6];by_cases hd:a.den=1
 ·rw [yT hd,wD];rw [hd] at i1;simp only [go_sem,ya,yc,KA,aZ,u1.pu,u1.ak,u1.one,u2.pu,u2.ak,u2.one,iM,bY,i1,bL,yj,B7,e1]
 ·rw [yE hd];rw [xb hd] at i1;have hc:aS a.num++47::aw a.den=(aS a.num++[47])++aw a.den:=by simp
  rw [hc]
  simp only [go_sem,ya,yc,KA,aZ,u1.pu,u1.ak,u1.one,u2.pu,u2.ak,u2.one,iM,bY,i1,bL,yj,B7,Jn,e1,e2,fc (a:=aS a.num) (b:=[47]) (by simp;omega),fc (a:=aS a.num++[47]) (b:=aw a.den) (by simp;omega)]
end
def anu {n:Nat} (h:n<9223372036854775808):binOp .and (.int .i64 (n:Int)) (.int .i64 1)=some (.int .i64 ((n%2:Nat):Int)):=by
 show some (AV.int .i64 (IntKind.wrap .i64 ((xD 64 (n:Int)&&&xD 64 1).toNat:Int)))=_
 rw [show xD 64 (n:Int)=vS 64 n from BitVec.ofInt_natCast 64 n,show xD 64 1=vS 64 1 from rfl];rw [BitVec.toNat_and,wV,wV,show (1%2^64:Nat)=2^1-1 from rfl,Nat.and_two_pow_sub_one_eq_mod,wrapN (by omega)]
 grind
def anv (n:Nat):binOp .shr (.int .i64 (n:Int)) (.int .u64 1)=some (.int .i64 ((n/2:Nat):Int)):=by
 show some (AV.int .i64 ((n:Int).fdiv (2^1)))=_
 grind
def Bd.pow {k:Nat} {z:Int} (h:Bd k z):∀e,Bd (k*e+1) (z^e)
 | 0=>by rw [tk,xz];unfold Bd;decide
 | e+1=>by
  have ih:=Bd.pow h e;rw [Int.pow_succ];exact (ih.mul h).mono (by rw [xt,yo];omega)
section
variable {P:aR} {L:Lib}
def akg (h:Nu P L) (J5:True) {z:Int} {K k0:Nat} (hz:Bd K z) (hK:K*k0+1<=30000000000) {o1 o2:AV}:
  ∀m st,(∃(k i e:Nat) (s1 s2:Int) (w1 w2:AV),aV [1,2,4,5] st=⟨[(1,aa k),(2,.ptr 0 0),(4,.ptr 1 0),(5,.ptr 2 0)],[(2,.cells true true true 2 [aa s2,w2]),(1,.cells true true true 2 [o1,o2]),(0,.cells true true true 2 [aa s1,w1])],3,0⟩/\cU s1 w1 (z^i)/\cU s2 w2 (z^e)/\e+i*k=k0/\(0<k->i<=k0)/\k<9223372036854775808/\k=m)->
   ∃ex st',D P L (.loop [1,2,4,5] zZ) st=some (ex,st')/\∃tm s2 w2 c0,st'=⟨tm,[(2,.cells true true true 2 [aa s2,w2]),(1,.cells true true true 2 [o1,o2]),(0,c0)],3,0⟩/\ex= .exit 0/\ah tm 4= .ptr 1 0/\ah tm 5= .ptr 2 0/\cU s2 w2 (z^k0):=by
 intro dq sq;generalize bz:aV [1,2,4,5] sq=s0;revert bz s0 sq dq;apply eb;rintro m st ⟨k,i,e,s1,s2,w1,w2,rfl,h1,h2,hk,hi,hkb,rfl⟩;obtain ⟨l1,u1⟩:=h1.aU;obtain ⟨l2,u2⟩:=h2.aU;by_cases Gz:k=0
 ·right
  subst Gz;rw [xz,yX] at hk;subst hk;simp only [go_sem,zZ,show ¬(0:Int)<((0:Nat):Int) by omega];exact ⟨_,_,rfl,by simp,_,s2,w2,_,rfl,rfl,by simp only [go_sem,ya],by simp only [go_sem,ya],h2⟩
 ·left
  have dJ:=hi (by omega);have he:e<=k0:=by omega
  have hik:i*1<=i*k:=yO i (by omega);have b1:Bd (K*k0+1) (z^i):=(hz.pow i).mono (by have:=yO K dJ;omega);have b2:Bd (K*k0+1) (z^e):=(hz.pow e).mono (by have:=yO K he;omega);have n1:b7 (.agg [aa s1,w1]) (z^i):=⟨s1,w1,rfl,h1⟩;have n2:b7 (.agg [aa s2,w2]) (z^e):=⟨s2,w2,rfl,h2⟩;obtain ⟨p,e1,hp⟩:=Cx h n2 n1 b2 b1 (by omega);obtain ⟨q,e2,hq⟩:=Cx h n1 n1 b1 b1 (by omega);rw [<-Int.pow_add] at hp hq;obtain ⟨s3,w3,rfl,h3⟩:=hp;obtain ⟨s4,w4,rfl,h4⟩:=hq;obtain ⟨l3,u3⟩:=h3.aU;obtain ⟨l4,u4⟩:=h4.aU;have eJ:=xH k 2;have Hc:=anu (n:=k) hkb;have P8:=anv k;have aro:(i+i)*(k/2)=i*(2*(k/2)):=by rw [<-Nat.two_mul,xv 2 i,xf]
  by_cases anw:k%2=1
  ·rw [anw] at Hc eJ;have nR:i*k=i*(2*(k/2))+i:=by
    conv=>lhs;rw [<-eJ,xt,yo]
   by_cases kU:1<k
   ·simp only [go_sem,ya,zZ,show (0:Int)<(k:Int) by omega,Hc,show ((1:Nat):Int)=1 from rfl,bQ,bY,u1.ak,u2.ak,e1,bN,bQ,yy,du u3,du u4,show (1:Int)<(k:Int) by omega,e2,P8]
    exact ⟨_,k/2,rfl,by omega,k/2,i+i,e+i,s4,s3,w4,w3,by simp only [go_sem,ya,yc,aA],h4,h3,by omega,fun h0=>by have:=yO (i+i) h0;omega,by omega,rfl⟩
   ·have eR:e+i+i*(k/2)=k0:=by
     have h1:k/2=0:=by omega
     rw [h1] at nR ⊢;omega
    simp only [go_sem,ya,zZ,show (0:Int)<(k:Int) by omega,Hc,show ((1:Nat):Int)=1 from rfl,bQ,bY,u1.ak,u2.ak,e1,bN,bQ,yy,du u3,show ¬(1:Int)<(k:Int) by omega,P8];exact ⟨_,k/2,rfl,by omega,k/2,i,e+i,s1,s3,w1,w3,by simp only [go_sem,ya,yc,aA],h1,h3,eR,fun h0=>by omega,by omega,rfl⟩
  ·have A6:k%2=0:=by omega
   rw [A6] at Hc eJ;have nR:i*k=i*(2*(k/2)):=by
    conv=>lhs;rw [<-eJ,yX]
   simp only [go_sem,ya,zZ,show (0:Int)<(k:Int) by omega,Hc,show ((0:Nat):Int)=0 from rfl,uv,bQ,bY,u1.ak,bN,bQ,yy,du u4,show (1:Int)<(k:Int) by omega,e2,P8]
   exact ⟨_,k/2,rfl,by omega,k/2,i+i,e,s4,s2,w4,w2,by simp only [go_sem,ya,yc,aA],h4,h2,by omega,fun h0=>by have:=yO (i+i) h0;omega,by omega,rfl⟩
def anx (h:Nu P L) (Oz:Has P L 155 JF) {v:AV} {z:Int} {K k:Nat} (hv:b7 v z) (hz:Bd K z) (hK:K*k+1<=30000000000) (hk:k<9223372036854775808):∃r,ai P L 155 [v,aa k] r/\b7 r (z^k):=by
 obtain ⟨o1,o2⟩:=AO h (z:=1) (by decide) (by decide);obtain ⟨s1,w1,rfl,h1⟩:=hv;obtain ⟨l1,u1⟩:=h1.aU;have un:=pI;have gN:∃s w,ai P L 155 [.agg [aa s1,w1],aa k] (.agg [aa s,w])/\cU s w (z^k):=by
  unfold ai;rw [aK Oz];simp only [go_sem,ya,yc,JF,aZ,u1.pu,u1.one,o1,bN,du un];generalize hq:D P L (.loop [1,2,4,5] zZ) _=q;obtain ⟨ex,st,rfl,tm,s5,w5,c1,rfl,rfl,t4,t5,h5⟩:=bP hq (akg (P:=P) (L:=L) h trivial hz (k0:=k) hK (o1:= .int .i64 0) (o2:= .af) k) ⟨k,1,0,s1,1,w1,.af,by simp only [go_sem,ya,yc,aA],by rw [Int.pow_one];exact h1,.inl ⟨rfl,(tk z).symm,(by rw [tk];decide)⟩,by omega,fun h0=>h0,hk,rfl⟩
  obtain ⟨l5,u5⟩:=h5.aU;refine ⟨s5,w5,?_,h5⟩;simp only [go_sem,ya,yc,aA,t4,t5,ek,er,bQ,yy,kJ u5,du u5]
 obtain ⟨s,w,e,hn⟩:=gN;exact ⟨_,e,s,w,rfl,hn⟩
def Eu:∀(l m:List Nat) (a:Nat),cr (l++m) a=(cr l a).bind (fun v=>cr m v)
 | [],m,a=>rfl
 | b::l,m,a=>by
  simp only [List.cons_append,cr]
  cases (yx 48 b&&yx b 57) with
  | true=>exact Eu l m _
  | false=>rfl
def afc:∀{l:List Nat} {a v:Nat},cr l 0=some v->cr l a=some (a*10^l.length+v):=by
 intro l
 suffices h:∀{l:List Nat} {a b v:Nat},cr l b=some v->b*10^l.length<=v/\cr l (a+b)=some (a*10^l.length+v) by
  intro a v hv
  have:=(h (a:=a) hv).2
  grind
 intro l
 induction l with
 | nil=>intro a b v h;simp [cr] at h ⊢;omega
 | cons c l ih=>
  intro a b v h;simp only [cr] at h ⊢
  cases hb:(yx 48 c&&yx c 57) with
  | false=>rw [hb] at h;cases h
  | true=>
   rw [hb] at h;obtain ⟨h1,h2⟩:=ih (a:=10*a) h;simp only [yH,y9]
   grind
def MJ:∀{l:List Nat} {v:Nat},cr l 0=some v->v<10^l.length:=by
 suffices h:∀{l:List Nat} {b v:Nat},cr l b=some v->v<(b+1)*10^l.length by
  grind
 intro l
 induction l with
 | nil=>intro b v h;simp [cr] at h ⊢;omega
 | cons c l ih=>
  intro b v h;simp only [cr] at h
  cases hb:(yx 48 c&&yx c 57) with
  | false=>rw [hb] at h;cases h
  | true=>
   simp only [Bool.and_eq_true] at hb;have hc:=Nat.le_of_ble_eq_true hb.2;have h2:=yS (10^l.length) (show 10*b+(c-48)+1<=10*(b+1) by omega)
   grind
def ahb (Ox:L.pure 154=some Fp) {f:bZ} {s:List Nat} {v:Nat} (h0:0<s.length) (h1:s.length<=18) (hv:cr s 0=some v):bA P L f 154 [.str s]=some (.av [.int .i64 v,.undef]):=by
 rw [gX Ox];show (bif yF 0 s.length&&yx s.length 18 then (match cr s 0 with | some n=>some (AV.av [.int .i64 n,.undef]) | none=>none) else none)=_
 rw [jd h0,yu h1,hv];rfl
end
end VE
