import Derived.Test.YtjemkccfpkgopaaGreatDoorWas
import Derived.Test.YtjemkccfpkgopaaGreatDoorWaq
import Derived.Test.YtjemkccfpkgopaaGreatDoorWao
import Derived.Test.YtjemkccfpkgopaaGreatDoorWah
import Derived.Test.YtjemkccfpkgopaaGreatDoorWap
set_option linter.all false
set_option maxRecDepth 100000
open Bool renaming and_eq_true→yg,and_self→wm,and_true→vt,false_and→xN,false_eq_true→yI,not_false→yO,not_true→yR,true_and→wA,true_eq_false→yaA,true_or→yaQ
open Int renaming gcd→vc,natAbs_ediv_of_dvd→um,natAbs_natCast→vn,neg_neg→ybD,reduceEq→vV,tdiv_eq_ediv_of_nonneg→wC,toNat_natCast→xX
open List renaming append_nil→xY,cons_append→xk,drop→vD,drop_eq_getElem_cons→yP,drop_eq_nil_of_le→xf,drop_left→uP,drop_zero→yL,eq_nil_of_length_eq_zero→yB,flatten_cons→vA,getD_eq_getElem?_getD→y9,getElem?_eq_getElem→xM,getElem_cons_zero→xv,getElem_mem→yS,length→tG,length_append→yG,length_cons→yz,length_drop→xT,length_map→yr,length_nil→yK,length_pos_iff→tk,length_set→vm,length_take→yE,map→wb,map_append→xi,map_cons→xa,map_nil→vM,nil_append→xB,replicate→yj,replicate_succ→wo,set_eq_take_append_cons_drop→vR,take_left→uO,take_length→xD,take_of_length_le→yN,take_succ_eq_append_getElem→xb,take_zero→yah
open Nat renaming add_comm→yaD,add_zero→yY,beq→yv,beq_refl→wW,ble→yF,ble_eq_true_of_le→ym,blt→yQ,div_eq_of_lt→wT,eq_zero_or_pos→xp,gcd→wN,gcd_comm→uY,le_of_ble_eq_true→yy,le_refl→yu,le_trans→xm,lt_of_lt_of_le→yU,min_eq_left→xA,mod_eq_of_lt→yW,mul_add→xI,mul_assoc→xo,mul_comm→xL,mul_le_mul_left→yZ,mul_lt_mul''→tX,mul_lt_mul_of_pos_right→wK,mul_one→yf,mul_pos→yae,mul_zero→xJ,pow_le_pow_left→vZ,pow_le_pow_right→xh,pow_lt_pow_iff_right→tU,pow_succ→xd,reduceAdd→yb,reduceEqDiff→ya,reduceLT→yD,reduceLeDiff→yk,reduceMul→xt,sub_self→yaK,zero_add→ye,zero_le→uf,zero_mul→tS
open Rat renaming divInt→wE,num_eq_zero→yba
namespace VE
section
open Go (IntKind)
section
variable {P:aK} {L:Lib}
def aze (h:Has P L 292 zU) {n:Nat} (hn:n<1000000000):ak P L 292 [ab n,ab 9] (.str (iJ 9 n)):=by
 have key:=gh (P:=P) (L:=L) (live:=[0,1,5]) (a:=nW)
  (I:=fun k st=>∃(m:Nat) (s:List Nat),st=⟨[(0,ab m),(1,ab 9),(5,.str s)],[],0,0⟩/\s.length+k=9/\m<10^k/\iJ 9 n=iJ k m++s)
  (Q:=fun ex st=>∃tm ct,st=⟨tm,[],ct,0⟩/\ex= .exit 0/\ai tm 5= .str (iJ 9 n)) ?_
 ·unfold ak;rw [aH h];simp only [go_sem,zU];generalize hq:D P L (.loop [0,1,5] nW) _=q;obtain ⟨ex,st,rfl,tm,ct,rfl,rfl,h2⟩:=bJ hq (key 9) ⟨n,[],by simp only [go_sem,ya,ax]<;>rfl,rfl,by omega,by simp⟩
  simp only [go_sem,ax,h2]
 ·rintro k st ⟨m,s,rfl,hk,hm,hs⟩
  cases k with
  | zero=>
   right
   have hm0:m=0:=by simpa using hm
   subst hm0;simp only [go_sem,ya,nW,show ¬(0:Int)<((0:Nat):Int) by omega,show ¬((s.length:Nat):Int)<9 by omega];refine ⟨_,_,rfl,by simp,_,_,rfl,rfl,?_⟩;rw [hs];rfl
  | succ k=>
   left
   have hr:((m:Int)).tmod 10=((m%10:Nat):Int):=by rw [Int.tmod_eq_emod_of_nonneg (by omega)];rfl
   have hq:((m:Int)).tdiv 10=((m/10:Nat):Int):=by rw [wC (by omega)];rfl
   have hd:=abW (r:=m%10) (by omega);have KK:m<10000000000:=yU hm (by simpa using xh (show 0<10 by decide) (show k+1<=10 by omega));have fin:∃s',D P L nW ⟨[(0,ab m),(1,ab 9),(5,.str s)],[],0,0⟩=some (.normal,s')/\aI [0,1,5] s'=⟨[(0,ab (m/10:Nat)),(1,ab 9),(5,.str ([48+m%10]++s))],[],0,0⟩:=by
    by_cases hc:(0:Int)<m
    ·simp only [go_sem,ya,yb,nW,hc,iV _ _ _ (show (10:Int)≠0 by decide),gG _ _ _ (show (10:Int)≠0 by decide),hr,hq,wrapN (n:=m%10+1) (by omega),wrap64 (n:=((m/10:Nat):Int)) (by omega) (by omega),eO,dM,show ((m%10:Nat):Int)+1=((m%10+1:Nat):Int) from rfl,hd,gH (a:=[48+m%10]) (b:=s) (by simp;omega)];exact ⟨_,rfl,by simp only [go_sem,ya,ax]⟩
    ·simp only [go_sem,ya,yb,nW,hc,show ((s.length:Nat):Int)<9 by omega,iV _ _ _ (show (10:Int)≠0 by decide),gG _ _ _ (show (10:Int)≠0 by decide),hr,hq,wrapN (n:=m%10+1) (by omega),wrap64 (n:=((m/10:Nat):Int)) (by omega) (by omega),eO,dM,show ((m%10:Nat):Int)+1=((m%10+1:Nat):Int) from rfl,hd,gH (a:=[48+m%10]) (b:=s) (by simp;omega)];exact ⟨_,rfl,by simp only [go_sem,ya,ax]⟩
   obtain ⟨s',f1,f2⟩:=fin;exact ⟨s',k,f1,by omega,m/10,_,f2,by simp;omega,by rw [xd] at hm;omega,by rw [hs];simp [iJ]⟩
end
end
section
open Go (IntKind)
def last_pos {l:List Int} (hd:dg l) (hn:nz l) (h:0<l.length):0<l.getD (l.length-1) 0:=by
 rcases snoc l with rfl | ⟨m,a,rfl⟩
 ·grind
 ·have e:(m++[a]).getD ((m++[a]).length-1) 0=a:=by simp_all
  have ha:=lE.1 (ig.1 hd).2;by_cases h0:a=0
  ·subst h0
   have:=Mh m
   have e:=congrArg tG hn;rw [HU] at e
   grind
  ·omega
section
variable {P:aK} {L:Lib}
def azf (qV:Has P L 292 zU) {neg:Bool} {w:AV} {l:List Int} (hw:bt w l) (hd:dg l) (hn:nz l) (hl:l.length<=20000000000):
  ∀k s,(∃(j:Nat) (t:List Nat),aI [1,3,4] s=⟨[(1,.ptr 0 0),(3,.str t),(4,ab ((j:Int)-1))],[(0,.cells true true true 2 [.bool neg,w])],1,0⟩/\j=k/\j<l.length/\0<dv (l.drop j)/\t=aB (dv (l.drop j))/\t.length<=9*(l.length-j))->
   ∃ex s',D P L (.loop [1,3,4] IR) s=some (ex,s')/\∃tm,s'=⟨tm,[(0,.cells true true true 2 [.bool neg,w])],1,0⟩/\ex= .exit 0/\ai tm 1= .ptr 0 0/\ai tm 3= .str (aB (dv l))/\(aB (dv l)).length<=180000000000:=by
 intro dq sq;generalize bk:aI [1,3,4] sq=s0;revert bk s0 sq dq;apply du;rintro k s ⟨j,t,rfl,rfl,hj,BJ,ht,htl⟩
 cases j with
 | zero=>
  right
  rw [yL] at ht;simp only [go_sem,ya,IR,show ¬(0:Int)<=((0:Nat):Int)-1 by omega];exact ⟨_,_,rfl,by simp,_,rfl,rfl,by simp only [go_sem,ya],by rw [<-ht];simp only [go_sem,ya],by rw [<-ht];omega⟩
 | succ i=>
  left
  have hi:i<l.length:=by omega
  obtain ⟨x,hx⟩:∃x,x=l.getD i 0:=⟨_,rfl⟩;have e1:=qO hw hi;have gx:=im hd i;rw [<-hx] at e1 gx;obtain ⟨m,rfl⟩:∃m:Nat,x=m:=⟨x.toNat,by omega⟩;have e2:=aze qV (n:=m) (by omega);unfold ak at e2;have hlp:=R3 9 m;have jl:dv (l.drop i)=dv (l.drop (i+1))*10^9+m:=by
   have:l.drop i=(m:Int)::l.drop (i+1):=by
    rw [yP hi,hx];simp [y9,xM hi]
   rw [this];simp only [dv,xX];omega
  have aCP:aB (dv (l.drop i))=t++iJ 9 m:=by
   rw [jl,MB 9 _ m BJ (by omega),ht]
  simp only [go_sem,ya,IR,show ((i+1:Nat):Int)-1=(i:Int) by omega,show (0:Int)<=(i:Int) by omega,b5,ye,de,e1,e2,gH (a:=t) (b:=iJ 9 m) (by omega)];refine ⟨_,i,rfl,by omega,i,t++iJ 9 m,?_,rfl,by omega,by omega,aCP.symm,by simp;omega⟩;rw [wrap64 (by omega) (by omega)];simp only [go_sem,ya,yb,ax]<;>rfl
def alB (h:Has P L 282 JN) (qV:Has P L 292 zU) {v:AV} {n:Int} {K:Nat} (hK:K<=18000000000) (hv:kI v n) (hn:n.natAbs<1000000000^K):ak P L 282 [v] (.str (aZ n))/\(aZ n).length<=180000000001:=by
 obtain ⟨w,l,rfl,hw,hd,hz,qh⟩:=hv;have hl:=xm (jv hd hz (by rw [qh];exact hn)) hK
 by_cases h0:l=[]
 ·subst h0;have BT:n=0:=by simp [dv] at qh;omega
  subst BT;refine ⟨?_,by decide⟩;unfold ak;rw [aH h];simp only [go_sem,ya,yb,JN,bi,hw.len,hw.pu,hw.one,b5,ye,de,yK,show ((0:Nat):Int)=(0:Int) from rfl,yq];rfl
 ·have BJ:0<l.length:=tk.2 h0;obtain ⟨x,hx⟩:∃x,x=l.getD (l.length-1) 0:=⟨_,rfl⟩;have e1:=qO hw (show l.length-1<l.length by omega);have gx:=im hd (l.length-1);have gp:=last_pos hd hz BJ;rw [<-hx] at e1 gx gp;obtain ⟨m,rfl⟩:∃m:Nat,x=m:=⟨x.toNat,by omega⟩;have e2:=YD qV (n:=m) (by omega);have jl:dv (l.drop (l.length-1))=m:=by
   rw [yP (show l.length-1<l.length by omega),xf (by omega)]
   have:l[l.length-1]=(m:Int):=by rw [hx];simp [y9,xM (show l.length-1<l.length by omega)]
   simp [dv,this]
  have h9:(aB m).length<=9:=rJ (k:=8) (by omega);have fin:∀neg:Bool,bL P L (D P L) 282 [.agg [.bool neg,w]]=some (.str ((if neg=true then [45] else [])++aB (dv l)))/\(aB (dv l)).length<=180000000000:=fun neg=>by
   rw [aH h]
   simp only [go_sem,ya,yb,JN,bi,hw.len,hw.pu,hw.one,b5,ye,de,show ¬(l.length:Int)=0 by omega,show (l.length:Int)-1=((l.length-1:Nat):Int) by omega,wrapN (n:=l.length-1) (by omega),e1,e2];generalize hq:D P L (.loop [1,3,4] IR) _=q;obtain ⟨ex,s,rfl,tm,rfl,rfl,t1,t3,hlen⟩:=bJ hq (azf (P:=P) (L:=L) qV (neg:=neg) hw hd hz (by omega) (l.length-1)) ⟨l.length-1,aB m,by
    rw [show (l.length:Int)-2=((l.length-1:Nat):Int)-1 by omega,wrap64 (by omega) (by omega)]
    simp only [go_sem,ya,yb,ax]<;>rfl,rfl,by omega,by rw [jl];omega,by rw [jl],by omega⟩
   refine ⟨?_,hlen⟩
   cases neg with
   | true=>
    simp only [go_sem,ya,ax,t1,t3,b5,ye,gH (a:=[45]) (b:=aB (dv l)) (by simp;omega),xE]
   | false=>
    simp only [go_sem,ya,ax,t1,t3,b5,ye];rfl
  obtain ⟨f1,f2⟩:=fin (decide (n<0));rw [qh] at f1 f2;simp only [wh] at f1;rw [nO] at f1;refine ⟨f1,?_⟩;rw [<-nO]
  split<;>simp<;>omega
structure Rb (P:aK) (L:Lib):Prop where
 aCQ:Has P L 262 JH
 BA:Has P L 272 JM
 alC:Has P L 274 Oh
 alD:Has P L 275 Oi
 aCR:Has P L 277 Dq
 aCS:Has P L 280 od
 aCT:Has P L 281 Uk
 alE:Has P L 282 JN
 alF:Has P L 288 On
 Kq:Has P L 289 se
 z8:Has P L 290 Fx
 YE:Has P L 291 JP
 qV:Has P L 292 zU
 kT:Has P L 293 Br
 jA:Has P L 294 Bs
 Y7:Has P L 295 JQ
 oA:Has P L 296 sf
 alG:Has P L 298 Oo
 pP:Has P L 299 Bt
 cX:Has P L 300 lL
 nk:Has P L 302 sj
structure Ras (P:aK) (L:Lib):Prop extends Rb P L where
 alH:Has P L 264 JI
 aCU:Has P L 268 JK
 aCV:Has P L 271 Uj
 aCW:Has P L 276 pK
 Kr:Has P L 278 Oj
 aCX:Has P L 279 Fw
 PA:Has P L 297 JR
structure Ra (P:aK) (L:Lib):Prop extends Ras P L where
 alI:Has P L 267 JJ
end
end
section
open Go (IntKind)
section
variable {P:aK} {L:Lib}
def avm {v w:AV} {a vs:List Int} {f:Int} (hv:bt v a) (hw:bt w vs) {n:Nat} (la:a.length<=9000000000) {A:Nat}:
  ∀k st,(∃us:List Int,aI [0,8,9,10,11] st=⟨[(0,v),(8,.ao 0 0 1),(9,w),(10,ab n),(11,.ao 1 0 us.length)],[(1,.cells true true false 1 (us.map ab)),(0,.cells false true true 1 [ab f])],2,0⟩/\us.length+k=a.length+1/\dg us/\dv us=A)->
   ∃ex st',D P L (.loop [0,8,9,10,11] IS) st=some (ex,st')/\∃tm us,st'=⟨tm,[(1,.cells true true false 1 (us.map ab)),(0,.cells false true true 1 [ab f])],2,0⟩/\ex= .exit 0/\ai tm 8= .ao 0 0 1/\ai tm 9=w/\ai tm 10=ab n/\ai tm 11= .ao 1 0 (a.length+1)/\us.length=a.length+1/\dg us/\dv us=A:=by
 intro dq sq;generalize bk:aI [0,8,9,10,11] sq=s0;revert bk s0 sq dq;apply du;rintro k st ⟨us,rfl,hk,gu,aS⟩;have ea:((a.length:Nat):Int)+1=((a.length+1:Nat):Int):=rfl;by_cases hi:us.length<a.length+1
 ·left
  simp only [go_sem,ya,yb,yk,yf,IS,hv.len,ea,wrapN (n:=a.length+1) (by omega),show ((us.length:Nat):Int)<((a.length+1:Nat):Int) by omega]
  rw [fS (ex:=false) (pu:=true) (cs:=us.map ab) (by simp only [go_sem,ya]) (by simp) (by omega) (by omega) (by decide) (by simp only [go_sem])];refine ⟨_,k-1,rfl,by omega,us++[0],?_,by simp;omega,ig.2 ⟨gu,lE.2 (by decide)⟩,by rw [mN];simp [dv,aS]⟩;rw [xi,yG];simp only [go_sem,ya,yb,ax,aD hv.pu,aE _ hv.pu,aD hw.pu,aE _ hw.pu]<;>rfl
 ·right
  have hl:us.length=a.length+1:=by omega
  rw [hl]
  simp only [go_sem,ya,IS,hv.len,ea,wrapN (n:=a.length+1) (by omega),show ¬((a.length+1:Nat):Int)<((a.length+1:Nat):Int) by omega];exact ⟨_,_,rfl,by simp,_,us,rfl,rfl,by simp only [go_sem,ya],by simp only [go_sem,ya],by simp only [go_sem,ya],by simp only [go_sem,ya],hl,gu,aS⟩
end
def aiO:∀l:List Int,cp (l.map ab)=true
 | []=>rfl
 | a::r=>by rw [xa,acN,aiO r];rfl
def aiP:∀l:List Int,aG (l.map ab)=true
 | []=>rfl
 | a::r=>by rw [xa,aG,aiP r];rfl
def avn {hp:Hp} {ct:Nat} {e:Bool} {us:List Int} {o:Obj} (h:us.length<=100000000000):
  sr ((1,.cells true true true 1 [])::(0,o)::hp) ct 1 8 (.ao 1 0 0) (iE ((1,.cells true true true 1 [])::(0,o)::hp) 1 (.aw e us.length (us.map ab)))=some (.ao ct 0 us.length,(ct,.cells true true false 1 (us.map ab))::dJ ((1,.cells true true true 1 [])::(0,o)::hp) 1,ct+1):=by
 have h1:iE ((1,.cells true true true 1 [])::(0,o)::hp) 1 (.aw e us.length (us.map ab))=some (us.length,us.map ab):=by
  simp [iE]
 rw [h1,fS (cs:=[]) (pu:=true) (ex:=true) rfl (by simp) (by omega) (by omega) (by decide) (aiO us),aiP,ye];rfl
def azg {l:List Int} (hd:dg l) (hn:nz l) (h:0<l.length):1000000000^(l.length-1)<=dv l:=NH hn hd (fun e=>by subst e;simp at h)
def atg {n top f V:Nat} (hf:f=1000000000/(top+1)) (ht0:0<top) (ht:top<1000000000) (h1:V<1000000000^(n-1)*(top+1)) (hn:0<n):0<f/\f<1000000000/\V*f<1000000000^n:=by
 have h2:f*(top+1)<=1000000000:=by rw [hf];exact Nat.div_mul_le_self _ _
 have h3:0<f:=by rw [hf];exact Nat.div_pos (by omega) (by omega)
 refine ⟨h3,?_,?_⟩
 ·have:=yZ f (show 2<=top+1 by omega)
  omega
 ·have e1:=wK h1 h3;have e2:=yZ (1000000000^(n-1)) h2;rw [<-xd,show (n-1).succ=n by omega] at e2
  grind
section
variable {P:aK} {L:Lib}
def azh (h:Has P L 289 se) (kT:Has P L 293 Br) (pP:Has P L 299 Bt) (cX:Has P L 300 lL) (qW:Has P L 301 zV) {v w:AV} {a b:List Int} (hv:bt v a) (hw:bt w b) (ha:dg a) (hb:dg b) (na:nz a) (nb:nz b) (la:a.length<=8000000000) (lb:2<=b.length) (ec:ak P L 296 [v,w] (ab (dU (dv a) (dv b)))) (hc:dv b<=dv a):
  ∃q r lq lr,ak P L 289 [v,w] (.ae [q,r])/\bt q lq/\bt r lr/\dg lq/\nz lq/\dg lr/\nz lr/\dv lq=dv a/dv b/\dv lr=dv a%dv b:=by
 have ew:¬dU (dv a) (dv b)<0:=by unfold dU;rw [yx (by omega)];split<;>decide
 have aAW:=azg hb nb (by omega);have hba:b.length<=a.length:=by
  have:=jJ ha
  have h1:1000000000^(b.length-1)<1000000000^a.length:=by omega
  have:=(tU (show 1<1000000000 by decide)).1 h1
  omega
 obtain ⟨n,hn⟩:∃n,n=b.length:=⟨_,rfl⟩;have aCY:=im hb (n-1);have qM:=last_pos hb nb (by omega);rw [<-hn] at qM;obtain ⟨top,om⟩:∃v:Nat,b.getD (n-1) 0=v:=⟨(b.getD (n-1) 0).toNat,by omega⟩;have alJ:=qO hw (i:=n-1) (by omega);rw [om] at aCY qM alJ;have hbt:=pk (l:=b) (n-1);rw [show n-1+1=n by omega,yN (by omega),om,xX] at hbt;have aAX:=jJ (CD hb (n-1));rw [yE,xA (by omega)] at aAX;obtain ⟨f,hf⟩:∃f,f=1000000000/(top+1):=⟨_,rfl⟩;obtain ⟨Ea,hfB,hfV⟩:=atg (n:=n) (V:=dv b) hf (by omega) (by omega) (by rw [xI,yf];omega) (by omega);have hIf:bt (.aw true 1 [ab f]) [(f:Int)]:=lB true [(f:Int)];have gf:dg [(f:Int)]:=lE.2 (by omega);have vf:dv [(f:Int)]=f:=by simp [dv]
 obtain ⟨v',vs,e1,eG,hsv,D2,Lj,sY⟩:=Y6 kT cX hw hIf hb gf (by omega) (by simp);obtain ⟨u',Ci,e2,jo,DX,GG,nus,Lt⟩:=Y6 kT cX hv hIf ha gf (by omega) (by simp);rw [vf] at sY Lt;have rk:0<dv b:=by have:=Nat.pow_pos (n:=b.length-1) (show 0<1000000000 by decide);omega
 have AA:vs.length=n:=by
  have h1:vs.length<=n:=jv D2 Lj (by rw [sY];exact hfV)
  have h2:dv b<=dv vs:=by rw [sY];exact Nat.le_mul_of_pos_right _ Ea
  have h3:=jJ D2;have h4:1000000000^(n-1)<1000000000^vs.length:=by rw [hn];omega
  have:=(tU (show 1<1000000000 by decide)).1 h4
  omega
 have Qh:Ci.length<=a.length+1:=by
  refine jv GG nus ?_;rw [Lt,xd];exact tX (jJ ha) hfB
 have alK:0<Ci.length:=by
  rcases xp Ci.length with e | e
  ·have h1:0<dv a*f:=yae (by omega) Ea;rw [yB e] at Lt;simp only [dv] at Lt;omega
  ·exact e
 have eZ:0<vs.getD (n-1) 0:=by
  have:=last_pos D2 Lj (by omega)
  rwa [AA] at this
 obtain ⟨m,hm⟩:∃m,m=a.length+1-n:=⟨_,rfl⟩;have cN:∀ct:Nat,qU ct 1 8 [.int .i64 0] (some m) (some m)=some (.ao ct 0 m,.cells true true true 1 ((yj m (0:Int)).map ab)):=fun ct=>by
  rw [C2 (sz:=1) (by omega) (by omega) (by rfl) (by rfl),Q7];rfl
 obtain ⟨e,rfl⟩:∃e,u'= .aw e Ci.length (Ci.map ab):=by
  rcases jo with ⟨rfl,h0⟩ | ⟨e,rfl⟩
  ·rw [List.map_eq_nil_iff] at h0;rw [h0] at alK;simp at alK
  ·exact ⟨e,by rw [yr]⟩
 have TH:∀us:List Int,us.length=a.length+1->dv us=dv a*f->dv (us.drop m)<dv vs:=fun us hl hd=>by
  have e1:=R7 us m (by omega);have e2:=jJ ha;have e3:=wK e2 Ea;have e4:1000000000^a.length=1000000000^m*1000000000^(n-1):=by rw [<-Nat.pow_add];congr 1;omega
  rw [<-hd,e4,xo] at e3;have e5:1000000000^m*dv (us.drop m)<1000000000^m*(1000000000^(n-1)*f):=by omega
  refine yU (Nat.lt_of_mul_lt_mul_left e5) ?_;rw [sY,hn];exact Nat.mul_le_mul_right _ aAW
 have je:∃us qs,(us.length=a.length+1/\qs.length=m/\dg us/\dg qs/\dv us+dv qs*dv vs=dv a*f/\dv us<dv vs)/\
   ∃q1 r1 lr,bt q1 (dY qs)/\bt r1 lr/\dg lr/\nz lr/\dv lr=dv (us.take n)/f/\ak P L 289 [v,w] (.ae [q1,r1]):=by
  unfold ak at ec e1 e2;unfold ak;rw [aH h];have Kj:IntKind.wrap .i64 ((1000000000:Int).tdiv ((top+1:Nat):Int))=(f:Int):=by
   rw [wC (by decide),show (1000000000:Int)/((top+1:Nat):Int)=((1000000000/(top+1):Nat):Int) from rfl,<-hf,wrap64 (by omega) (by omega)]
  simp only [go_sem,ya,yb,yD,yk,yf,se,hv.ap,hw.len,hw.ap,ec,ew,show ¬(n:Int)=1 by omega,<-hn,show (n:Int)-1=((n-1:Nat):Int) by omega,wrapN (n:=n-1) (by omega),alJ,show ((top:Nat):Int)+1=((top+1:Nat):Int) from rfl,wrapN (n:=top+1) (by omega),gG _ _ _ (show ((top+1:Nat):Int)≠0 by omega),Kj,e1,hsv,eG.len,AA,e2,DX,avn (us:=Ci) (e:=e) (by omega)];generalize bk:D P L (.loop [0,8,9,10,11] IS) _=q0;obtain ⟨ex,st,rfl,tm,us,rfl,rfl,t8,t9,t10,t11,lu,gu,vu⟩:=bJ bk (avm (P:=P) (L:=L) (f:=(f:Int)) (n:=n) (A:=dv a*f) hv eG (by omega) (a.length+1-Ci.length)) ⟨Ci,by
   simp only [go_sem,ya,yb,ax,aD hv.pu,aE _ hv.pu,aD eG.pu,aE _ eG.pu]<;>rfl,by omega,GG,Lt⟩
  have em:((a.length+1:Nat):Int)-(n:Int)=(m:Int):=by omega
  have em1:(m:Int)-1=((m-1:Nat):Int):=by omega
  simp only [go_sem,ya,yb,ax,aD eG.pu,aE _ eG.pu,t8,t9,t10,t11,em,wrapN (n:=m) (by omega),cN,em1,wrapN (n:=m-1) (by omega)];generalize fm:D P L (.loop [8,9,10,11,12,13] IU) _=q1;obtain ⟨ex,st,rfl,sE,Cj,qs,rfl,rfl,t8,t10,t11,t12,lu1,Ll,gu1,gq1,aS,aW⟩:=bJ fm (avl (P:=P) (L:=L) qW (f:=(f:Int)) eG D2 AA (by omega) (show n<a.length+1 by omega) (by omega) (by omega) eZ (U0:=dv a*f) m) ⟨m,us,yj m 0,by
   rw [show ((m-1:Nat):Int)=(m:Int)-1 by omega]
   simp only [go_sem,ya,yb,ax,aD eG.pu,aE _ eG.pu]<;>rfl,rfl,yu _,lu,by simp,gu,adJ m,fun i _=>ab6 m i,by rw [adI,tS,yY,vu],TH us lu vu⟩
  have jO:∀(hp:Hp) tm (y:X),au hp 1=some (.cells true true false 1 (Cj.map ab))->dc tm (a.length+1) (some y)=some n->ff hp (.sl 1) (.ao 1 0 (a.length+1)) tm none (some y)=some (.ao 1 0 n):=fun hp tm y h1 h2=>adW h1 h2 (by omega) (by omega)
  obtain ⟨e',Lk⟩:∃e',∀hp:Hp,jN 0 n (some (false,1,Cj.map ab,hp))=some (.aw e' n ((Cj.take n).map ab),hp):=by
   refine ⟨false&&yQ 0 1&&yv n (Cj.map ab).length,fun hp=>?_⟩;simp only [jN,ye,yf,slice,yL,<-List.map_take];rw [ym (by simp;omega)];rfl
  have ltk:(Cj.take n).length=n:=by rw [yE];omega
  have jn:=lB e' (Cj.take n);rw [ltk] at jn;obtain ⟨r0,f1,fa,aCZ⟩:=BB cX jn (by omega);obtain ⟨r1,lr,f2,cC,aI7,aAY,dr,nr,vr⟩:=alx pP cX fa (AT (CD gu1 n)) (by have:=Mh (Cj.take n);omega) Ea hfB;have B7:=lB true qs;rw [Ll] at B7;obtain ⟨q1,f3,fm,aC0⟩:=BB cX B7 (by omega);rw [zg] at vr;unfold ak at f1 f2 f3;refine ⟨Cj,qs,⟨lu1,Ll,gu1,gq1,aS,aW⟩,q1,r1,lr,fm,cC,dr,nr,vr,?_⟩;have oL:jG 1 0 (AV.ao 0 0 1)=some (.ptr 0 0):=bN 0 0 (show 0<1 by omega)
  simp only [go_sem,ya,yb,ax,t8,t10,t11,t12,jO,dM,Lk,f1,aCZ,fa.ap,oL,f2,aAY,fun hp=>nP (hp:=hp) (k:=m) (sz:=1) (cs:=qs.map ab) true (by simp [Ll]) (by decide),f3,aC0];rcases fm with ⟨rfl,_⟩ | ⟨_,rfl⟩<;>rcases cC with ⟨rfl,_⟩ | ⟨_,rfl⟩<;>rfl
 obtain ⟨us,qs,⟨lu,lq,gu,gq,aS,aW⟩,q1,r1,lr,fm,cC,dr,nr,vr,e⟩:=je;rw [sY] at aS aW;have Kj:dv qs=dv a/dv b:=by
  rw [<-Nat.mul_div_mul_right _ _ Ea,<-aS,yaD,xL,Nat.mul_add_div (yae rk Ea),wT aW,yY]
 have Qj:dv us=(dv a%dv b)*f:=by
  rw [<-Nat.mul_mod_mul_right,<-aS,yaD,xL (dv qs),Nat.mul_add_mod,yW aW]
 have j9:=R7 us n (by omega);have iC:dv (us.drop n)=0:=by
  rcases xp (dv (us.drop n)) with h0 | h0
  ·exact h0
  ·have:=yZ (1000000000^n) h0
   omega
 rw [iC,xJ,yY] at j9;rw [<-j9,Qj,Nat.mul_div_cancel _ Ea] at vr;exact ⟨q1,r1,_,lr,e,fm,cC,AT gq,Ez _,dr,nr,by rw [zg,Kj],vr⟩
def ajw (h:Has P L 289 se) (kT:Has P L 293 Br) (oA:Has P L 296 sf) (pP:Has P L 299 Bt) (cX:Has P L 300 lL) (qW:Has P L 301 zV) {v w:AV} {a b:List Int} (hv:bt v a) (hw:bt w b) (ha:dg a) (hb:dg b) (na:nz a) (nb:nz b) (la:a.length<=8000000000) (lb:b.length<=8000000000) (h0:0<dv b):
  ∃q r lq lr,ak P L 289 [v,w] (.ae [q,r])/\bt q lq/\bt r lr/\dg lq/\nz lq/\dg lr/\nz lr/\dv lq=dv a/dv b/\dv lr=dv a%dv b:=by
 by_cases hl:b.length<=1
 ·exact aCJ h oA pP cX hv hw ha hb na nb (by omega) hl h0
 have ec:=Y5 oA hv hw ha hb na nb (by omega) (by omega);by_cases hc:dv a<dv b
 ·unfold ak at ec;have ew:dU (dv a) (dv b)= -1:=by unfold dU;rw [yM hc]
  rw [ew] at ec;refine ⟨.aa,v,[],a,?_,qF,hv,rfl,rfl,ha,na,?_,?_⟩
  ·unfold ak;rw [aH h];simp only [go_sem,ya,se,hv.ap,hw.ap,ec,show (-1:Int)<0 by decide];rcases hv with ⟨rfl,_⟩ | ⟨e,rfl⟩<;>rfl
  ·rw [wT hc];rfl
  ·rw [yW hc]
 ·exact azh h kT pP cX qW hv hw ha hb na nb la (by omega) ec (by omega)
def ajx (h:Has P L 275 Oi) (Kq:Has P L 289 se) (kT:Has P L 293 Br) (oA:Has P L 296 sf) (pP:Has P L 299 Bt) (cX:Has P L 300 lL) (qW:Has P L 301 zV) {v w:AV} {a b:List Int} (hv:bt v a) (hw:bt w b) (ha:dg a) (hb:dg b) (na:nz a) (nb:nz b) (la:a.length<=8000000000) (lb:b.length<=8000000000):
  ∃r l,ak P L 275 [v,w] r/\bt r l/\dg l/\nz l/\dv l=wN (dv a) (dv b):=by
 have key:=gh (P:=P) (L:=L) (live:=[0,1]) (a:=IQ)
  (I:=fun k st=>∃x y lx ly,st=⟨[(0,x),(1,y)],[],0,0⟩/\bt x lx/\bt y ly/\dg lx/\nz lx/\dg ly/\nz ly/\lx.length<=8000000000/\ly.length<=8000000000/\dv ly=k/\wN (dv lx) (dv ly)=wN (dv a) (dv b))
  (Q:=fun ex st=>∃tm ct,st=⟨tm,[],ct,0⟩/\ex= .exit 0/\∃x lx,ai tm 0=x/\bt x lx/\dg lx/\nz lx/\dv lx=wN (dv a) (dv b)) ?_
 ·unfold ak;rw [aH h];simp only [go_sem,Oi];generalize hq:D P L (.loop [0,1] IQ) _=q;obtain ⟨ex,st,rfl,tm,ct,rfl,rfl,x,lx,h2,hx,dx,nx,vx⟩:=bJ hq (key (dv b)) ⟨v,w,a,b,by simp only [go_sem,ya,ax,aD hv.pu,aE _ hv.pu,aD hw.pu,aE _ hw.pu]<;>rfl,hv,hw,ha,na,hb,nb,la,lb,rfl,rfl⟩
  refine ⟨x,lx,?_,hx,dx,nx,vx⟩;simp only [go_sem,ax,h2,hx.fO,aD hx.pu,aE _ hx.pu]
 ·rintro k st ⟨x,y,lx,ly,rfl,hx,hy,dx,nx,dy,ny,llx,lly,rfl,hg⟩;by_cases h0:ly=[]
  ·right
   subst h0;simp only [go_sem,ya,IQ,hy.len,yK,show ¬(0:Int)<((0:Nat):Int) by omega];refine ⟨_,_,rfl,by simp,_,_,rfl,rfl,x,lx,by simp only [go_sem,ya],hx,dx,nx,?_⟩;rw [<-hg];simp [dv]
  ·left
   have hp:0<dv ly:=by
    rcases xp (dv ly) with e | e
    ·exact absurd (ahe ny dy e) h0
    ·exact e
   have hl:0<ly.length:=tk.2 h0;obtain ⟨q,r,lq,lr,e1,hq,hr,dq,nq,dr,nr,vq,vr⟩:=ajw Kq kT oA pP cX qW hx hy dx dy nx ny llx lly hp;have aW:dv lr<dv ly:=by rw [vr];exact Nat.mod_lt _ hp
   have hB:=jJ dy;simp only [go_sem,ya,IQ,hx.ap,hy.len,hy.ap,show (0:Int)<ly.length by omega,e1,hq.bK,hr.bK];refine ⟨_,dv lr,rfl,aW,y,r,ly,lr,?_,hy,hr,dy,ny,dr,nr,by omega,xm (jv dr nr (Nat.lt_trans aW hB)) lly,rfl,?_⟩
   ·simp only [go_sem,ya,ax,aD hy.pu,aE _ hy.pu,aD hr.pu,aE _ hr.pu]<;>rfl
   ·rw [<-hg,vr,uY (dv ly),<-Nat.gcd_rec,uY]
end
end
section
open Go (IntKind)
section
variable {P:aK} {L:Lib}
def azi (z8:Has P L 290 Fx) {neg:Bool} {N:Nat} (hN:(aB N).length<=180000000000):
  ∀k s,(∃(i m:Nat) (out:List Int),m=k/\out.length=i/\dg out/\dv out+1000000000^i*m=N/\(aB m).length+9*i<=180000000000/\
    ((i=0/\aI [0,2,3,4] s=⟨[(0,.str (aB m)),(2,.ptr 0 0),(3,.bool neg),(4,.aa)],[(0,.cells true true true 2 [.bool false,.aa])],1,0⟩)\/
    (0<i/\aI [0,2,3,4] s=⟨[(0,.str (aB m)),(2,.ptr 0 0),(3,.bool neg),(4,.ao 1 0 i)],[(1,.cells true true false 1 (out.map ab)),(0,.cells true true true 2 [.bool false,.aa])],2,0⟩)))->
   ∃ex s',D P L (.loop [0,2,3,4] zB) s=some (ex,s')/\∃tm i m out,ex= .exit 0/\m<1000000000/\out.length=i/\dg out/\dv out+1000000000^i*m=N/\i<20000000000/\ai tm 0= .str (aB m)/\ai tm 2= .ptr 0 0/\ai tm 3= .bool neg/\
    ((i=0/\ai tm 4= .aa/\s'=⟨tm,[(0,.cells true true true 2 [.bool false,.aa])],1,0⟩)\/(0<i/\ai tm 4= .ao 1 0 i/\s'=⟨tm,[(1,.cells true true false 1 (out.map ab)),(0,.cells true true true 2 [.bool false,.aa])],2,0⟩)):=by
 intro dq sq;generalize bk:aI [0,2,3,4] sq=s0;revert bk s0 sq dq;apply du;rintro k s ⟨i,m,out,rfl,hlen,hd,aS,hl,hs⟩;by_cases hm:1000000000<=m
 ·left
  obtain ⟨q,hq⟩:∃q,q=m/1000000000:=⟨_,rfl⟩;obtain ⟨r,hr⟩:∃r,r=m%1000000000:=⟨_,rfl⟩;have jO:=asR hm;rw [<-hq,<-hr] at jO;have dP:=R3 9 r;have hqp:=zh q;have hlm:(aB m).length=(aB q).length+9:=by rw [jO,yG,dP]
  have c1:ix (aB m) (some (aB q).length) (some (aB m).length)=some (.str (iJ 9 r)):=by
   rw [lC (by omega) (yu _),xD,jO,uP]
  have c2:ix (aB m) (some 0) (some (aB q).length)=some (.str (aB q)):=by
   rw [lC (by omega) (by omega),yL,jO,uO]
  have e1:=Ke z8 (s:=iJ 9 r) (v:=r) (by omega) (by rw [adT 9 r 0 (by omega)];simp)
  unfold ak at e1;have F7:dg (out++[(r:Int)]):=ig.2 ⟨hd,lE.2 (by omega)⟩;have ajy:dv (out++[(r:Int)])+1000000000^(i+1)*q=N:=by
   rw [mN,hlen,<-aS,xd];have e:=Nat.mod_add_div m 1000000000;rw [<-hr,<-hq] at e;rw [<-e];simp only [dv,xX,xJ,yY,xI,xo];omega
  have NV:((aB m).length:Int)-9=((aB q).length:Int):=by omega
  rcases hs with ⟨h0,rfl⟩ | ⟨h0,rfl⟩
  ·subst h0;have mC:out=[]:=yB hlen;subst mC
   simp only [go_sem,ya,yb,xt,yD,yk,yf,zB,show (9:Int)<((aB m).length:Int) by omega,NV,wrapN (n:=(aB q).length) (by omega),eO,fb,dM,c1,c2,e1,ij];refine ⟨_,q,rfl,by omega,1,q,[]++[(r:Int)],rfl,rfl,F7,ajy,by omega,.inr ⟨by omega,?_⟩⟩;rfl
  ·simp only [go_sem,ya,yb,yk,yf,zB,show (9:Int)<((aB m).length:Int) by omega,NV,wrapN (n:=(aB q).length) (by omega),eO,fb,dM,c1,e1]
   rw [fS (ex:=false) (pu:=true) (cs:=out.map ab) (by simp only [go_sem,ya]) (by rw [yr,hlen,yf]) (by omega) (by omega) (by decide) (by simp only [go_sem])]
   simp only [go_sem,ya,yb,eO,fb,dM,NV,wrapN (n:=(aB q).length) (by omega),c2];refine ⟨_,q,rfl,by omega,i+1,q,out++[(r:Int)],rfl,by simp [hlen],F7,ajy,by omega,.inr ⟨by omega,?_⟩⟩;rw [xi];simp only [go_sem,ya,yb,ax]<;>rfl
 ·right
  have h9:(aB m).length<=9:=rJ (k:=8) (by omega);have hp0:=zh m;rcases hs with ⟨h0,rfl⟩ | ⟨h0,rfl⟩
  ·simp only [go_sem,zB,show ¬(9:Int)<((aB m).length:Int) by omega];exact ⟨_,_,rfl,by simp,_,i,m,out,rfl,by omega,hlen,hd,aS,by omega,by simp only [go_sem,ya],by simp only [go_sem,ya],by simp only [go_sem,ya],.inl ⟨h0,by simp only [go_sem,ya],rfl⟩⟩
  ·simp only [go_sem,zB,show ¬(9:Int)<((aB m).length:Int) by omega];exact ⟨_,_,rfl,by simp,_,i,m,out,rfl,by omega,hlen,hd,aS,by omega,by simp only [go_sem,ya],by simp only [go_sem,ya],by simp only [go_sem,ya],.inr ⟨h0,by simp only [go_sem,ya],rfl⟩⟩
end
end
section
open Go (IntKind)
section
variable {P:aK} {L:Lib}
def alL (h:Rb P L) {n:Int} (hn:(aB n.natAbs).length<=180000000000):∃r,ak P L 288 [.str (aZ n)] r/\kI r n:=by
 obtain ⟨u,hu⟩:∃u,u=aB n.natAbs:=⟨_,rfl⟩;obtain ⟨b,t,hb,kW,hb2⟩:=Er n.natAbs;have hs:aZ n=(if n<0 then [45] else [])++u:=by rw [hu,nO]
 have B2:0<u.length:=by rw [hu];exact zh _
 have re:u[0]=b:=by
  have:u=b::t:=by rw [hu,hb]
  simp [this]
 have key:∀(s:St),aI [0,2,3,4] s=⟨[(0,.str u),(2,.ptr 0 0),(3,.bool (decide (n<0))),(4,.aa)],[(0,.cells true true true 2 [.bool false,.aa])],1,0⟩->
   ∃ex s',D P L (.loop [0,2,3,4] zB) s=some (ex,s')/\∃tm i m out,ex= .exit 0/\m<1000000000/\out.length=i/\dg out/\dv out+1000000000^i*m=n.natAbs/\i<20000000000/\ai tm 0= .str (aB m)/\ai tm 2= .ptr 0 0/\ai tm 3= .bool (decide (n<0))/\
    ((i=0/\ai tm 4= .aa/\s'=⟨tm,[(0,.cells true true true 2 [.bool false,.aa])],1,0⟩)\/(0<i/\ai tm 4= .ao 1 0 i/\s'=⟨tm,[(1,.cells true true false 1 (out.map ab)),(0,.cells true true true 2 [.bool false,.aa])],2,0⟩)):=fun s hc=>
  azi (P:=P) (L:=L) h.z8 (neg:=decide (n<0)) hn n.natAbs s ⟨0,n.natAbs,[],rfl,rfl,rfl,by simp [dv],by omega,.inl ⟨rfl,by rw [hc,hu]⟩⟩
 have fin:∀(i m:Nat) (out:List Int),m<1000000000->out.length=i->dg out->dv out+1000000000^i*m=n.natAbs->i<20000000000->∃w l,bL P L (D P L) 294 [.bool (decide (n<0)),.aw false (i+1) ((out++[(m:Int)]).map ab)]=some (.agg [.bool (decide (n<0)),w])/\bt w l/\dg l/\nz l/\dv l=n.natAbs:=fun i m out h1 h2 h3 h4 h5=>by
  have hv:=lB false (out++[(m:Int)]);have hd:dg (out++[(m:Int)]):=ig.2 ⟨h3,lE.2 (by omega)⟩;have aS:dv (out++[(m:Int)])=n.natAbs:=by rw [mN,h2];simp [dv];exact h4
  obtain ⟨r,e,hr⟩:=Aa h.jA h.cX (decide (n<0)) hv hd (by simp;omega);have GI:cE (decide (n<0)) (dv (out++[(m:Int)]))=n:=by
   rw [aS];unfold cE;by_cases h0:n<0
   ·simp only [h0,yq,xE];omega
   ·simp only [h0,yt,yI,xg];omega
  rw [GI] at hr;obtain ⟨w,l,rfl,hw,fF,jR,dH⟩:=hr;simp only [yG,List.length_singleton,h2] at e;exact ⟨w,l,e,hw,fF,jR,dH⟩
 unfold ak;rw [hs];by_cases h0:n<0
 ·rw [yM h0,aH h.alF];have kX:ix (45::u) (some 1) (some (u.length+1))=some (.str u):=by rw [lC (s:=45::u) (l:=1) (h:=u.length+1) (by omega) (by simp)];simp
  simp only [h0,yq] at key fin ⊢;simp only [go_sem,ya,yb,On,bi,show (0:Int)<((u.length+1:Nat):Int) by omega,xk,xB,Dv,yq,eO,fb,dM,kX];generalize hq:D P L (.loop [0,2,3,4] zB) _=q;obtain ⟨ex,s,rfl,tm,i,m,out,rfl,hm,hlen,hd,aS,hi,t0,t2,t3,n9⟩:=bJ hq key (by simp only [go_sem,ya,yb,ax]<;>rfl)
  have e1:=Ke h.z8 (s:=aB m) (v:=m) (by have:=rJ (k:=8) (n:=m) (by omega);omega) (Cy m);have df:i<20000000000:=hi;obtain ⟨w,l,e2,hw,fF,jR,dH⟩:=fin i m out hm hlen hd aS df;refine ⟨_,?_,w,l,rfl,hw,fF,jR,dH⟩;unfold ak at e1;rcases n9 with ⟨Ca,t4,rfl⟩ | ⟨Ca,t4,rfl⟩
  ·subst Ca;have mC:out=[]:=yB hlen;subst mC;have jn:∀hp:Hp,jN 0 1 (some (false,1,[AV.int .i64 (m:Int)],hp))=some (.aw false 1 [AV.int .i64 (m:Int)],hp):=fun hp=>rfl
   simp only [xB,xa,vM,ye] at e2;simp only [go_sem,ya,yb,xt,yD,yk,yf,ax,t0,t2,t3,t4,e1,ij,jn,e2,cd,hw.pu,hw.one,gL];rcases hw with ⟨rfl,_⟩ | ⟨e,rfl⟩<;>simp only [h0,yq]<;>rfl
  ·simp only [go_sem,ya,yb,yk,yf,ax,t0,t2,t3,t4,e1]
   rw [fS (ex:=false) (pu:=true) (cs:=out.map ab) (by simp only [go_sem,ya]) (by rw [yr,hlen,yf]) (by omega) (by omega) (by decide) (by simp only [go_sem])];have jn:∀hp:Hp,jN 0 (i+1) (some (false,1,out.map ab++[AV.int .i64 (m:Int)],hp))=some (.aw false (i+1) (out.map ab++[AV.int .i64 (m:Int)]),hp):=fun hp=>nP false (by simp [hlen]) (by decide)
   simp only [xi,xa,vM] at e2;simp only [go_sem,ya,yb,jn,e2,cd,hw.pu,hw.one,gL,vt];rcases hw with ⟨rfl,_⟩ | ⟨e,rfl⟩<;>simp only [h0,yq]<;>rfl
 ·rw [yx h0,aH h.alF,xB];simp only [h0,yt] at key fin ⊢;simp only [go_sem,ya,yb,On,bi,show (0:Int)<(u.length:Int) by omega,qI B2,re,show ¬((b:Nat):Int)=45 by omega];generalize hq:D P L (.loop [0,2,3,4] zB) _=q;obtain ⟨ex,s,rfl,tm,i,m,out,rfl,hm,hlen,hd,aS,hi,t0,t2,t3,n9⟩:=bJ hq key (by simp only [go_sem,ya,yb,ax]<;>rfl)
  have e1:=Ke h.z8 (s:=aB m) (v:=m) (by have:=rJ (k:=8) (n:=m) (by omega);omega) (Cy m);have df:i<20000000000:=hi;obtain ⟨w,l,e2,hw,fF,jR,dH⟩:=fin i m out hm hlen hd aS df;refine ⟨_,?_,w,l,rfl,hw,fF,jR,dH⟩;rcases n9 with ⟨Ca,t4,rfl⟩ | ⟨Ca,t4,rfl⟩
  ·subst Ca;have mC:out=[]:=yB hlen;subst mC;have jn:∀hp:Hp,jN 0 1 (some (false,1,[AV.int .i64 (m:Int)],hp))=some (.aw false 1 [AV.int .i64 (m:Int)],hp):=fun hp=>rfl
   simp only [xB,xa,vM,ye] at e2;simp only [go_sem,ya,yb,xt,yD,yk,yf,ax,t0,t2,t3,t4,e1,ij,jn,e2,cd,hw.pu,hw.one,gL];rcases hw with ⟨rfl,_⟩ | ⟨e,rfl⟩<;>simp only [h0,yt]<;>rfl
  ·simp only [go_sem,ya,yb,yk,yf,ax,t0,t2,t3,t4,e1]
   rw [fS (ex:=false) (pu:=true) (cs:=out.map ab) (by simp only [go_sem,ya]) (by rw [yr,hlen,yf]) (by omega) (by omega) (by decide) (by simp only [go_sem])];have jn:∀hp:Hp,jN 0 (i+1) (some (false,1,out.map ab++[AV.int .i64 (m:Int)],hp))=some (.aw false (i+1) (out.map ab++[AV.int .i64 (m:Int)]),hp):=fun hp=>nP false (by simp [hlen]) (by decide)
   simp only [xi,xa,vM] at e2;simp only [go_sem,ya,yb,jn,e2,cd,hw.pu,hw.one,gL,vt];rcases hw with ⟨rfl,_⟩ | ⟨e,rfl⟩<;>simp only [h0,yt]<;>rfl
end
end
section
open Go (IntKind)
def LR (n:Int) (r:List Nat):bZ (aZ n++r)=(aZ n).length+bZ r:=by
 rw [<-nO]
 split
 ·simp only [xk,xB,bZ,yz];rw [yx (by decide),LP r (H8 _)];omega
 ·rw [xB];exact LP r (H8 _)
def R8:∀{a b:List Nat},cY a b=true->a=b
 | [],[],_=>rfl
 | [],_::_,h=>by simp [cY] at h
 | _::_,[],h=>by simp [cY] at h
 | x::a,y::b,h=>by
  simp only [cY,yg] at h;rw [Nat.eq_of_beq_eq_true h.1,R8 h.2]
def ajz {n:Int} {d:Nat} (h:n≠0):cY (TT n d) [48]=false:=by
 cases hb:cY (TT n d) [48] with
 | false=>rfl
 | true=>
  have e:=R8 hb;unfold TT at e;by_cases h0:n<0
  ·rw [mO h0] at e;simp at e
  ·obtain ⟨m,rfl⟩:∃m:Nat,n=m:=⟨n.toNat,by omega⟩;rw [lA] at e;obtain ⟨b,r,cw,_,_⟩:=Er m;rw [cw] at e;simp only [xk,List.cons.injEq,List.append_eq_nil_iff] at e;have hv:=Cy m;rw [cw,e.1,e.2.1] at hv
   have:(some 0:Option Nat)=some m:=hv
   grind
section
variable {P:aK} {L:Lib}
def azj (h:Rb P L):∃r,ak P L 281 [ab 1] r/\kI r 1:=by
 obtain ⟨r,e,hr⟩:=Aa h.jA h.cX false (lB false [(1:Int)]) (by decide) (by decide);obtain ⟨w,l,rfl,hw,hd,hz,hv⟩:=hr;refine ⟨_,?_,w,l,rfl,hw,hd,hz,hv⟩;simp only [xa,vM,yz,yK,ye] at e;have jn:∀hp:Hp,jN 0 1 (some (false,1,[AV.int .i64 1],hp))=some (.aw false 1 [AV.int .i64 1],hp):=fun hp=>rfl
 unfold ak at e ⊢;rw [aH h.aCT];simp only [go_sem,ya,yb,xt,yD,yk,yf,Uk,bi,Int.reduceLT,yt,No,ax,ahS,vV,yO,yR,yq,iV _ _ _ (show (1000000000:Int)≠0 by decide),gG _ _ _ (show (1000000000:Int)≠0 by decide),show Int.tmod 1 1000000000=1 from rfl,show Int.tdiv 1 1000000000=0 from rfl,show IntKind.wrap .i64 0=0 from rfl,ij,jn,e,hw.pu,hw.one,cd,gL];rcases hw with ⟨rfl,_⟩ | ⟨e,rfl⟩<;>rfl
def alM (h:Rb P L) {n:Int} {d:Nat} (hn:(aB n.natAbs).length<=144000000000) (hd:(aB d).length<=144000000000):
  ∃x y,ak P L 274 [.str (TT n d)] (.ae [x,y])/\kI x n/\kI y d:=by
 obtain ⟨x,e1,hx⟩:=alL h (n:=n) (by omega);have hli:(aZ n).length<=(aB n.natAbs).length+1:=by rw [<-nO];split<;>simp
 by_cases h1:d=1
 ·subst h1;obtain ⟨y,e2,hy⟩:=azj h;have hT:TT n 1=aZ n:=by unfold TT;simp
  have hs:=LR n [];rw [xY] at hs;have e3:=FZ h.BA (s:=aZ n) (by omega);rw [hs] at e3;refine ⟨x,y,?_,hx,hy⟩;obtain ⟨xw,xl,rfl,eH,_,_,_⟩:=hx;obtain ⟨yw,yl,rfl,eI,_,_,_⟩:=hy;rw [hT];unfold ak at e1 e2 e3 ⊢;rw [aH h.alC];simp only [go_sem,ya,yb,Oh,bi,e3,bZ,yY,yq,e1,e2,cd,eH.pu,eH.one,eI.pu,eI.one,gL];rcases eH with ⟨rfl,_⟩ | ⟨e,rfl⟩<;>rcases eI with ⟨rfl,_⟩ | ⟨e',rfl⟩<;>rfl
 ·obtain ⟨y,e2,hy⟩:=alL h (n:=(d:Int)) (by simp;omega);rw [lA] at e2;obtain ⟨s,sZ⟩:∃s,s=TT n d:=⟨_,rfl⟩;have hT:s=aZ n++47::aB d:=by rw [sZ];unfold TT;rw [yx h1]
  have hs:bZ s=(aZ n).length:=by rw [hT,LR];rfl
  have hlen:s.length=(aZ n).length+(aB d).length+1:=by rw [hT];simp;omega
  have e3:=FZ h.BA (s:=s) (by omega);rw [hs] at e3;have c1:ix s (some 0) (some (aZ n).length)=some (.str (aZ n)):=by
   rw [lC (by omega) (by omega),yL,hT,uO]
  have c2:ix s (some ((aZ n).length+1)) (some s.length)=some (.str (aB d)):=by
   rw [lC (by omega) (yu _),xD,hT,show aZ n++47::aB d=(aZ n++[47])++aB d by simp,show (aZ n).length+1=(aZ n++[47]).length by simp,uP]
  refine ⟨x,y,?_,hx,hy⟩;obtain ⟨xw,xl,rfl,eH,_,_,_⟩:=hx;obtain ⟨yw,yl,rfl,eI,_,_,_⟩:=hy;rw [<-sZ];unfold ak at e1 e2 e3 ⊢;rw [aH h.alC]
  simp only [go_sem,ya,yb,Oh,bi,e3,show ¬((aZ n).length:Int)=(s.length:Int) by omega,eO,fb,dM,c1,wrapN (n:=(aZ n).length+1) (by omega),show ((aZ n).length:Int)+1=(((aZ n).length+1:Nat):Int) from rfl,c2,e1,e2,cd,eH.pu,eH.one,eI.pu,eI.one,gL];rcases eH with ⟨rfl,_⟩ | ⟨e,rfl⟩<;>rcases eI with ⟨rfl,_⟩ | ⟨e',rfl⟩<;>rfl
end
end
section
open Go (IntKind)
def Nw {n:Int} {d:Nat} (h:n<0):TT n d=45::TT (-n) d:=by
 have e:aZ (-n)=aB n.natAbs:=by
  rw [<-nO,yx (show ¬-n<0 by omega),xB,show (-n).natAbs=n.natAbs by omega]
 unfold TT;rw [mO h,e];rfl
def avo {n:Int} {d:Nat} (h:¬n<0):∃b u,TT n d=b::u/\48<=b:=by
 obtain ⟨b,r,hb,h1,_⟩:=Er n.natAbs;refine ⟨b,r++(if d=1 then [] else 47::aB d),?_,h1⟩;unfold TT;rw [<-nO,yx h,xB,hb];rfl
def E5 (a b:AV) (r:List AV):iy 2 true (a::b::r)=some (.agg [a,b]):=rfl
def avp (k:Nat):2^k<=1000000000^k:=vZ (by decide) k
def Bd.r {k:Nat} {z:Int} (h:Bd k z):z.natAbs<1000000000^k:=yU h (avp k)
def Jp (r:Rat):RT r=TT r.num r.den:=rfl
def ahs {n d:Int} (hd:0<d):RT (wE n d)=pN n d:=by
 obtain ⟨h1,h2⟩:=QN (a:=n) hd;rw [au2 hd,Jp,h1]
 congr 1
 exact Int.ofNat.inj (show ((wE n d).den:Int)=((dF n d).toNat:Int) by rw [h2];have:=Ii (a:=n) hd;unfold dF at this ⊢;omega)
structure Rm (P:aK) (L:Lib):Prop extends Rb P L where
 aC1:Has P L 263 dw
 PB:Has P L 273 Dp
 aC2:Has P L 284 Ul
 aC3:Has P L 285 Ol
 aC4:Has P L 286 Om
 F8:Has P L 287 JO
 qW:Has P L 301 zV
structure Rl (P:aK) (L:Lib):Prop extends Rm P L where
 aC5:Has P L 269 JL
structure Rp (P:aK) (L:Lib):Prop extends Ras P L,Rm P L
structure Rn (P:aK) (L:Lib):Prop extends Ra P L,Rp P L
section
variable {P:aK} {L:Lib}
def ajA (h:Rm P L) {v w:AV} {a b:List Int} (hv:bt v a) (hw:bt w b) (ha:dg a) (hb:dg b) (na:nz a) (nb:nz b) (la:a.length<=8000000000) (lb:b.length<=8000000000) (h0:0<dv b):
  ∃q r lq lr,ak P L 289 [v,w] (.ae [q,r])/\bt q lq/\bt r lr/\dg lq/\nz lq/\dg lr/\nz lr/\dv lq=dv a/dv b/\dv lr=dv a%dv b:=
 ajw h.Kq h.kT h.oA h.pP h.cX h.qW hv hw ha hb na nb la lb h0
def azk (h:Rm P L) {x y:AV} {a b:List Int} {n d:Int} {K:Nat} (hK:K<=8000000000) (hx:bt x a) (ha:dg a) (na:nz a) (va:dv a=n.natAbs) (hy:bt y b) (hb:dg b) (nb:nz b) (vb:dv b=d.natAbs) (kn:Bd K n) (kd:Bd K d) (hd:0<d) {tm:Env} (t2:ai tm 2= .ptr 0 0) (t3:ai tm 3= .ptr 1 0):
  gM [.t 4] (D P L (az (az od.body)) ⟨tm,[(1,.cells true true true 2 [.bool (decide (d<0)),y]),(0,.cells true true true 2 [.bool (decide (n<0)),x])],2,0⟩)=some (.str (RT (wE n d))):=by
 rw [ahs hd];have la:=xm (jv ha na (by rw [va];exact kn.r)) hK
 have lb:=xm (jv hb nb (by rw [vb];exact kd.r)) hK
 obtain ⟨g,lg,e1,hg,dg',ng,vg⟩:=ajx h.alD h.Kq h.kT h.oA h.pP h.cX h.qW hx hy ha hb na nb la lb;rw [va,vb,show wN n.natAbs d.natAbs=vc n d from rfl] at vg;have KS:=MZ (a:=n) hd;have aC6:vc n d<=d.natAbs:=Int.gcd_le_natAbs_right n (by omega);have lg1:lg.length<=8000000000:=xm (jv dg' ng (by rw [vg];exact Nat.lt_of_le_of_lt aC6 kd.r)) hK
 obtain ⟨p,p',lp,lp',e2,hp,aj,dp,np,dp',np',vp,vp'⟩:=ajA h hx hg ha dg' na ng la lg1 (by omega);obtain ⟨q,q',lq,lq',e3,hq,bR,dq,nq,dq',nq',vq,vq'⟩:=ajA h hy hg hb dg' nb ng lb lg1 (by omega);rw [va,vg] at vp;rw [vb,vg] at vq;have hrn:(dB n d).natAbs=n.natAbs/vc n d:=by unfold dB;rw [um (Int.gcd_dvd_left n d)];rfl
 have jU:(dF n d).natAbs=d.natAbs/vc n d:=by unfold dF;rw [um (Int.gcd_dvd_right n d)];rfl
 have hdp:=Ii (a:=n) hd;rw [<-hrn] at vp;rw [<-jU] at vq;have aI8:=ayB n d;have GI:cE (decide (n<0)) (dv lp)=dB n d:=by
  rw [vp];unfold cE;by_cases h0:n<0
  ·have:¬0<=dB n d:=fun h1=>by have:=Int.mul_nonneg (Int.le_of_lt KS) h1;omega
   simp only [h0,yq,xE];omega
  ·have:¬dB n d<0:=fun h1=>by have:=Int.mul_neg_of_pos_of_neg KS h1;omega
   simp only [h0,yt,yI,xg];omega
 have kn':Bd K (dB n d):=kn.le (adR n d);have Zk:Bd K (dF n d):=kd.le (adS n d);have lp1:lp.length<=8000000000:=xm (jv dp np (by rw [vp];exact kn'.r)) hK
 have Ll:lq.length<=8000000000:=xm (jv dq nq (by rw [vq];exact Zk.r)) hK
 obtain ⟨s,e4,hs⟩:=Aa h.jA h.cX (decide (n<0)) hp dp (by omega);rw [GI] at hs;obtain ⟨e5,l5⟩:=alB (K:=K) h.alE h.qV (by omega) hs kn'.r;obtain ⟨u,e6,hu⟩:=Aa h.jA h.cX false hq dq (by omega);have Au:cE false (dv lq)=dF n d:=by rw [vq];unfold cE;simp only [yI,xg];omega
 rw [Au] at hu;obtain ⟨e7,l7⟩:=alB (K:=K) h.alE h.qV (by omega) hu Zk.r;obtain ⟨sw,sl,rfl,kH,_,_,_⟩:=hs;obtain ⟨uw,ul,rfl,huw,_,_,_⟩:=hu;have aIT:0<lq.length:=by
  rcases xp lq.length with e | e
  ·rw [yB e] at vq;simp [dv] at vq;omega
  ·exact e
 by_cases Qr:lq.length=1
 ·obtain ⟨z,rfl⟩:∃z,lq=[z]:=by
   cases lq with
   | nil=>simp at Qr
   | cons z r=>cases r with
    | nil=>exact ⟨z,rfl⟩
    | cons y r=>simp at Qr
  have Lu:z=dF n d:=by simp [dv] at vq;omega
  have e8:=hq.aY (i:=0) (by simp);simp only [xv] at e8;by_cases h1:dF n d=1
  ·have hT:pN n d=aZ (dB n d):=by unfold pN;rw [yM h1]
   rw [hT];simp only [go_sem,ya,od,az,t2,t3,hx.ap,hy.ap,b5,ye,de,show ¬d<0 by omega,yt,e1,hg.ap,hg.shut,e2,hp.ap,hp.bK,aj.bK,e3,hq.len,hq.bK,bR.bK,e4,kH.ap,cD,cd,e5,yz,yK,show ((1:Nat):Int)=(1:Int) from rfl,yq,e8,Lu,h1]
  ·have hT:pN n d=(aZ (dB n d)++[47])++aZ (dF n d):=by unfold pN;rw [yx h1]
   rw [hT]
   simp only [go_sem,ya,od,az,t2,t3,hx.ap,hy.ap,b5,ye,de,show ¬d<0 by omega,yt,e1,hg.ap,hg.shut,e2,hp.ap,hp.bK,aj.bK,e3,hq.len,hq.ap,hq.bK,bR.bK,e4,kH.ap,cD,cd,e5,yz,yK,show ((1:Nat):Int)=(1:Int) from rfl,yq,e8,Lu,h1,gH (a:=aZ (dB n d)) (b:=[47]) (by simp;omega),e6,huw.ap,e7,gH (a:=aZ (dB n d)++[47]) (b:=aZ (dF n d)) (by simp;omega)]
 ·have h1:¬dF n d=1:=fun h1=>Qr (by
   have h2:lq.length<=1:=ahr dq nq (by rw [vq,h1];decide)
   omega)
  have hT:pN n d=(aZ (dB n d)++[47])++aZ (dF n d):=by unfold pN;rw [yx h1]
  rw [hT]
  simp only [go_sem,ya,od,az,t2,t3,hx.ap,hy.ap,b5,ye,de,show ¬d<0 by omega,yt,e1,hg.ap,hg.shut,e2,hp.ap,hp.bK,aj.bK,e3,hq.len,hq.ap,hq.bK,bR.bK,e4,kH.ap,cD,cd,e5,show ¬(lq.length:Int)=1 by omega,gH (a:=aZ (dB n d)) (b:=[47]) (by simp;omega),e6,huw.ap,e7,gH (a:=aZ (dB n d)++[47]) (b:=aZ (dF n d)) (by simp;omega)]
def aoG (n d:Int):wE (-n) (-d)=wE n d:=by rw [Rat.divInt_neg',ybD]
def TI (h:Rm P L) {v w:AV} {n d:Int} {K:Nat} (hK:K<=8000000000) (hv:kI v n) (hw:kI w d) (kn:Bd K n) (kd:Bd K d) (hd:d≠0):ak P L 280 [v,w] (.str (RT (wE n d))):=by
 have fin:∀{x y:AV} {a b:List Int} {n' d':Int},bt x a->dg a->nz a->dv a=n'.natAbs->bt y b->dg b->nz b->dv b=d'.natAbs->Bd K n'->Bd K d'->0<d'->wE n' d'=wE n d->∀tm,ai tm 2= .ptr 0 0->ai tm 3= .ptr 1 0->
   D P L (.seq (bw od.body) (bw (az od.body))) ⟨[(0,v),(1,w)],[],0,0⟩=some (.normal,⟨tm,[(1,.cells true true true 2 [.bool (decide (d'<0)),y]),(0,.cells true true true 2 [.bool (decide (n'<0)),x])],2,0⟩)->ak P L 280 [v,w] (.str (RT (wE n d))):=fun {x y a b n' d'} hx ha na va hy hb nb vb kn kd hd hq tm t2 t3 e=>by
  unfold ak;rw [aH h.aCS];show gM [.t 4] (D P L (.seq (bw od.body) (.seq (bw (az od.body)) (az (az od.body)))) ⟨[(0,v),(1,w)],[],0,0⟩)=_
  rw [CA,e,fB,<-hq];exact azk h hK hx ha na va hy hb nb vb kn kd hd t2 t3
 have eG:=hv;have GK:=hw;obtain ⟨x,a,rfl,hx,ha,na,va⟩:=hv;obtain ⟨y,b,rfl,hy,hb,nb,vb⟩:=hw;by_cases h0:d<0
 ·obtain ⟨r,e1,hr⟩:=alb (K:=K) h.alG h.jA h.cX (by omega) eG kn.r;obtain ⟨s,e2,hs⟩:=alb (K:=K) h.alG h.jA h.cX (by omega) GK kd.r;obtain ⟨x',a',rfl,rq,DM,na',va'⟩:=hr;obtain ⟨y',b',rfl,Lp,cw,nb',vb'⟩:=hs;simp only [h0,yq] at e2
  refine fin rq DM na' va' Lp cw nb' vb' kn.neg kd.neg (by omega) (aoG n d) _ ?_ ?_ (by
   simp only [go_sem,ya,yb,od,bw,az,bi,hx.pu,hx.ap,hx.one,hy.pu,hy.ap,hy.one,rq.pu,rq.one,Lp.pu,Lp.one,b5,ye,h0,yq,E5,cD,e1,e2,cd,gL]<;>rfl)<;>simp only [go_sem,ya]
 ·refine fin hx ha na va hy hb nb vb kn kd (by omega) rfl _ ?_ ?_ (by simp only [go_sem,ya,yb,od,bw,az,bi,hx.pu,hx.one,hy.pu,hy.one,b5,ye,h0,yt]<;>rfl)<;>simp only [go_sem,ya]
end
end
section
open Go (IntKind)
section
variable {P:aK} {L:Lib}
def I6 {K:Nat} {a:Rat} (h:Hq K a):(RT a).length<=2*K+3:=by
 have h1:=H9 h.1;have h2:=H9 h.2;rw [lA] at h2;unfold RT
 grind
def aht {K:Nat} {z:Int} (h:Bd K z):(aB z.natAbs).length<=K+1:=by
 have:=H9 (z:=(z.natAbs:Int)) (k:=K) (by unfold Bd at h ⊢;omega)
 rwa [lA] at this
def Jq (h:Rm P L) {a:Rat} {K:Nat} (ka:Hq K a) (hK:K<=8000000000):∃x y,ak P L 274 [.str (RT a)] (.ae [x,y])/\kI x a.num/\kI y (a.den:Int):=by
 have h1:=aht ka.1;have h2:=aht ka.2
 exact alM h.toRb (n:=a.num) (d:=a.den) (by omega) (by simpa using (by omega:(aB ((a.den:Int)).natAbs).length<=144000000000))
def ajB (h:Rm P L) {n:Int} {d:Nat} (hl:(TT n d).length<=100000000000) (lX:n=0->d=1):ak P L 262 [.str (TT n d)] (ab (cT n)):=by
 unfold ak;rw [aH h.aCQ];by_cases h0:n<0
 ·have dd:=ajz (n:=n) (d:=d) (by omega);rw [Nw h0] at dd ⊢;simp only [go_sem,ya,JH,lD,dd,show (0:Int)<(((TT (-n) d).length+1:Nat):Int) by omega,Dv,yq];unfold cT;rw [yM h0]
 ·by_cases h1:n=0
  ·subst h1
   have:=lX rfl
   subst this;rw [show TT 0 1=[48] by decide];simp only [go_sem,ya,JH,lD,show cY [48] [48]=true from rfl];rfl
  ·have dd:=ajz (n:=n) (d:=d) h1;obtain ⟨b,u,hb,kW⟩:=avo (d:=d) h0;rw [hb] at dd ⊢;simp only [go_sem,ya,JH,lD,dd,show (0:Int)<((u.length+1:Nat):Int) by omega,show mT 0 (.str (b::u))=some (.int .u8 (b:Nat)) from rfl,show ¬((b:Nat):Int)=45 by omega];unfold cT;rw [yx h0,yx h1]
def aoc {a:Rat} (h:a.num=0):a.den=1:=by simp_all
def aAZ (h:Rm P L) {a:Rat} {K:Nat} (ka:Hq K a) (hK:K<=8000000000):ak P L 262 [.str (RT a)] (ab (cT a.num)):=
 ajB h (by have:=I6 ka;rw [Jp] at this;omega) aoc
def aA0 (h:Rp P L) {a:Rat} {K:Nat} (ka:Hq K a) (hK:K<=8000000000):ak P L 268 [.str (RT a)] (.str (RT (-a))):=by
 have e:=aAZ h.toRm ka hK;have hl:=I6 ka;have en:(-a).num= -a.num:=rfl;have ed:(-a).den=a.den:=rfl;rw [Jp] at hl e ⊢;rw [Jp,en,ed];generalize a.num=n at*
 generalize a.den=d at*
 unfold ak at e ⊢;rw [aH h.aCU];by_cases h0:n<0
 ·have es:cT n= -1:=by unfold cT;rw [yM h0]
  rw [es,Nw h0] at e;rw [Nw h0] at hl ⊢;have hc:ix (45::TT (-n) d) (some 1) (some ((TT (-n) d).length+1))=some (.str (TT (-n) d)):=by rw [lC (s:=45::TT (-n) d) (l:=1) (h:=(TT (-n) d).length+1) (by omega) (by simp)];simp
  simp only [go_sem,ya,JK,e,show (-1:Int)<0 by decide,eO,fb,dM,hc]
 ·by_cases h1:n=0
  ·subst h1;have es:cT 0=0:=rfl;rw [es] at e;simp only [go_sem,ya,JK,e,show ¬(0:Int)<0 by decide,yq,Int.neg_zero]
  ·have es:cT n=1:=by unfold cT;rw [yx h0,yx h1]
   rw [es] at e
   have:TT (-n) d=45::TT n d:=by rw [Nw (by omega),ybD]
   rw [this]
   simp only [go_sem,ya,JK,e,show ¬(1:Int)<0 by decide,show ¬(1:Int)=0 by decide,gH (a:=[45]) (b:=TT n d) (by simp;omega),xk,xB]
end
end
section
open Go (IntKind)
def ahu (n:Int) (d:Nat):S5 true n d= .ae [ab n,ab d,.bool true]:=rfl
def Jr {a b:Int} (ha:a.natAbs<1000000000) (hb:b.natAbs<1000000000):(a*b).natAbs<1000000000000000000:=by
 rw [Int.natAbs_mul];exact yU (tX ha hb) (by decide)
section
variable {P:aK} {L:Lib}
def ajC (h:Rm P L) {a b:Int} (ha: -4000000000000000000<=a/\a<=4000000000000000000) (hb:0<b/\b<=4000000000000000000):ak P L 277 [ab a,ab b] (.str (RT (wE a b))):=by
 rw [ahs hb.1];exact aBT h.aCR h.YE h.qV ha hb
def NP (h:Rp P L) {a:Rat} {K:Nat} (ka:Hq K a) (hK:K<=8000000000):∃q:Bool,ak P L 276 [.str (RT a)] (S5 q a.num a.den)/\(q=true->a.num.natAbs<1000000000/\a.den<1000000000):=
 aBU h.aCW h.BA h.z8 (n:=a.num) (d:=a.den) (by have:=I6 ka;rw [Jp] at this;omega)
def ajD (h:Rn P L) {a b:Rat} {K M:Nat} (ka:Hq K a) (kb:Hq M b) (hK:K+M<=8000000000):ak P L 267 [.str (RT a),.str (RT b)] (.str (RT (a*b))):=by
 obtain ⟨q1,e1,b1⟩:=NP h.toRp ka (by omega);obtain ⟨q2,e2,b2⟩:=NP h.toRp kb (by omega);have aC7:=Ei a b;by_cases hq:(q1=true/\q2=true)
 ·obtain ⟨rfl,rfl⟩:=hq;obtain ⟨b11,b12⟩:=b1 rfl;obtain ⟨b21,b22⟩:=b2 rfl;have p1:=Jr b11 b21;have p2:=Jr (a:=(a.den:Int)) (b:=(b.den:Int)) (by omega) (by omega);have e3:=ajC h.toRm (a:=a.num*b.num) (b:=(a.den:Int)*b.den) (by omega) (by omega);rw [<-mul_eq] at e3;rw [ahu] at e1 e2;unfold ak at e1 e2 e3 ⊢;rw [aH h.alI]
  simp only [go_sem,ya,JJ,e1,e2,wrap64 (n:=a.num*b.num) (by omega) (by omega),wrap64 (n:=(a.den:Int)*(b.den:Int)) (by omega) (by omega),e3]
 ·have bR:∃n1 d1 n2 d2,bL P L (D P L) 276 [.str (RT a)]=some (.ae [ab n1,ab d1,.bool q1])/\bL P L (D P L) 276 [.str (RT b)]=some (.ae [ab n2,ab d2,.bool q2]):=by
   cases q1<;>cases q2<;>exact ⟨_,_,_,_,e1,e2⟩
  obtain ⟨n1,d1,n2,d2,e1,e2⟩:=bR;obtain ⟨x,y,e3,hx,hy⟩:=Jq h.toRm ka (by omega);obtain ⟨z,w,e4,hz,hw⟩:=Jq h.toRm kb (by omega);have F9:max K M<=8000000000:=by omega
  obtain ⟨r,e5,hr⟩:=Kp (K:=max K M) h.Kr h.kT h.jA h.cX F9 hx hz (ka.1.mono (by omega)).r (kb.1.mono (by omega)).r;obtain ⟨s,e6,hs⟩:=Kp (K:=max K M) h.Kr h.kT h.jA h.cX F9 hy hw (ka.2.mono (by omega)).r (kb.2.mono (by omega)).r;have e7:=TI h.toRm hK hr hs (ka.1.mul kb.1) (ka.2.mul kb.2) (by omega);rw [<-mul_eq] at e7;obtain ⟨xw,xl,rfl,eH,_,_,_⟩:=hx;obtain ⟨yw,yl,rfl,eI,_,_,_⟩:=hy;obtain ⟨zw,zl,rfl,oQ,_,_,_⟩:=hz;obtain ⟨ww,wl,rfl,oR,_,_,_⟩:=hw;obtain ⟨rw',rl,rfl,q8,_,_,_⟩:=hr;obtain ⟨sw,sl,rfl,kH,_,_,_⟩:=hs;have hb:¬(q1=true/\q2=true):=hq;unfold ak at e3 e4 e5 e6 e7 ⊢;rw [aH h.alI]
  cases q1 with
  | false=>
   simp only [go_sem,ya,yb,JJ,bi,e1,e2,e3,e4,eH.pu,eH.ap,eH.one,eI.pu,eI.ap,eI.one,oQ.pu,oQ.ap,oQ.one,oR.pu,oR.ap,oR.one,q8.ap,kH.ap,cD,cd,AQ,gL,E5,e5,e6,e7]
  | true=>
   cases q2 with
   | true=>exact absurd ⟨rfl,rfl⟩ hb
   | false=>
    simp only [go_sem,ya,yb,JJ,bi,e1,e2,e3,e4,eH.pu,eH.ap,eH.one,eI.pu,eI.ap,eI.one,oQ.pu,oQ.ap,oQ.one,oR.pu,oR.ap,oR.one,q8.ap,kH.ap,cD,cd,AQ,gL,E5,e5,e6,e7]
def aA1 (h:Rp P L) {a b:Rat} {K M:Nat} (ka:Hq K a) (kb:Hq M b) (hK:K+M+1<=8000000000):ak P L 264 [.str (RT a),.str (RT b)] (.str (RT (a+b))):=by
 obtain ⟨q1,e1,b1⟩:=NP h ka (by omega);obtain ⟨q2,e2,b2⟩:=NP h kb (by omega);have aC7:=Ei a b;by_cases hq:(q1=true/\q2=true)
 ·obtain ⟨rfl,rfl⟩:=hq;obtain ⟨b11,b12⟩:=b1 rfl;obtain ⟨b21,b22⟩:=b2 rfl;have p1:=Jr (a:=a.num) (b:=(b.den:Int)) (by omega) (by omega);have p2:=Jr (a:=b.num) (b:=(a.den:Int)) (by omega) (by omega);have p3:=Jr (a:=(a.den:Int)) (b:=(b.den:Int)) (by omega) (by omega);have e3:=ajC h.toRm (a:=a.num*b.den+b.num*a.den) (b:=(a.den:Int)*b.den) (by omega) (by omega);rw [<-add_eq] at e3;rw [ahu] at e1 e2;unfold ak at e1 e2 e3 ⊢;rw [aH h.alH]
  simp only [go_sem,ya,JI,e1,e2,wrap64 (n:=a.num*(b.den:Int)) (by omega) (by omega),wrap64 (n:=b.num*(a.den:Int)) (by omega) (by omega),wrap64 (n:=a.num*(b.den:Int)+b.num*(a.den:Int)) (by omega) (by omega),wrap64 (n:=(a.den:Int)*(b.den:Int)) (by omega) (by omega),e3]
 ·have bR:∃n1 d1 n2 d2,bL P L (D P L) 276 [.str (RT a)]=some (.ae [ab n1,ab d1,.bool q1])/\bL P L (D P L) 276 [.str (RT b)]=some (.ae [ab n2,ab d2,.bool q2]):=by
   cases q1<;>cases q2<;>exact ⟨_,_,_,_,e1,e2⟩
  obtain ⟨n1,d1,n2,d2,e1,e2⟩:=bR;obtain ⟨x,y,e3,hx,hy⟩:=Jq h.toRm ka (by omega);obtain ⟨z,w,e4,hz,hw⟩:=Jq h.toRm kb (by omega);have F9:max K M<=8000000000:=by omega
  obtain ⟨r,e5,hr⟩:=Kp (K:=max K M) h.Kr h.kT h.jA h.cX F9 hx hw (ka.1.mono (by omega)).r (kb.2.mono (by omega)).r;obtain ⟨r2,e52,mI⟩:=Kp (K:=max K M) h.Kr h.kT h.jA h.cX F9 hz hy (kb.1.mono (by omega)).r (ka.2.mono (by omega)).r;obtain ⟨s,e6,hs⟩:=Kp (K:=max K M) h.Kr h.kT h.jA h.cX F9 hy hw (ka.2.mono (by omega)).r (kb.2.mono (by omega)).r;have k1:Bd (K+M) (a.num*b.den):=ka.1.mul kb.2;have k2:Bd (K+M) (b.num*a.den):=(kb.1.mul ka.2).mono (by omega);obtain ⟨t,e8,ht⟩:=aCI (K:=K+M) h.aCX h.Y7 h.oA h.PA h.nk h.jA h.cX (by omega) hr mI k1.r k2.r;have e7:=TI h.toRm hK ht hs (k1.YS k2) ((ka.2.mul kb.2).mono (by omega)) (by omega);rw [<-add_eq] at e7;obtain ⟨xw,xl,rfl,eH,_,_,_⟩:=hx;obtain ⟨yw,yl,rfl,eI,_,_,_⟩:=hy;obtain ⟨zw,zl,rfl,oQ,_,_,_⟩:=hz;obtain ⟨ww,wl,rfl,oR,_,_,_⟩:=hw;obtain ⟨rw',rl,rfl,q8,_,_,_⟩:=hr
  obtain ⟨Qv,rl2,rfl,alN,_,_,_⟩:=mI;obtain ⟨tw,tl,rfl,htw,_,_,_⟩:=ht;obtain ⟨sw,sl,rfl,kH,_,_,_⟩:=hs;have hb:¬(q1=true/\q2=true):=hq;unfold ak at e3 e4 e5 e52 e6 e7 e8 ⊢;rw [aH h.alH]
  cases q1 with
  | false=>
   simp only [go_sem,ya,yb,JI,bi,e1,e2,e3,e4,eH.pu,eH.ap,eH.one,eI.pu,eI.ap,eI.one,oQ.pu,oQ.ap,oQ.one,oR.pu,oR.ap,oR.one,q8.ap,alN.ap,htw.ap,kH.ap,cD,cd,AQ,gL,E5,e5,e52,e8,e6,e7]
  | true=>
   cases q2 with
   | true=>exact absurd ⟨rfl,rfl⟩ hb
   | false=>
    simp only [go_sem,ya,yb,JI,bi,e1,e2,e3,e4,eH.pu,eH.ap,eH.one,eI.pu,eI.ap,eI.one,oQ.pu,oQ.ap,oQ.one,oR.pu,oR.ap,oR.one,q8.ap,alN.ap,htw.ap,kH.ap,cD,cd,AQ,gL,E5,e5,e52,e8,e6,e7]
def aA2 (h:Rp P L) {a b:Rat} {K M:Nat} (ka:Hq K a) (kb:Hq M b) (hK:K+M+1<=8000000000):ak P L 271 [.str (RT a),.str (RT b)] (.str (RT (a-b))):=by
 have e1:=aA0 h kb (by omega);have e2:=aA1 h ka kb.neg hK;rw [<-Rat.sub_eq_add_neg] at e2;unfold ak at e1 e2 ⊢;rw [aH h.aCV];simp only [go_sem,ya,Uj,e1,e2]
def inv_divInt (a:Rat) (h:a≠0):a⁻¹=wE (a.den:Int) a.num:=by
 rw [Rat.inv_def]
def aA3 (h:Rn P L) (Za:Has P L 283 Ok) {a:Rat} {K:Nat} (ka:Hq K a) (hK:K<=8000000000) (h0:a≠0):ak P L 283 [.str (RT a)] (.str (RT a⁻¹)):=by
 obtain ⟨x,y,e3,hx,hy⟩:=Jq h.toRm ka hK;have hn:a.num≠0:=fun e=>h0 (yba.1 e)
 have e7:=TI h.toRm hK hy hx ka.2 ka.1 hn;rw [<-inv_divInt a h0] at e7;obtain ⟨xw,xl,rfl,eH,_,_,_⟩:=hx;obtain ⟨yw,yl,rfl,eI,_,_,_⟩:=hy;unfold ak at e3 e7 ⊢;rw [aH Za];simp only [go_sem,ya,yb,Ok,bi,e3,eH.pu,eH.ap,eH.one,eI.pu,eI.ap,eI.one,cD,AQ,gL,E5,e7]
end
end
section
open Go (IntKind)
def acZ {P:aK} {L:Lib} (a b c d:VC) (s:St):D P L (.seq a (.seq b (.seq c d))) s=jK P L (D P L (.seq a (.seq b c)) s) d:=by
 have e:=CA (P:=P) (L:=L) b c d;rw [kh,kh]
 cases D P L a s with
 | none=>rfl
 | some q=>
  obtain ⟨ex,st⟩:=q
  cases ex with
  | normal=>rw [fB,fB];exact e st
  | ret=>rfl
  | exit id=>rfl
def n5 {a b:List Nat} (h:a≠b):cY a b=false:=by
 cases hb:cY a b with
 | false=>rfl
 | true=>exact absurd (R8 hb) h
def ad9:∀a:List Nat,cY a a=true
 | []=>rfl
 | x::a=>by simp [cY,ad9 a]
def Tg {a b:List Nat} (h:a=b):cY a b=true:=h▸ad9 a
def aq8 {s:List Nat} {i:Nat} (h:i<s.length):dj (s.drop i)=(yF 48 s[i]&&yF s[i] 57&&dj (s.drop (i+1))):=by
 rw [yP h];rfl
section
variable {P:aK} {L:Lib}
def aC8 (h:Has P L 287 JO) {s:List Nat} (hl:s.length<9223372036854775808):ak P L 287 [.str s] (.bool (dj s)):=by
 have key:=gh (P:=P) (L:=L) (live:=[0,3]) (a:=CS)
  (I:=fun k st=>∃i:Nat,st=⟨[(0,.str s),(3,ab i)],[],0,0⟩/\i+k=s.length/\dj (s.drop i)=dj s)
  (Q:=fun ex st=>∃tm ct,st=⟨tm,[],ct,0⟩/\((ex= .ret/\ai tm 2= .bool false/\dj s=false)\/(ex= .exit 0/\dj s=true))) ?_
 ·unfold ak;rw [aH h];simp only [go_sem,JO];generalize hq:D P L (.loop [0,3] CS) _=q;obtain ⟨ex,st,rfl,tm,ct,rfl,h2⟩:=bJ hq (key s.length) ⟨0,by simp only [go_sem,ya,ax]<;>rfl,by omega,by simp⟩
  rcases h2 with ⟨rfl,h2,h3⟩ | ⟨rfl,h3⟩
  ·simp only [go_sem,h2,h3]
  ·simp only [go_sem,ax,h3]
 ·rintro k st ⟨i,rfl,hk,hs⟩;by_cases hi:i<s.length
  ·rw [aq8 hi] at hs;by_cases h1:s[i]<48
   ·right
    have e:yF 48 s[i]=false:=by
     cases hb:yF 48 s[i] with
     | false=>rfl
     | true=>have:=yy hb;omega
    rw [e,xN,xN] at hs;simp only [go_sem,ya,CS,show (i:Int)<s.length by omega,qI hi,show ((s[i]:Nat):Int)<48 by omega,yq];exact ⟨_,_,rfl,by simp,_,_,rfl,.inl ⟨rfl,by simp only [go_sem],hs.symm⟩⟩
   ·by_cases h2:57<s[i]
    ·right
     have e:yF s[i] 57=false:=by
      cases hb:yF s[i] 57 with
      | false=>rfl
      | true=>have:=yy hb;omega
     rw [e,Bool.and_false,xN] at hs;simp only [go_sem,ya,CS,show (i:Int)<s.length by omega,qI hi,show ¬((s[i]:Nat):Int)<48 by omega,yt,show (57:Int)<((s[i]:Nat):Int) by omega];exact ⟨_,_,rfl,by simp,_,_,rfl,.inl ⟨rfl,by simp only [go_sem],hs.symm⟩⟩
    ·left
     rw [ym (show 48<=s[i] by omega),ym (show s[i]<=57 by omega),wA,wA] at hs;simp only [go_sem,ya,CS,show (i:Int)<s.length by omega,qI hi,show ¬((s[i]:Nat):Int)<48 by omega,yt,show ¬(57:Int)<((s[i]:Nat):Int) by omega];refine ⟨_,k-1,rfl,by omega,i+1,?_,by omega,hs⟩;rw [wrap64 (by omega) (by omega)];simp only [go_sem,ya,ax]<;>rfl
  ·right
   simp only [go_sem,ya,CS,show ¬(i:Int)<s.length by omega];refine ⟨_,_,rfl,by simp,_,_,rfl,.inr ⟨rfl,?_⟩⟩;rw [<-hs,xf (by omega)];rfl
def PC (h:Has P L 273 Dp) (F8:Has P L 287 JO) {s:List Nat} (hl:s.length<9223372036854775808):ak P L 273 [.str s] (.bool (dV s)):=by
 have e:=aC8 F8 hl;unfold ak at e ⊢;rw [aH h]
 match s,hl,e with
 | [],_,_=>
  simp only [go_sem,ya,Dp,yK,show ((0:Nat):Int)=0 from rfl,yq];rfl
 | [b],_,e=>
  have:dV [b]=dj [b]:=by simp [dV]
  rw [this];simp only [go_sem,ya,Dp,yz,yK,ye,show ¬((1:Nat):Int)=0 by decide,show ¬(1:Int)<((1:Nat):Int) by decide,yt,e]
 | b::c::r,hl,e=>
  have hd:dV (b::c::r)=(dj (b::c::r)&& !(yv b 48)):=by simp [dV]
  rw [hd];have DN:r.length+2<9223372036854775808:=by simpa using hl
  by_cases hb:b=48
  ·subst hb;simp only [go_sem,ya,Dp,yz,show ¬((r.length+1+1:Nat):Int)=0 by omega,yt,show (1:Int)<((r.length+1+1:Nat):Int) by omega,show mT 0 (.str (48::c::r))=some (.int .u8 48) from rfl,yq]
   simp
  ·have:yv b 48=false:=gF hb
   rw [this,yO,vt];simp only [go_sem,ya,Dp,yz,show ¬((r.length+1+1:Nat):Int)=0 by omega,yt,show (1:Int)<((r.length+1+1:Nat):Int) by omega,show mT 0 (.str (b::c::r))=some (.int .u8 (b:Nat)) from rfl,show ¬((b:Nat):Int)=48 by omega,e]
def aea {s:List Nat} {k:Nat} (h:k<=s.length):ix s (some 0) (some k)=some (.str (s.take k)):=by
 rw [lC (by omega) h,yL]
def MG {s:List Nat} {k:Nat} (h:k<=s.length):ix s (some k) (some s.length)=some (.str (s.drop k)):=by
 rw [lC h (yu _),xD]
def azl (h:Rm P L) {t:List Nat} {k:Nat} (hk:k=bZ t) (hl:t.length<9223372036854775808) (hp:dV (t.take k)=true) {tm:Env} (t3:ai tm 3= .str t) (t4:ai tm 4=ab k):
  gM [.t 2] (D P L (az (az (az (az (az dw.body))))) ⟨tm,[],0,0⟩)=some (ab (
   if k<t.length/\(dV (t.drop (k+1))=false\/t.drop (k+1)=[48]\/t.drop (k+1)=[49]) then 1
   else if 600<k\/600<t.length-k-1 then 4
   else if k<t.length/\wN (fN (t.take k)) (fN (t.drop (k+1)))≠1 then 1
   else 0)):=by
 have Ce:k<=t.length:=by rw [hk];exact H7 t
 have e3:=PC h.PB h.F8 (s:=t.drop (k+1)) (by rw [xT];omega);unfold ak at e3;have Cl:(k:Int)+1=((k+1:Nat):Int):=rfl;by_cases hs:k<t.length
 ·have c2:=MG (s:=t) (k:=k+1) (by omega);have j9:=aa1 t (by omega);rw [<-hk] at j9;have Ln:(t.drop (k+1)).length=t.length-k-1:=by rw [xT];omega
  have hlp:(t.take k).length=k:=by rw [yE];omega
  generalize hqe:t.drop (k+1)=q at*
  generalize hpe:t.take k=p at*
  cases hd:dV q with
  | false=>
   rw [yM ⟨hs,.inl rfl⟩];rw [hd] at e3
   simp only [go_sem,ya,dw,az,t3,t4,show (k:Int)<(t.length:Int) by omega,yq,Cl,wrapN (n:=k+1) (by omega),eO,fb,dM,c2,e3,yO]
  | true=>
   rw [hd] at e3;by_cases jE:q=[48]
   ·rw [yM ⟨hs,.inr (.inl jE)⟩]
    simp only [go_sem,ya,dw,az,t3,t4,show (k:Int)<(t.length:Int) by omega,yq,Cl,wrapN (n:=k+1) (by omega),eO,fb,dM,c2,e3,yR,lD,Tg jE]
   ·by_cases oO:q=[49]
    ·rw [yM ⟨hs,.inr (.inr oO)⟩]
     simp only [go_sem,ya,dw,az,t3,t4,show (k:Int)<(t.length:Int) by omega,yq,Cl,wrapN (n:=k+1) (by omega),eO,fb,dM,c2,e3,yR,lD,n5 jE,Tg oO]
    ·rw [yx (by simp only [hs,tn,yaA,ybC];exact fun e=>e.elim jE oO)]
     by_cases Ak:600<k
     ·rw [yM (.inl Ak)]
      simp only [go_sem,ya,dw,az,t3,t4,show (k:Int)<(t.length:Int) by omega,yq,Cl,wrapN (n:=k+1) (by omega),eO,fb,dM,c2,e3,yR,lD,n5 jE,n5 oO,show (600:Int)<(k:Int) by omega]
     ·by_cases aC9:600<t.length-k-1
      ·rw [yM (.inr aC9)]
       simp only [go_sem,ya,dw,az,t3,t4,show (k:Int)<(t.length:Int) by omega,yq,Cl,wrapN (n:=k+1) (by omega),eO,fb,dM,c2,e3,yR,lD,n5 jE,n5 oO,show ¬(600:Int)<(k:Int) by omega,yt,show (t.length:Int)-(k:Int)=((t.length-k:Nat):Int) by omega,wrapN (n:=t.length-k) (by omega),show ((t.length-k:Nat):Int)-1=((t.length-k-1:Nat):Int) by omega,wrapN (n:=t.length-k-1) (by omega),show (600:Int)<((t.length-k-1:Nat):Int) by omega]
      ·rw [yx (by omega)];have rn:=Es _ rfl hp;have oP:=Es _ rfl hd;have iC:fN q≠0:=fun e=>jE (by rw [<-oP,e];rfl)
       have jh:fN q≠1:=fun e=>oO (by rw [<-oP,e];rfl)
       generalize fN p=n at*
       generalize fN q=d at*
       have hT:TT (n:Int) d=t:=by
        unfold TT;rw [lA,yx jh,rn,oP];exact j9.symm
       obtain ⟨x,y,e4,hx,hy⟩:=alM h.toRb (n:=(n:Int)) (d:=d) (by rw [vn,rn];omega) (by rw [oP];omega);rw [hT] at e4;obtain ⟨xw,xl,rfl,eH,dx,nx,vx⟩:=hx;obtain ⟨yw,yl,rfl,eI,dy,ny,vy⟩:=hy;rw [vn] at vx vy;have pX:n<10^p.length:=by rw [<-rn];exact Iw n
       have hdb:d<10^q.length:=by rw [<-oP];exact Iw d
       obtain ⟨K,hK⟩:∃K:Nat,K=600:=⟨_,rfl⟩;have Qc:∀{m j:Nat},m<10^j->j<=K->m<1000000000^K:=fun {m j} h1 h2=>
        yU h1 (xm (xh (by decide) h2) (vZ (by decide) K))
       have lxl:=jv dx nx (by rw [vx];exact Qc pX (by omega))
       have lyl:=jv dy ny (by rw [vy];exact Qc hdb (by omega))
       obtain ⟨g,lg,e5,hg,dgg,ngg,vg⟩:=ajx h.alD h.Kq h.kT h.oA h.pP h.cX h.qW eH eI dx dy nx ny (by omega) (by omega);rw [vx,vy] at vg;have KS:0<wN n d:=Nat.gcd_pos_of_pos_right _ (by omega);unfold ak at e4 e5;by_cases Zb:lg.length=1
       ·obtain ⟨z,rfl⟩:∃z,lg=[z]:=by
         cases lg with
         | nil=>simp at Zb
         | cons z r=>cases r with
          | nil=>exact ⟨z,rfl⟩
          | cons y r=>simp at Zb
        have gz:=lE.1 dgg;have Lu:z=(wN n d:Nat):=by simp [dv] at vg;omega
        have e8:=hg.aY (i:=0) (by simp);simp only [xv] at e8;by_cases iB:wN n d=1
        ·rw [yx (by simp [iB])]
         simp only [go_sem,ya,yb,dw,az,t3,t4,show (k:Int)<(t.length:Int) by omega,yq,Cl,wrapN (n:=k+1) (by omega),eO,fb,dM,c2,e3,yR,lD,n5 jE,n5 oO,show ¬(600:Int)<(k:Int) by omega,yt,show (t.length:Int)-(k:Int)=((t.length-k:Nat):Int) by omega,wrapN (n:=t.length-k) (by omega),show ((t.length-k:Nat):Int)-1=((t.length-k-1:Nat):Int) by omega,wrapN (n:=t.length-k-1) (by omega),show ¬(600:Int)<((t.length-k-1:Nat):Int) by omega,e4,bi,eH.pu,eH.ap,eH.one,eI.pu,eI.ap,eI.one,gL,b5,ye,de,e5,hg.len,hg.shut,yz,yK,show ((1:Nat):Int)=(1:Int) from rfl,yR,e8,Lu,iB]
        ·rw [yM ⟨hs,iB⟩]
         simp only [go_sem,ya,yb,dw,az,t3,t4,show (k:Int)<(t.length:Int) by omega,yq,Cl,wrapN (n:=k+1) (by omega),eO,fb,dM,c2,e3,yR,lD,n5 jE,n5 oO,show ¬(600:Int)<(k:Int) by omega,yt,show (t.length:Int)-(k:Int)=((t.length-k:Nat):Int) by omega,wrapN (n:=t.length-k) (by omega),show ((t.length-k:Nat):Int)-1=((t.length-k-1:Nat):Int) by omega,wrapN (n:=t.length-k-1) (by omega),show ¬(600:Int)<((t.length-k-1:Nat):Int) by omega,e4,bi,eH.pu,eH.ap,eH.one,eI.pu,eI.ap,eI.one,gL,b5,ye,de,e5,hg.len,hg.shut,yz,yK,show ((1:Nat):Int)=(1:Int) from rfl,yR,e8,Lu,show ¬((wN n d:Nat):Int)=1 by omega,yO]
       ·have iB:wN n d≠1:=fun e=>Zb (by
         have h1:lg.length<=1:=ahr dgg ngg (by omega);have h2:0<lg.length:=by
          rcases xp lg.length with h0 | h0
          ·rw [yB h0] at vg;simp [dv] at vg;omega
          ·exact h0
         omega)
        rw [yM ⟨hs,iB⟩]
        simp only [go_sem,ya,yb,dw,az,t3,t4,show (k:Int)<(t.length:Int) by omega,yq,Cl,wrapN (n:=k+1) (by omega),eO,fb,dM,c2,e3,yR,lD,n5 jE,n5 oO,show ¬(600:Int)<(k:Int) by omega,yt,show (t.length:Int)-(k:Int)=((t.length-k:Nat):Int) by omega,wrapN (n:=t.length-k) (by omega),show ((t.length-k:Nat):Int)-1=((t.length-k-1:Nat):Int) by omega,wrapN (n:=t.length-k-1) (by omega),show ¬(600:Int)<((t.length-k-1:Nat):Int) by omega,e4,bi,eH.pu,eH.ap,eH.one,eI.pu,eI.ap,eI.one,gL,b5,ye,de,e5,hg.len,hg.shut,show ¬(lg.length:Int)=1 by omega,yO]
 ·have hkt:k=t.length:=by omega
  rw [yx (by omega)];by_cases Ak:600<k
  ·rw [yM (.inl Ak)];simp only [go_sem,ya,dw,az,t3,t4,show ¬(k:Int)<(t.length:Int) by omega,yt,show (600:Int)<(k:Int) by omega,yq]
  ·rw [yx (by omega),yx (by omega)]
   simp only [go_sem,ya,dw,az,t3,t4,show ¬(k:Int)<(t.length:Int) by omega,yt,show ¬(600:Int)<(k:Int) by omega,show (t.length:Int)-(k:Int)=((t.length-k:Nat):Int) by omega,wrapN (n:=t.length-k) (by omega),show ((t.length-k:Nat):Int)-1= -1 by omega,show IntKind.wrap .i64 (-1)= -1 by rfl,show ¬(600:Int)<(-1:Int) by omega]
def aiQ (h:Rm P L) {b:Nat} {r:List Nat} {t:List Nat} {neg:Bool} (iL:decide (((b:Nat):Int)=45)=neg) (hl:t.length<9223372036854775808) {tm:Env} (t0:ai tm 0= .str (b::r)) (t3:ai tm 3= .str t):
  gM [.t 2] (D P L (az (az (az dw.body))) ⟨tm,[],0,0⟩)=some (ab (Ae neg t)):=by
 obtain ⟨k,hk⟩:∃k,k=bZ t:=⟨_,rfl⟩;have Ce:k<=t.length:=by rw [hk];exact H7 t
 have e1:=FZ h.BA (s:=t) (by omega);have e2:=PC h.PB h.F8 (s:=t.take k) (by rw [yE];omega);have e3:=PC h.PB h.F8 (s:=t.drop (k+1)) (by rw [xT];omega);unfold Ae;rw [<-hk] at e1 ⊢;have c1:=aea Ce;have hI:mT 0 (.str (b::r))=some (.int .u8 (b:Nat)):=rfl;unfold ak at e1 e2 e3;generalize hp:t.take k=p at*
 generalize hq:t.drop (k+1)=q at*
 cases hd:dV p with
 | false=>
  rw [yM (.inl rfl)];rw [hd] at e2;simp only [go_sem,ya,dw,az,t3,e1,eO,fb,dM,c1,e2,yO]
 | true=>
  rw [hd] at e2;by_cases hz:neg=true/\p=[48]
  ·rw [yM (.inr hz)];obtain ⟨z1,z2⟩:=hz;rw [z1] at iL;have hb:=of_decide_eq_true iL;subst z2;simp only [go_sem,ya,dw,az,t0,t3,e1,eO,fb,dM,c1,e2,yR,hI,hb,yq,lD,show cY [48] [48]=true from rfl]
  ·rw [yx (by simp only [yaA,ybC];exact hz)]
   have fin:∀tm',ai tm' 3= .str t->ai tm' 4=ab k->D P L (.seq (bw (az (az (az dw.body)))) (bw (az (az (az (az dw.body)))))) ⟨tm,[],0,0⟩=some (.normal,⟨tm',[],0,0⟩)->gM [.t 2] (D P L (az (az (az dw.body))) ⟨tm,[],0,0⟩)=some (ab (
     if k<t.length/\(dV q=false\/q=[48]\/q=[49]) then 1
     else if 600<k\/600<t.length-k-1 then 4
     else if k<t.length/\wN (fN p) (fN q)≠1 then 1
     else 0)):=fun tm' f3 f4 e=>by
    show gM [.t 2] (D P L (.seq (bw (az (az (az dw.body)))) (.seq (bw (az (az (az (az dw.body))))) (az (az (az (az (az dw.body))))))) ⟨tm,[],0,0⟩)=_
    rw [CA,e,fB,<-hp,<-hq];exact azl h hk hl (by rw [hp];exact hd) f3 f4
   by_cases hb:((b:Nat):Int)=45
   ·have aDa:p≠[48]:=fun e=>hz ⟨by rw [<-iL];exact xn hb,e⟩
    refine fin _ ?_ ?_ (by simp only [go_sem,ya,dw,bw,az,t0,t3,e1,eO,fb,dM,c1,e2,yR,hI,hb,yq,lD,n5 aDa]<;>rfl)<;>simp only [go_sem,ya,t3]
   ·refine fin _ ?_ ?_ (by simp only [go_sem,ya,dw,bw,az,t0,t3,e1,eO,fb,dM,c1,e2,yR,hI,hb,yt]<;>rfl)<;>simp only [go_sem,ya,t3]
def aDb (h:Rm P L) {s:List Nat} (hl:s.length<9223372036854775808):ak P L 263 [.str s] (ab (cf s)):=by
 unfold ak;rw [aH h.aC1]
 cases s with
 | nil=>
  have e1:=FZ h.BA (s:=[]) (by simp);have e2:=PC h.PB h.F8 (s:=[]) (by simp);unfold ak at e1 e2;have hc:ix [] (some 0) (some 0)=some (.str []):=rfl;simp only [go_sem,ya,dw,yK,show ¬(0:Int)<((0:Nat):Int) by decide,yt,e1,bZ,eO,fb,dM,hc,e2,show dV []=false from rfl,yO];rfl
 | cons b t=>
  have DN:t.length+1<9223372036854775808:=by simpa using hl
  have hI:mT 0 (.str (b::t))=some (.int .u8 (b:Nat)):=rfl;by_cases hb:b=45
  ·subst hb;have fin:∀tm',ai tm' 0= .str (45::t)->ai tm' 3= .str t->D P L (.seq (bw dw.body) (.seq (bw (az dw.body)) (bw (az (az dw.body))))) ⟨[(0,.str (45::t))],[],0,0⟩=some (.normal,⟨tm',[],0,0⟩)->gM [.t 2] (D P L dw.body ⟨[(0,.str (45::t))],[],0,0⟩)=some (ab (cf (45::t))):=fun tm' f0 f3 e=>by
    show gM [.t 2] (D P L (.seq (bw dw.body) (.seq (bw (az dw.body)) (.seq (bw (az (az dw.body))) (az (az (az dw.body)))))) ⟨[(0,.str (45::t))],[],0,0⟩)=_
    rw [acZ,e,fB]
    exact aiQ h (b:=45) rfl (by omega) f0 f3
   have hc:ix (45::t) (some 1) (some (t.length+1))=some (.str t):=by
    have:=MG (s:=45::t) (k:=1) (by simp)
    simpa using this
   refine fin _ ?_ ?_ (by simp only [go_sem,ya,dw,bw,az,yz,show (0:Int)<((t.length+1:Nat):Int) by omega,yq,Dv,eO,fb,dM,hc]<;>rfl)<;>simp only [go_sem,ya]
  ·have fin:∀tm',ai tm' 0= .str (b::t)->ai tm' 3= .str (b::t)->D P L (.seq (bw dw.body) (.seq (bw (az dw.body)) (bw (az (az dw.body))))) ⟨[(0,.str (b::t))],[],0,0⟩=some (.normal,⟨tm',[],0,0⟩)->gM [.t 2] (D P L dw.body ⟨[(0,.str (b::t))],[],0,0⟩)=some (ab (cf (b::t))):=fun tm' f0 f3 e=>by
    show gM [.t 2] (D P L (.seq (bw dw.body) (.seq (bw (az dw.body)) (.seq (bw (az (az dw.body))) (az (az (az dw.body)))))) ⟨[(0,.str (b::t))],[],0,0⟩)=_
    rw [acZ,e,fB]
    have:=aiQ h (b:=b) (neg:=false) (y8 (by omega)) (by simpa using hl) f0 f3
    rw [this];simp only [cf,yx hb]
   refine fin _ ?_ ?_ (by simp only [go_sem,ya,dw,bw,az,yz,show (0:Int)<((t.length+1:Nat):Int) by omega,yq,hI,show ¬((b:Nat):Int)=45 by omega]<;>rfl)<;>simp only [go_sem,ya]
end
end
section
open Go (IntKind)
def bS (v:AV) (l:List (List Nat)):Prop:=cQ v (l.map AV.str)
section
variable {v:AV} {l:List (List Nat)}
def bS.len (h:bS v l) {hp:Hp}:gI hp 1 v=some (.int .i64 (l.length:Nat)):=by
 have:=cQ.len (hp:=hp) h
 grind
def bS.pu (h:bS v l):bg v=true:=cQ.pu h
def bS.ap (h:bS v l) (n:Nat) {hp:Hp}:freeze (n+1) hp v=some (v,hp):=cQ.ap h n
def bS.bK (h:bS v l):VE.bK v=v:=cQ.bK h
def bS.one (h:bS v l):dt v=true:=cQ.one h
def bS.cells (h:bS v l):cellsOf v=[v]:=cQ.cells h
def bS.aY (h:bS v l) {i:Nat} (hi:i<l.length):jG 1 i v=some (.b6 (.str l[i]::(l.map AV.str).drop (i+1))):=by
 have:=cQ.aY h (i:=i) (by simpa using hi)
 grind
def SD (e:Bool) (l:List (List Nat)):bS (.aw e l.length (l.map AV.str)) l:=by
 have:=EA e (l.map AV.str)
 rwa [yr] at this
end
section
variable {P:aK} {L:Lib}
def avq (h:Rm P L) {a:Rat} {K:Nat} (ka:Hq K a) (hK:K<=4000000000):bL P L (D P L) 284 [.str (RT a)]=some (.str (aZ a.num))/\bL P L (D P L) 285 [.str (aZ a.num)]=some (.str (aB a.num.natAbs))/\bL P L (D P L) 286 [.str (RT a)]=some (.str (aB a.den)):=by
 have hl:=I6 ka;have e0:=FZ h.BA (s:=RT a) (by omega);have jO:bZ (RT a)=(aZ a.num).length/\(RT a).take (aZ a.num).length=aZ a.num:=by
  unfold RT;by_cases hd:a.den=1
  ·rw [yM hd,xY]
   have:=LR a.num []
   rw [xY] at this;exact ⟨by rw [this];simp [bZ],xD⟩
  ·rw [yx hd];exact ⟨by rw [LR];simp [bZ],uO⟩
 obtain ⟨ew,sN⟩:=jO;rw [ew] at e0;have hlen:(aZ a.num).length<=(RT a).length:=by unfold RT;simp
 have e1:bL P L (D P L) 284 [.str (RT a)]=some (.str (aZ a.num)):=by
  rw [aH h.aC2]
  have:=aea (s:=RT a) hlen
  simp only [go_sem,ya,Ul,e0,eO,fb,dM,this,sN]
 have hT:aZ a.num=TT a.num 1:=by unfold TT;simp
 have e2:bL P L (D P L) 285 [.str (aZ a.num)]=some (.str (aB a.num.natAbs)):=by
  have e:=ajB h (n:=a.num) (d:=1) (by rw [<-hT];omega) (fun _=>rfl);rw [<-hT] at e;rw [aH h.aC3];by_cases h0:a.num<0
  ·have es:cT a.num= -1:=by unfold cT;rw [yM h0]
   rw [es] at e;rw [mO h0] at e ⊢;have hc:=MG (s:=45::aB a.num.natAbs) (k:=1) (by simp);simp only [List.drop_succ_cons,yL,yz] at hc;simp only [go_sem,ya,Ol,e,show (-1:Int)<0 by decide,eO,fb,dM,hc]
  ·have es:¬cT a.num<0:=by unfold cT;rw [yx h0];split<;>decide
   have hi:aZ a.num=aB a.num.natAbs:=by
    obtain ⟨m,hm⟩:∃m:Nat,a.num=m:=⟨a.num.toNat,by omega⟩;rw [hm,lA,vn]
   simp only [go_sem,ya,Ol,e,es];rw [hi]
 have e3:bL P L (D P L) 286 [.str (RT a)]=some (.str (aB a.den)):=by
  rw [aH h.aC4];by_cases hd:a.den=1
  ·have hR:(RT a).length=(aZ a.num).length:=by unfold RT;rw [yM hd];simp
   rw [hd,show aB 1=[49] by decide];simp only [go_sem,ya,Om,e0,show ((aZ a.num).length:Int)=((RT a).length:Int) by omega,yq]
  ·have hR:RT a=(aZ a.num++[47])++aB a.den:=by unfold RT;rw [yx hd];simp
   have hRl:(RT a).length=(aZ a.num).length+1+(aB a.den).length:=by rw [hR];simp;omega
   have hc:=MG (s:=RT a) (k:=(aZ a.num).length+1) (by omega);have jl:(RT a).drop ((aZ a.num).length+1)=aB a.den:=by
    rw [hR,show (aZ a.num).length+1=(aZ a.num++[47]).length by simp,uP]
   rw [jl] at hc
   simp only [go_sem,ya,Om,e0,show ¬((aZ a.num).length:Int)=((RT a).length:Int) by omega,show ((aZ a.num).length:Int)+1=(((aZ a.num).length+1:Nat):Int) from rfl,wrapN (n:=(aZ a.num).length+1) (by omega),eO,fb,dM,hc]
 exact ⟨e1,e2,e3⟩
def aA4 (h:Rl P L) {a:Rat} {K:Nat} (ka:Hq K a) (hK:K<=4000000000):ak P L 269 [.str (RT a)] (ab (if LG a=true then 4 else 0)):=by
 obtain ⟨e1,e2,e3⟩:=avq h.toRm ka hK;unfold ak;rw [aH h.aC5];unfold LG LN;rw [vn];by_cases h1:600<(aB a.num.natAbs).length
 ·rw [xn h1,yaQ,yM rfl];simp only [go_sem,ya,JL,e1,e2,show (600:Int)<((aB a.num.natAbs).length:Int) by omega,yq]
 ·by_cases h2:600<(aB a.den).length
  ·rw [xn h2,Bool.or_true,yM rfl];simp only [go_sem,ya,JL,e1,e2,show ¬(600:Int)<((aB a.num.natAbs).length:Int) by omega,yt,e3,show (600:Int)<((aB a.den).length:Int) by omega]
  ·rw [y8 h1,y8 h2,Bool.or_self,yx (by decide)];simp only [go_sem,ya,JL,e1,e2,show ¬(600:Int)<((aB a.num.natAbs).length:Int) by omega,yt,e3,show ¬(600:Int)<((aB a.den).length:Int) by omega]
def r8 (l:List (List Nat)):Bool:=l.all fun s=>decide (s.length<=40)
def apx {l:List (List Nat)} {i:Nat} (h:i<l.length):r8 (l.drop i)=(decide (l[i].length<=40)&&r8 (l.drop (i+1))):=by
 rw [yP h];rfl
def ac0 {l:List (List Nat)} {i:Nat} (h:i<l.length):bD ((l.drop i).map cf)=if cf l[i]=0 then bD ((l.drop (i+1)).map cf) else cf l[i]:=by
 rw [yP h];rfl
def ajE (h:Rm P L) (Ga:Has P L 261 JG) {v:AV} {l:List (List Nat)} (hv:bS v l) (hl:l.length<=1000000) (hs:∀s,s∈l->s.length<9223372036854775808):ak P L 261 [v] (ab (bD (l.map cf))):=by
 have key:=gh (P:=P) (L:=L) (live:=[0,3]) (a:=ET)
  (I:=fun k st=>∃i:Nat,st=⟨[(0,v),(3,ab i)],[],0,0⟩/\i+k=l.length/\bD ((l.drop i).map cf)=bD (l.map cf))
  (Q:=fun ex st=>∃tm ct,st=⟨tm,[],ct,0⟩/\((ex= .ret/\ai tm 2=ab (bD (l.map cf)))\/(ex= .exit 0/\bD (l.map cf)=0))) ?_
 ·unfold ak;rw [aH Ga];simp only [go_sem,JG];generalize hq:D P L (.loop [0,3] ET) _=q;obtain ⟨ex,st,rfl,tm,ct,rfl,h2⟩:=bJ hq (key l.length) ⟨0,by simp only [go_sem,ya,ax,aD hv.pu,aE _ hv.pu]<;>rfl,by omega,by simp⟩
  rcases h2 with ⟨rfl,h2⟩ | ⟨rfl,h3⟩
  ·simp only [go_sem,h2]
  ·simp only [go_sem,ax,h3]
 ·rintro k st ⟨i,rfl,hk,hd⟩;by_cases hi:i<l.length
  ·rw [ac0 hi] at hd;have e1:=aDb h (hs l[i] (yS hi));have ev:=hv.aY hi;unfold ak at e1;by_cases h1:cf l[i]=0
   ·left
    rw [yM h1] at hd;rw [h1] at e1;simp only [go_sem,ya,ET,hv.len,show (i:Int)<l.length by omega,ev,e1,yq,yR];refine ⟨_,k-1,rfl,by omega,i+1,?_,by omega,hd⟩;rw [wrap64 (by omega) (by omega)];simp only [go_sem,ya,ax,aD hv.pu,aE _ hv.pu]<;>rfl
   ·right
    rw [yx h1] at hd;simp only [go_sem,ya,ET,hv.len,show (i:Int)<l.length by omega,ev,e1,h1,yt,yO];refine ⟨_,_,rfl,by simp,_,_,rfl,.inl ⟨rfl,?_⟩⟩;rw [<-hd];simp only [go_sem]
  ·right
   simp only [go_sem,ya,ET,hv.len,show ¬(i:Int)<l.length by omega];refine ⟨_,_,rfl,by simp,_,_,rfl,.inr ⟨rfl,?_⟩⟩;rw [<-hd,xf (by omega)];rfl
def apy {l:List Rat} {i:Nat} (h:i<l.length):(l.drop i).any LG=(LG l[i]||(l.drop (i+1)).any LG):=by
 rw [yP h];rfl
def ajF (h:Rl P L) (BK:Has P L 316 Fy) {v:AV} {l:List Rat} (hv:bS v (l.map RT)) (hl:l.length<=1000000) {K:Nat} (hs:∀r,r∈l->Hq K r) (hK:K<=4000000000):ak P L 316 [v] (ab (if l.any LG=true then 4 else 0)):=by
 have hlen:(l.map RT).length=l.length:=by simp
 have key:=gh (P:=P) (L:=L) (live:=[0,3]) (a:=EW)
  (I:=fun k st=>∃i:Nat,st=⟨[(0,v),(3,ab i)],[],0,0⟩/\i+k=l.length/\(l.drop i).any LG=l.any LG)
  (Q:=fun ex st=>∃tm ct,st=⟨tm,[],ct,0⟩/\((ex= .ret/\ai tm 2=ab 4/\l.any LG=true)\/(ex= .exit 0/\l.any LG=false))) ?_
 ·unfold ak;rw [aH BK];simp only [go_sem,Fy];generalize hq:D P L (.loop [0,3] EW) _=q;obtain ⟨ex,st,rfl,tm,ct,rfl,h2⟩:=bJ hq (key l.length) ⟨0,by simp only [go_sem,ya,ax,aD hv.pu,aE _ hv.pu]<;>rfl,by omega,by simp⟩
  rcases h2 with ⟨rfl,h2,h3⟩ | ⟨rfl,h3⟩
  ·simp only [go_sem,h2,h3,xE]
  ·simp only [go_sem,ax,h3];rfl
 ·rintro k st ⟨i,rfl,hk,hd⟩;by_cases hi:i<l.length
  ·rw [apy hi] at hd;have e1:=aA4 h (hs l[i] (yS hi)) hK;have ev:=hv.aY (i:=i) (by simpa using hi);rw [List.getElem_map] at ev
   cases hb:LG l[i] with
   | false=>
    left
    rw [hb,Bool.false_or] at hd;rw [hb] at e1;simp only [yI,xg] at e1;simp only [go_sem,ya,EW,hv.len,hlen,show (i:Int)<l.length by omega,ev,e1,yq,yR];refine ⟨_,k-1,rfl,by omega,i+1,?_,by omega,hd⟩;rw [wrap64 (by omega) (by omega)];simp only [go_sem,ya,ax,aD hv.pu,aE _ hv.pu]<;>rfl
   | true=>
    right
    rw [hb,yaQ] at hd;rw [hb] at e1;simp only [xE] at e1;simp only [go_sem,ya,EW,hv.len,hlen,show (i:Int)<l.length by omega,ev,e1,show ¬(4:Int)=0 by decide,yt,yO];exact ⟨_,_,rfl,by simp,_,_,rfl,.inl ⟨rfl,by simp only [go_sem],hd.symm⟩⟩
  ·right
   simp only [go_sem,ya,EW,hv.len,hlen,show ¬(i:Int)<l.length by omega];refine ⟨_,_,rfl,by simp,_,_,rfl,.inr ⟨rfl,?_⟩⟩;rw [<-hd,xf (by omega)];rfl
end
end
section
open Go (IntKind)
open Classical in
noncomputable def cV (s:List Nat):Rat:=if h:cf s=0 then Classical.choose (ay6 h) else 0
def Il {s:List Nat} (h:cf s=0):s=RT (cV s)/\(aB (cV s).num.natAbs).length<=600/\(aB (cV s).den).length<=600:=by
 unfold cV
 grind
def Ml {z:Int} {k M:Nat} (h:(aB z.natAbs).length<=k) (hM:4*k<=M):Bd M z:=by
 have h1:=Iw z.natAbs;have h2:=Ix (aB z.natAbs).length;have h3:(2:Nat)^(4*(aB z.natAbs).length)<=2^M:=xh (by decide) (by omega);exact yU h1 (xm h2 h3)
def avr {s:List Nat} (h:cf s=0) {M:Nat} (hM:2400<=M):Hq M (cV s):=by
 obtain ⟨_,h1,h2⟩:=Il h
 exact ⟨Ml h1 (by omega),Ml (z:=((cV s).den:Int)) (by rw [vn];exact h2) (by omega)⟩
noncomputable def alO (s:List Nat) (least:Int):Int:=if cf s=0 then (if cT (cV s).num<least then 3 else 0) else cf s
instance (k:Nat) (z:Int):Decidable (Bd k z):=inferInstanceAs (Decidable (z.natAbs<2^k))
def alP:RT 0=[48]:=by decide
def aDc:Hq 2 0:=⟨by decide,by decide⟩
def aDd:Hq 2 1:=⟨by decide,by decide⟩
def avt {a:Rat} (h:RT a=[48]):a=0:=by
 unfold RT at h;have hp:=zh a.den;by_cases hd:a.den=1
 ·rw [yM hd,xY] at h;by_cases h0:a.num<0
  ·rw [mO h0] at h;simp at h
  ·obtain ⟨m,hm⟩:∃m:Nat,a.num=m:=⟨a.num.toNat,by omega⟩;rw [hm,lA] at h;have hv:=Cy m;rw [h] at hv;have hv:some 0=some m:=hv
   have:m=0:=by simp_all
   simp_all
 ·rw [yx hd] at h;have hl:=congrArg tG h
  grind
def azm (a:Rat):cY (RT a) [48]=decide (a=0):=by
 by_cases h:a=0
 ·subst h;exact Tg alP
 ·rw [y8 h];exact n5 (fun e=>h (avt e))
end
section
open Go (IntKind)
def azn (hs h:Rat):Bool:=decide (hs=0)||decide (h<hs)
end
section
open Go (IntKind)
section
variable {s1 s2 s3 s4:Int} {w1 w2 w3 w4:AV} {l1 l2 l3 l4:List Nat}
def rY (a b c d:AV) (r:List AV):iy 4 true (a::b::c::d::r)=some (.agg [a,b,c,d]):=rfl
end
section
variable {P:aK} {L:Lib}
def aq9 (a:List Nat):cY a a=true:=M8 rfl
end
end
section
open Go (IntKind)
structure F4 (c1 c2 c3 c4:AV):Prop where
 ap:∀(n:Nat) (hp:Hp),freeze (n+20) hp (.agg [c1,c2,c3,c4])=some (.agg [c1,c2,c3,c4],hp)
 fO:∀hp:Hp,result hp (.agg [c1,c2,c3,c4])=some (.agg [c1,c2,c3,c4])
 st:∀(hp:Hp) (ct id:Nat) (a b c d:AV),iR hp ct id 0 4 [c1,c2,c3,c4] (some (.cells true true true 4 [a,b,c,d]))=some (.ae [],a7 hp id (.cells true true true 4 [c1,c2,c3,c4]),ct)
 bx:∀ct:Nat,FY ct 4 [c1,c2,c3,c4]=some (.ptr ct 0,.cells true true true 4 [c1,c2,c3,c4])
 o1:dt c1=true
 o2:dt c2=true
 o3:dt c3=true
 o4:dt c4=true
 pu:bg (.agg [c1,c2,c3,c4])=true
 z1:∀(n:Nat) (hp:Hp),freeze (n+1) hp c1=some (c1,hp)
 z2:∀(n:Nat) (hp:Hp),freeze (n+1) hp c2=some (c2,hp)
 z3:∀(n:Nat) (hp:Hp),freeze (n+1) hp c3=some (c3,hp)
 z4:∀(n:Nat) (hp:Hp),freeze (n+1) hp c4=some (c4,hp)
def eN.gen {v:AV} {a:Rat} (h:eN v a):∃c1 c2 c3 c4,v= .agg [c1,c2,c3,c4]/\F4 c1 c2 c3 c4:=by
 obtain ⟨s1,w1,s2,w2,rfl,h1,h2⟩:=h;obtain ⟨l1,u1⟩:=h1.a6;obtain ⟨l2,u2⟩:=h2.a6;refine ⟨_,_,_,_,rfl,fun n hp=>?_,mZ u1 u2,fun hp ct id a b c d=>mY u1 u2 hp ct id a b c d,fun ct=>by simp only [go_sem,yb,bi,u1.pu,u1.one,u2.pu,u2.one],rfl,u1.one,rfl,u2.one,by simp [bg,aG,u1.pu,u2.pu],fun _ _=>rfl,fun n _=>u1.ap n,fun _ _=>rfl,fun n _=>u2.ap n⟩;exact cD _ _ (by simp only [go_sem,u1.ap,u2.ap])
end
section
open Go (IntKind)
def QL:List AV->List Rat->Prop
 | [],[]=>True
 | a::b::c::d::r,x::l=>eN (.agg [a,b,c,d]) x/\QL r l
 | _,_=>False
def QL.inv {cs:List AV} {x:Rat} {l:List Rat} (h:QL cs (x::l)):∃a b c d r,cs=a::b::c::d::r/\eN (.agg [a,b,c,d]) x/\QL r l:=by
 match cs,h with
 | a::b::c::d::r,h=>exact ⟨a,b,c,d,r,rfl,h.1,h.2⟩
def QL.Zc {cs:List AV} (h:QL cs []):cs=[]:=by
 match cs,h with
 | [],_=>rfl
 | [_],h=>exact h.elim
 | [_,_],h=>exact h.elim
 | [_,_,_],h=>exact h.elim
 | _::_::_::_::_,h=>exact h.elim
def QL.len:∀{l:List Rat} {cs:List AV},QL cs l->cs.length=l.length*4
 | [],_,h=>by rw [h.Zc];rfl
 | x::l,cs,h=>by
  obtain ⟨a,b,c,d,r,rfl,_,h2⟩:=h.inv
  have:=h2.len
  grind
def F4.Lv {c1 c2 c3 c4:AV} (g:F4 c1 c2 c3 c4):bg c1=true/\bg c2=true/\bg c3=true/\bg c4=true:=by
 have:=g.pu
 simpa only [bg,aG,vt,yg] using this
def eN.f4 {a b c d:AV} {x:Rat} (h:eN (.agg [a,b,c,d]) x):F4 a b c d:=by
 obtain ⟨_,_,_,_,e,g⟩:=h.gen
 grind
def QL.pu:∀{l:List Rat} {cs:List AV},QL cs l->aG cs=true
 | [],_,h=>by rw [h.Zc];rfl
 | x::l,cs,h=>by
  obtain ⟨a,b,c,d,r,rfl,h1,h2⟩:=h.inv;obtain ⟨p1,p2,p3,p4⟩:=h1.f4.Lv;simp only [aG,p1,p2,p3,p4,h2.pu,wm]
def QL.aR:∀{l m:List Rat} {cs ds:List AV},QL cs l->QL ds m->QL (cs++ds) (l++m)
 | [],m,cs,ds,h,k=>by rw [h.Zc];exact k
 | x::l,m,cs,ds,h,k=>by
  obtain ⟨a,b,c,d,r,rfl,h1,h2⟩:=h.inv;exact ⟨h1,h2.aR k⟩
def QL.snoc {l:List Rat} {x:Rat} {cs:List AV} {a b c d:AV} (h:QL cs l) (k:eN (.agg [a,b,c,d]) x):QL (cs++[a,b,c,d]) (l++[x]):=h.aR ⟨k,trivial⟩
def QL.get:∀{l:List Rat} {cs:List AV} {i:Nat},QL cs l->∀(hi:i<l.length),∃a b c d r,cs.drop (i*4)=a::b::c::d::r/\eN (.agg [a,b,c,d]) l[i]
 | [],_,i,_,hi=>absurd hi (Nat.not_lt_zero i)
 | x::l,cs,0,h,hi=>by
  obtain ⟨a,b,c,d,r,rfl,h1,_⟩:=h.inv
  grind
 | x::l,cs,i+1,h,hi=>by
  obtain ⟨a,b,c,d,r,rfl,_,h2⟩:=h.inv;obtain ⟨a',b',c',d',r',e,k⟩:=h2.get (i:=i) (by simpa using hi)
  grind
def et (v:AV) (l:List Rat):Prop:=(v= .aa/\l=[])\/∃e cs,v= .aw e l.length cs/\QL cs l
section
variable {v:AV} {l:List Rat} {hp:Hp}
def et.len (h:et v l) {hp:Hp}:gI hp 1 v=some (.int .i64 (l.length:Nat)):=by
 rcases h with ⟨rfl,rfl⟩ | ⟨e,cs,rfl,h⟩<;>rfl
def et.pu (h:et v l):bg v=true:=by
 rcases h with ⟨rfl,rfl⟩ | ⟨e,cs,rfl,h⟩<;>rfl
def et.ap (h:et v l) (n:Nat) {hp:Hp}:freeze (n+1) hp v=some (v,hp):=by
 rcases h with ⟨rfl,rfl⟩ | ⟨e,cs,rfl,h⟩<;>rfl
def et.one (h:et v l):dt v=true:=by
 rcases h with ⟨rfl,rfl⟩ | ⟨e,cs,rfl,h⟩<;>rfl
def et.cells (h:et v l):cellsOf v=[v]:=by
 rcases h with ⟨rfl,rfl⟩ | ⟨e,cs,rfl,h⟩<;>rfl
def et.aY (h:et v l) {i:Nat} (hi:i<l.length):∃a b c d r,jG 4 i v=some (.b6 (a::b::c::d::r))/\eN (.agg [a,b,c,d]) l[i]:=by
 rcases h with ⟨rfl,rfl⟩ | ⟨e,cs,rfl,h⟩
 ·grind
 ·obtain ⟨a,b,c,d,r,e1,e2⟩:=h.get hi;refine ⟨a,b,c,d,r,?_,e2⟩;rw [So e _ hi,e1]
def ara:et .aa []:= .inl ⟨rfl,rfl⟩
def MH {cs:List AV} (e:Bool) (h:QL cs l):et (.aw e l.length cs) l:= .inr ⟨e,cs,rfl,h⟩
end
def Th {tm:Env} {a b c d x0 x1 x2 x3:AV} {r:List (Nat×Nat×X)} (h1:dt a=true) (h2:dt b=true) (h3:dt c=true) (h4:dt d=true):pD tm [x0,x1,x2,x3] 0 4 [a,b,c,d] r=fill tm [a,b,c,d] r:=by
 rw [Sq (by rfl) (by simp) (by simp [cp,h1,h2,h3,h4])];rfl
def Ff (rw' pu ex:Bool) (a b c d:AV):Z5 0 1 4 (some (.cells rw' pu ex 4 [a,b,c,d]))=some (1,[a,b,c,d]):=rfl
def pQ (hp:Hp) (cs:List AV):jc hp 4 true (.b6 cs)=iy 4 true cs:=rfl
end
section
abbrev Mx:=List (List Rat)
def cU (a b:List Rat) (x y:Rat):List Rat:=List.zipWith (fun p q=>p*x+q*y) a b
def rN {a b:List Rat} {x y:Rat} (h:a.length=b.length):(cU a b x y).length=a.length:=by
 simp [cU,h]
def ED {a b:List Rat} {x y:Rat} {i:Nat} (ha:i<a.length) (hb:i<b.length) (h:i<(cU a b x y).length):(cU a b x y)[i]=a[i]*x+b[i]*y:=by
 simp [cU]
def gR (m:Mx) (i:Nat):List Rat:=m.getD i []
def b9 (r:List Rat) (c:Nat):Rat:=r.getD c 0
def eQ {m:Mx} {i:Nat} (h:i<m.length):gR m i=m[i]:=by
 simp [gR,y9,xM h]
def jw {r:List Rat} {i:Nat} (h:i<r.length):b9 r i=r[i]:=by
 simp [b9,y9,xM h]
def kK (m:Mx) (i j:Nat) (r:List Rat):gR (m.set i r) j=if i=j/\j<m.length then r else gR m j:=by
 simp only [gR,y9,List.getElem?_set]
 grind
def iD (m:Mx) (c:Nat):Nat->Nat->Nat
 | 0,p=>p
 | d+1,p=>if b9 (gR m p) c=0 then iD m c d (p+1) else p
def Ti (m:Mx) (c:Nat):∀d p,p<=iD m c d p/\iD m c d p<=p+d
 | 0,p=>⟨yu _,yu _⟩
 | d+1,p=>by
  have:=Ti m c d (p+1)
  simp only [iD];split<;>omega
def Na (m:Mx) (c:Nat):∀d p,iD m c d p<p+d->b9 (gR m (iD m c d p)) c≠0
 | 0,p,h=>by simp only [iD] at h;omega
 | d+1,p,h=>by
  simp only [iD] at h ⊢
  split
  ·rename_i h0;rw [yM h0] at h;exact Na m c d (p+1) (by omega)
  ·grind
def bC (m:Mx) (i j:Nat):Mx:=(m.set i (gR m j)).set j (gR m i)
def nJ (m:Mx) (a c:Nat):Mx:=m.set a (cU (gR m a) (gR m a) (b9 (gR m a) c)⁻¹ 0)
def mL (m:Mx) (a c i:Nat):Mx:=if i≠a/\b9 (gR m i) c≠0 then m.set i (cU (gR m i) (gR m a) 1 (-(b9 (gR m i) c))) else m
def bT (m:Mx) (a c:Nat):Nat->Mx
 | 0=>m
 | i+1=>mL (bT m a c i) a c i
def aP (s:Mx×List Nat) (c:Nat):Nat:=iD s.1 c (s.1.length-s.2.length) s.2.length
def db (s:Mx×List Nat) (c:Nat):Mx:=nJ (bC s.1 s.2.length (aP s c)) s.2.length c
def fQ (s:Mx×List Nat) (c:Nat):Mx×List Nat:=
 if aP s c<s.1.length then (bT (db s c) s.2.length c s.1.length,s.2++[c]) else s
def aq (m:Mx):Nat->Mx×List Nat
 | 0=>(m,[])
 | c+1=>fQ (aq m c) c
def rK (m:Mx) (i j:Nat):(bC m i j).length=m.length:=by simp [bC]
def avu (m:Mx) (a c:Nat):(nJ m a c).length=m.length:=by simp [nJ]
def avv (m:Mx) (a c i:Nat):(mL m a c i).length=m.length:=by unfold mL;split<;>simp
def rO (m:Mx) (a c:Nat):∀i,(bT m a c i).length=m.length
 | 0=>rfl
 | i+1=>by rw [bT,avv,rO m a c i]
def rQ (s:Mx×List Nat) (c:Nat):(db s c).length=s.1.length:=by rw [db,avu,rK]
def avw (s:Mx×List Nat) (c:Nat):(fQ s c).1.length=s.1.length:=by
 unfold fQ;split
 ·simp only [rO,rQ]
 ·rfl
def pq (m:Mx):∀c,(aq m c).1.length=m.length
 | 0=>rfl
 | c+1=>by rw [aq,avw,pq m c]
def wid (w:Nat) (m:Mx):Prop:=∀i,i<m.length->(gR m i).length=w
def wid.set {w:Nat} {m:Mx} {r:List Rat} (h:wid w m) (i:Nat) (hr:r.length=w):wid w (m.set i r):=fun j hj=>by
 rw [vm] at hj;rw [kK];split
 ·grind
 ·exact h j hj
def wid.bC {w:Nat} {m:Mx} (h:wid w m) {i j:Nat} (hi:i<m.length) (hj:j<m.length):wid w (bC m i j):=(h.set i (h j hj)).set j (h i hi)
def wid.nJ {w:Nat} {m:Mx} (h:wid w m) {a:Nat} (ha:a<m.length) (c:Nat):wid w (nJ m a c):=h.set a (by rw [rN rfl];exact h a ha)
def wid.mL {w:Nat} {m:Mx} (h:wid w m) {a i:Nat} (ha:a<m.length) (hi:i<m.length) (c:Nat):wid w (mL m a c i):=by
 unfold VE.mL;split
 ·exact h.set i (by rw [rN ((h i hi).trans (h a ha).symm)];exact h i hi)
 ·exact h
def wid.bT {w:Nat} {m:Mx} (h:wid w m) {a:Nat} (ha:a<m.length) (c:Nat):∀i,i<=m.length->wid w (bT m a c i)
 | 0,_=>h
 | i+1,hi=>by
  have ih:=wid.bT h ha c i (by omega);exact ih.mL (by rw [rO];exact ha) (by rw [rO];omega) c
structure Pv (m:Mx) (w c:Nat) (s:Mx×List Nat):Prop where
 len:s.1.length=m.length
 wid:wid w s.1
 pv:s.2.length<=m.length
 lt:∀p,p∈s.2->p<c
def Pv.aP {m:Mx} {w c:Nat} {s:Mx×List Nat} (h:Pv m w c s) (c':Nat):s.2.length<=aP s c'/\aP s c'<=m.length:=by
 have:=Ti s.1 c' (s.1.length-s.2.length) s.2.length
 have h1:=h.len;have h2:=h.pv;unfold VE.aP;omega
def Pv.db {m:Mx} {w c:Nat} {s:Mx×List Nat} (h:Pv m w c s) {c':Nat} (hp:VE.aP s c'<s.1.length):VE.wid w (db s c'):=by
 have h1:=(h.aP c').1;exact (h.wid.bC (by omega) hp).nJ (by rw [rK];omega) c'
def Pv.step {m:Mx} {w c:Nat} {s:Mx×List Nat} (h:Pv m w c s):Pv m w (c+1) (fQ s c):=by
 have h1:=(h.aP c).1;have h2:=h.len;unfold fQ;split
 ·rename_i hp;refine ⟨by simp only [rO,rQ,h2],(h.db hp).bT (by rw [rQ];omega) c _ (by rw [rQ];omega),by simp only [yG,yz,yK];omega,fun p hp=>?_⟩;rcases List.mem_append.1 hp with hp | hp
  ·have:=h.lt p hp;omega
  ·grind
 ·exact ⟨h2,h.wid,h.pv,fun p hp=>by have:=h.lt p hp;omega⟩
def n7 {m:Mx} {w:Nat} (h:wid w m):∀c,Pv m w c (aq m c)
 | 0=>⟨rfl,h,uf _,fun p hp=>by cases hp⟩
 | c+1=>(n7 h c).step
def ath {s:Mx×List Nat} (h:s.2.length=s.1.length) (c:Nat):fQ s c=s:=by
 have:¬aP s c<s.1.length:=by
  unfold aP;rw [h,yaK];simp [iD]
 unfold fQ;rw [yx this]
def aeb {m:Mx} {c:Nat} (h:(aq m c).2.length=m.length):∀d,aq m (c+d)=aq m c
 | 0=>rfl
 | d+1=>by
  have ih:=aeb h d;rw [<-Nat.add_assoc,aq,ih];exact ath (by rw [h,pq]) _
def SE {m:Mx} {a c:Nat}:∀{n:Nat},n<=m.length->∀j,gR (bT m a c n) j=if j<n/\j≠a/\b9 (gR m j) c≠0 then cU (gR m j) (gR m a) 1 (-(b9 (gR m j) c)) else gR m j
 | 0,_,j=>by rw [yx (by omega)];rfl
 | n+1,hn,j=>by
  have ih:=SE (m:=m) (a:=a) (c:=c) (n:=n) (by omega);have en:gR (bT m a c n) n=gR m n:=by simp_all
  have ea:gR (bT m a c n) a=gR m a:=by simp_all
  rw [bT];unfold mL;rw [en,ea];by_cases h:n≠a/\b9 (gR m n) c≠0
  ·rw [yM h,kK];by_cases hj:n=j
   ·subst hj;rw [yM ⟨rfl,by rw [rO];omega⟩,yM ⟨by omega,h⟩]
   ·grind
  ·grind
def eJ (K:Nat) (m:Mx):Prop:=∀i,i<m.length->∀x,x∈gR m i->Hq K x
def eJ.mono {K J:Nat} {m:Mx} (h:eJ K m) (hK:K<=J):eJ J m:=fun i hi x hx=>(h i hi x hx).mono hK
def eJ.set {K:Nat} {m:Mx} {r:List Rat} (h:eJ K m) (i:Nat) (hr:∀x,x∈r->Hq K x):eJ K (m.set i r):=fun j hj x hx=>by
 rw [vm] at hj;rw [kK] at hx;split at hx
 ·grind
 ·exact h j hj x hx
def CG {r:List Rat} {c:Nat} (h:c<r.length):b9 r c∈r:=by rw [jw h];exact yS h
def ahv {a b:List Rat} {x y:Rat} (h:a.length=b.length) {z:Rat} (hz:z∈cU a b x y):∃p q,p∈a/\q∈b/\z=p*x+q*y:=by
 obtain ⟨i,hi,rfl⟩:=List.mem_iff_getElem.1 hz;have df:=hi;rw [rN h] at df;exact ⟨_,_,yS df,yS (h▸df),ED df (h▸df) hi⟩
def arb {r:List Rat} {t:Rat} {k:Nat} (hr:∀x,x∈r->Hq k x) (ht:Hq k t):∀z,z∈cU r r t 0->Hq (2*k) z:=fun z hz=>by
 obtain ⟨p,q,hp,_,rfl⟩:=ahv rfl hz;rw [show p*t+q*0=p*t by grind];exact ((hr p hp).mul ht).mono (by omega)
def ati {r p:List Rat} {t:Rat} {k:Nat} (hl:r.length=p.length) (hr:∀x,x∈r->Hq k x) (hp:∀x,x∈p->Hq (2*k) x) (ht:Hq k t):∀z,z∈cU r p 1 (-t)->Hq (4*k+1) z:=fun z hz=>by
 obtain ⟨x,y,hx,hy,rfl⟩:=ahv hl hz;rw [show x*1+y* -t=x+y* -t by grind];exact ((hr x hx).add ((hp y hy).mul ht.neg)).mono (by omega)
def eJ.bC {K:Nat} {m:Mx} (h:eJ K m) {i j:Nat} (hi:i<m.length) (hj:j<m.length):eJ K (bC m i j):=(h.set i (h j hj)).set j (h i hi)
def eJ.db {m:Mx} {w c:Nat} {s:Mx×List Nat} (h:Pv m w c s) {k:Nat} (hk:eJ k s.1) (hc:c<w) (hp:aP s c<s.1.length):(∀x,x∈gR (db s c) s.2.length->Hq (2*k) x)/\∀i,i<s.1.length->i≠s.2.length->∀x,x∈gR (VE.db s c) i->Hq k x:=by
 have h1:=(h.aP c).1;have hs:=hk.bC (i:=s.2.length) (by omega) hp;have hw:=h.wid.bC (i:=s.2.length) (by omega) hp;unfold VE.db nJ;refine ⟨fun x hx=>?_,fun i hi dd x hx=>?_⟩
 ·rw [kK,yM ⟨rfl,by rw [rK];omega⟩] at hx;have hr:=hs s.2.length (by rw [rK];omega);refine arb hr (hr _ (CG ?_)).inv x hx;rw [hw _ (by rw [rK];omega)];exact hc
 ·rw [kK,yx (fun q=>dd q.1.symm)] at hx;exact hs i (by rw [rK];exact hi) x hx
def SF {m:Mx} {w c a k:Nat} (hw:wid w m) (hc:c<w) (ha:a<m.length) (g1:∀x,x∈gR m a->Hq (2*k) x) (g2:∀i,i<m.length->i≠a->∀x,x∈gR m i->Hq k x) {n:Nat} (hn:n<=m.length):eJ (4*k+1) (bT m a c n):=fun i hi x hx=>by
 rw [rO] at hi;rw [SE hn] at hx;have wi:=hw i hi;have wa:=hw a ha
 split at hx
 ·rename_i q;exact ati (wi.trans wa.symm) (g2 i hi q.2.1) g1 (g2 i hi q.2.1 _ (CG (by rw [wi];exact hc))) x hx
 ·by_cases iS:i=a
  ·subst iS;exact (g1 x hx).mono (by omega)
  ·exact (g2 i hi iS x hx).mono (by omega)
def eJ.step {m:Mx} {w c:Nat} {s:Mx×List Nat} (h:Pv m w c s) {k:Nat} (hk:eJ k s.1) (hc:c<w) (KL:1<=k):eJ (4*k+1) (fQ s c).1:=by
 unfold fQ;split
 ·rename_i hp;have h1:=(h.aP c).1;obtain ⟨g1,g2⟩:=hk.db h hc hp;exact SF (h.db hp) hc (by rw [rQ];omega) g1 (fun i hi=>g2 i (by rw [rQ] at hi;exact hi)) (by rw [rQ];omega)
 ·exact hk.mono (by omega)
def MI {s:Mx×List Nat} {c:Nat} (h:¬aP s c<s.1.length):fQ s c=s:=yx h
def Js {m:Mx} {w K:Nat} (hw:wid w m) (hk:eJ K m) (hK:1<=K):∀c,c<=w->∃k,1<=k/\k+1<=4^(aq m c).2.length*(K+1)/\eJ k (aq m c).1
 | 0,_=>⟨K,hK,by simp [aq],hk⟩
 | c+1,hc=>by
  obtain ⟨k,k0,k1,k2⟩:=Js hw hk hK c (by omega);have hP:=n7 hw c;rw [aq];by_cases hp:aP (aq m c) c<(aq m c).1.length
  ·refine ⟨4*k+1,by omega,?_,k2.step hP (by omega) k0⟩
   have:(fQ (aq m c) c).2.length=(aq m c).2.length+1:=by unfold fQ;rw [yM hp];simp
   rw [this,xd,Nat.mul_right_comm];omega
  ·rw [MI hp];exact ⟨k,k0,k1,k2⟩
end
section
open Go (IntKind)
section
variable {P:aK} {L:Lib}
def alQ (h:Ck P L) {s:List Nat} (h0:cf s=0):∃r,ak P L 62 [.str s] r/\eN r (cV s):=by
 obtain ⟨hR,_⟩:=Il h0;have kr:=avr h0 (yu 2400);have hl:=I6 kr;obtain ⟨r,e,hr⟩:=m62 h.toTx (a:=cV s) (by omega);rw [<-hR] at e;exact ⟨r,e,hr⟩
end
end
section
open Go (IntKind)
def ru:dE (.int .i64 0)=some 0:=rfl
def BO:dE (.int .i64 1)=some 1:=rfl
def ac1:∀{ps:List (List AV)},(∀p,p∈ps->p.length=4)->ps.flatten.length=ps.length*4
 | [],_=>by simp
 | p::ps,h=>by
  have:=ac1 (ps:=ps) (fun q hq=>h q (List.mem_cons_of_mem _ hq))
  rw [vA,yG,this,h p List.mem_cons_self,yz,Nat.add_mul];omega
def Af (v:AV) (l:List Rat):Prop:=∃cs,v= .aw true l.length cs/\QL cs l
def Af.fs {v:AV} {l:List Rat} (h:Af v l):et v l:=by
 obtain ⟨cs,rfl,h⟩:=h;exact MH true h
section
variable {P:aK} {L:Lib}
def alR (h:Ck P L) (BL:Has P L 161 Fv) {v:AV} {l:List (List Nat)} (hv:bS v l) (hl:l.length<=1000000) (hs:∀s,s∈l->s.length<=1000000000):ak P L 161 [v] (ab (bD (l.map cf))):=by
 unfold ak;rw [aH BL];simp only [go_sem,ya,Fv,hv.len];have key:=gh (P:=P) (L:=L) (live:=[6,7,8]) (a:=Nk)
  (I:=fun k s=>∃i:Nat,s=⟨[(6,v),(7,ab l.length),(8,ab i)],[],0,0⟩/\i+k=l.length/\bD ((l.drop i).map cf)=bD (l.map cf))
  (Q:=fun ex s=>∃tm ct,s=⟨tm,[],ct,0⟩/\((ex= .ret/\ai tm 2=ab (bD (l.map cf)))\/(ex= .exit 0/\bD (l.map cf)=0))) ?_
 ·generalize hq:D P L (.loop [6,7,8] Nk) _=q;obtain ⟨ex,s,rfl,tm,ct,rfl,h2⟩:=bJ hq (key l.length) ⟨0,by simp only [go_sem,ya,ax,aD hv.pu,aE _ hv.pu]<;>rfl,by omega,by simp⟩
  rcases h2 with ⟨rfl,h2⟩ | ⟨rfl,h2⟩
  ·simp only [go_sem,h2]
  ·rw [h2];simp only [go_sem,ax]
 ·rintro k s ⟨i,rfl,hk,hf⟩;simp only [go_sem,ya,Nk];by_cases hi:i<l.length
  ·have df:(i:Int)<l.length:=by omega
   have e1:=m86 h (hs l[i] (yS hi));unfold ak at e1;rw [ac0 hi] at hf;by_cases hz:cf l[i]=0
   ·left
    rw [hz] at e1;simp only [go_sem,ya,df,hv.aY hi,e1];refine ⟨_,k-1,rfl,by omega,i+1,?_,by omega,by rw [yM hz] at hf;exact hf⟩
    rw [wrap64 (by omega) (by omega)];simp only [go_sem,ya,ax,aD hv.pu,aE _ hv.pu]<;>rfl
   ·right
    simp only [go_sem,ya,df,hv.aY hi,e1,hz];rw [yx hz] at hf;refine ⟨_,_,rfl,by simp,_,_,rfl,.inl ⟨rfl,?_⟩⟩;simp only [go_sem,hf]
  ·right
   have df:¬(i:Int)<l.length:=by omega
   simp only [go_sem,df];refine ⟨_,_,rfl,by simp,_,_,rfl,.inr ⟨rfl,?_⟩⟩;rw [<-hf,xf (by omega)];rfl
def aDe (h:Ck P L) (Lw:Has P L 88 jD) {v:AV} {l:List (List Nat)} (hv:bS v l) (hl:l.length<=1000000) (hc:∀s,s∈l->cf s=0):∃r,ak P L 88 [v] r/\Af (shut r) (l.map cV):=by
 have zf:∀n,(yj (n+1) [AV.int .i64 0,.aa,.int .i64 0,.aa]).flatten= .int .i64 0:: .aa:: .int .i64 0:: .aa::(yj n [AV.int .i64 0,.aa,.int .i64 0,.aa]).flatten:=fun n=>by rw [wo,vA];rfl
 have zl:∀n,(yj n [AV.int .i64 0,.aa,.int .i64 0,.aa]).flatten.length=n*4:=fun n=>by
  rw [ac1 (fun p hp=>by rw [List.eq_of_mem_replicate hp];rfl),List.length_replicate]
 have key:=gh (P:=P) (L:=L) (live:=[3,9,10,11]) (a:=Jj)
  (I:=fun k st=>∃(i:Nat) (qs:List AV),i+k=l.length/\QL qs ((l.take i).map cV)/\st=⟨[(3,.ao 0 0 l.length),(9,v),(10,ab l.length),(11,ab i)],[(0,.cells true true true 4 (qs++(yj (l.length-i) [AV.int .i64 0,.aa,.int .i64 0,.aa]).flatten))],1,0⟩)
  (Q:=fun ex st=>∃tm hp ct qs,QL qs (l.map cV)/\st=⟨tm,hp,ct,0⟩/\ex= .exit 0/\ai tm 3= .ao 0 0 l.length/\au hp 0=some (.cells true true true 4 qs)) ?_
 ·unfold ak;rw [aH Lw];have mk:qU 0 4 64 [AV.int .i64 0,.aa,.int .i64 0,.aa] (some l.length) (some l.length)=some (.ao 0 0 l.length,.cells true true true 4 (yj l.length [AV.int .i64 0,.aa,.int .i64 0,.aa]).flatten):=C2 (by omega) (by omega) (by rfl) (by rfl);simp only [go_sem,ya,yb,jD,hv.len,Mk (show (0:Int)<=l.length by omega),xX,mk];generalize hq:D P L (.loop [3,9,10,11] Jj) _=q;obtain ⟨ex,st,rfl,tm,hp,ct,qs,lh,rfl,rfl,t3,g0⟩:=bJ hq (key l.length) ⟨0,[],by omega,trivial,by simp only [go_sem,ya,yb,ax,aD hv.pu,aE _ hv.pu]<;>rfl⟩
  have oE:=lh.len;rw [yr] at oE;refine ⟨.bn true 4 l.length qs,?_,?_⟩
  ·simp only [go_sem,yb,ax,t3,g0];exact Cw (fR _ _ _) oE (by decide)
  ·exact ⟨qs,by rw [yr];rfl,lh⟩
 ·rintro k st ⟨i,qs,nt,lh,rfl⟩;by_cases hi:i<l.length
  ·left
   obtain ⟨r,e2,hr⟩:=alQ h (hc _ (yS hi));have bP:=hr;obtain ⟨r1,r2,r3,r4,rfl,gr⟩:=hr.gen;have lq:qs.length=i*4:=by rw [lh.len,yr,yE,xA (by omega)]
   have pr:=gr.Lv;have aO:∀(hp:Hp) (ct:Nat),iR hp ct 0 (i*4) 4 [r1,r2,r3,r4] (some (.cells true true true 4 (qs++(yj (l.length-i) [AV.int .i64 0,.aa,.int .i64 0,.aa]).flatten)))=some (.ae [],a7 hp 0 (.cells true true true 4 ((qs++[r1,r2,r3,r4])++(yj (l.length-(i+1)) [AV.int .i64 0,.aa,.int .i64 0,.aa]).flatten)),ct):=fun hp ct=>by
    rw [zJ (by rfl) (by rw [yG,lq,zl];omega) (by simp [cp,gr.o1,gr.o2,gr.o3,gr.o4])];have hov:over (i*4) [r1,r2,r3,r4] (qs++(yj (l.length-i) [AV.int .i64 0,.aa,.int .i64 0,.aa]).flatten)=(qs++[r1,r2,r3,r4])++(yj (l.length-(i+1)) [AV.int .i64 0,.aa,.int .i64 0,.aa]).flatten:=by
     rw [show l.length-i=(l.length-(i+1))+1 by omega,zf];unfold over;rw [<-lq,uO,show qs.length+[r1,r2,r3,r4].length=qs.length+4 from rfl,<-List.drop_drop,uP];rfl
    rw [hov];simp [aG,pr.1,pr.2.1,pr.2.2.1,pr.2.2.2]
   unfold ak at e2;simp only [go_sem,ya,Jj,show (i:Int)<l.length by omega,hv.aY hi,e2,cd,Mk (show (0:Int)<=i by omega),xX,bN 0 0 hi,ye,aO];refine ⟨_,k-1,rfl,by omega,i+1,qs++[r1,r2,r3,r4],by omega,?_,?_⟩
   ·rw [xb hi,xi];exact lh.snoc bP
   ·rw [wrap64 (by omega) (by omega)];simp only [go_sem,ya,yb,ax,aD hv.pu,aE _ hv.pu]<;>rfl
  ·right
   have:i=l.length:=by omega
   subst this;rw [yN (yu _)] at lh;simp only [go_sem,ya,Jj,show ¬(l.length:Int)<l.length by omega,yaK];exact ⟨_,_,rfl,by simp,_,_,_,qs,lh,rfl,rfl,by simp only [go_sem,ya],by simp only [go_sem];simp⟩
end
end
section
open Go (IntKind)
section
variable {P:aK} {L:Lib}
def alS (hp:Hp) (ct:Nat) (q:Option (AV×Obj)):fY:=match q with | some (v,b)=>some (v,(ct,b)::hp,ct+1) | none=>none
def aiR {f:cA} {tm:Env} {hp:Hp} {ct:Nat} (sz b:Nat) (x v:X):bf P L f tm hp ct (.nn sz b x v)=alS hp ct (mU hp ct sz b (aA tm x) (ik hp sz (aA tm v))):=rfl
def aiS {hp:Hp} {ct:Nat} {v:AV} {b:Obj}:alS hp ct (some (v,b))=some (v,(ct,b)::hp,ct+1):=rfl
end
end
section
open Go (IntKind)
def lyT (w:AV) (hh sc st ox oy wx wy:List Nat):AV:= .agg [w,.str hh,.str sc,.str st,.str ox,.str oy,.str wx,.str wy]
noncomputable def aDf (s:List (List Int)) (hh sc st ox oy wx wy:List Nat):Int:=bD [aqe s,alO hh 0,alO sc 1,cf st,bD [cf ox,cf oy],bD [cf wx,cf wy]]
def Ct {a:Int} {l:List Int}:bD (a::l)=0↔a=0/\bD l=0:=by
 simp only [bD]
 grind
end
section
open Go (IntKind)
structure Lay where
 w:AV
 s:List (List Int)
 hh:List Nat
 sc:List Nat
 st:List Nat
 ox:List Nat
 oy:List Nat
 wx:List Nat
 wy:List Nat
def Lay.cs (a:Lay):List AV:=[a.w,.str a.hh,.str a.sc,.str a.st,.str a.ox,.str a.oy,.str a.wx,.str a.wy]
def Lay.T (a:Lay):AV:=lyT a.w a.hh a.sc a.st a.ox a.oy a.wx a.wy
noncomputable def Lay.E (a:Lay):Int:=aDf a.s a.hh a.sc a.st a.ox a.oy a.wx a.wy
end
section
open Go (IntKind)
def take_set {α:Type} {l:List α} {i:Nat} {a:α} (h:i<l.length):(l.set i a).take (i+1)=l.take i++[a]:=by
 rw [xb (by simpa using h),List.getElem_set_self,List.take_set_of_le (yu i)]
def stS {hp:Hp} {ct id o:Nat} {v:List Nat} {ex:Bool} {l:List (List Nat)} (h:o<l.length):iR hp ct id o 1 [.str v] (some (.cells true true ex 1 (l.map .str)))=some (.ae [],a7 hp id (.cells true true ex 1 ((l.set o v).map .str)),ct):=by
 rw [zJ (by rfl) (by simp;omega) (by rfl)]
 have:over o [.str v] (l.map .str)=(l.set o v).map .str:=by
  simp only [over,yz,yK,ye];rw [List.map_set,vR,yM (by simpa using h)]
  simp
 rw [this];rfl
def aDg (ct:Nat) {n:Nat} (h:n<=10000000000):qU ct 1 16 [.str []] (some n) (some n)=some (.ao ct 0 n,.cells true true true 1 ((yj n []).map .str)):=by
 rw [C2 (sz:=1) (by omega) (by omega) (by rfl) (by rfl)]
 have:∀n,(yj n [AV.str []]).flatten=(yj n []).map .str:=fun n=>by
  induction n with
  | zero=>rfl
  | succ n ih=>rw [wo,vA,ih,wo,xa];rfl
 rw [this];rfl
def avx (l:List (List Nat)):bS (.aw true l.length (l.map .str)) l:=SD true l
section
variable {P:aK} {L:Lib}
def aDh (h:Has P L 123 Jy) (hT:Tx P L) {v:AV} {l:List Rat} {K:Nat} (hv:et v l) (hl:l.length<=1000000) (hk:∀x,x∈l->Hq K x) (hK:K<=4000000000):∃r,ak P L 123 [v] r/\bS (shut r) (l.map RT):=by
 have key:=gh (P:=P) (L:=L) (live:=[3,9,10,11]) (a:=IG)
  (I:=fun k st=>∃(i:Nat) (out:List (List Nat)),i+k=l.length/\out.length=l.length/\out.take i=(l.take i).map RT/\st=⟨[(3,.ao 0 0 l.length),(9,v),(10,ab l.length),(11,ab i)],[(0,.cells true true true 1 (out.map .str))],1,0⟩)
  (Q:=fun ex st=>∃tm hp ct,st=⟨tm,hp,ct,0⟩/\ex= .exit 0/\ai tm 3= .ao 0 0 l.length/\au hp 0=some (.cells true true true 1 ((l.map RT).map .str))) ?_
 ·unfold ak;rw [aH h];simp only [go_sem,ya,yb,Jy,hv.len,Mk (show (0:Int)<=l.length by omega),xX,aDg 0 (show l.length<=10000000000 by omega)];generalize hq:D P L (.loop [3,9,10,11] IG) _=q;obtain ⟨ex,st,rfl,tm,hp,ct,rfl,rfl,t3,g0⟩:=bJ hq (key l.length) ⟨0,yj l.length [],by omega,by simp,by simp,by simp only [go_sem,ya,yb,ax,aD hv.pu,aE _ hv.pu]<;>rfl⟩
  refine ⟨.bn true 1 l.length ((l.map RT).map .str),?_,?_⟩
  ·simp only [go_sem,yb,ax,t3,g0];exact Cw (fR _ _ _) (by simp) (by decide)
  ·have:=avx (l.map RT)
   rwa [yr] at this
 ·rintro k st ⟨i,out,nt,hlen,Fo,rfl⟩;by_cases hi:i<l.length
  ·left
   obtain ⟨a,b,c,d,r,e1,hx⟩:=hv.aY hi;have e2:=m46 hT hx (hk _ (yS hi)) hK;have gx:=hx.f4;unfold ak at e2
   simp only [go_sem,ya,yb,yf,IG,show (i:Int)<l.length by omega,e1,pQ,bi,gx.st,rY,gx.ap,yL,e2,Mk (show (0:Int)<=i by omega),xX,bN 0 0 hi,ye,stS (l:=out) (o:=i) (by omega)];refine ⟨_,k-1,rfl,by omega,i+1,out.set i (RT l[i]),by omega,by simpa using hlen,?_,?_⟩
   ·rw [take_set (by omega),Fo,xb hi,xi];rfl
   ·rw [wrap64 (by omega) (by omega)];simp only [go_sem,ya,yb,ax,aD hv.pu,aE _ hv.pu]<;>rfl
  ·right
   have:i=l.length:=by omega
   subst this;rw [yN (by omega),yN (yu _)] at Fo;subst Fo;simp only [go_sem,ya,IG,show ¬(l.length:Int)<l.length by omega];exact ⟨_,_,rfl,by simp,_,_,_,rfl,rfl,by simp only [go_sem,ya],by simp only [go_sem]⟩
end
end
section
open Go (IntKind)
noncomputable def Lay.low (sh:List Nat) (a:Lay):Bool:=azn (cV sh) (cV a.hh)
def HW {α:Type} {f:α->Int}:∀{l:List α},bD (l.map f)=0->∀a,a∈l->f a=0
 | [],_,_,h=>by cases h
 | x::l,h,a,ha=>by
  rw [xa,Ct] at h;rcases List.mem_cons.1 ha with rfl | ha
  ·grind
  ·exact HW h.2 a ha
end
section
open Go (IntKind)
def cK.snoc {α β:Type} {p:α->β->Prop}:∀{l:List α} {m:List β} {a:α} {b:β},cK p l m->p a b->cK p (l++[a]) (m++[b])
 | [],[],_,_,_,h=>⟨h,trivial⟩
 | _::_,_::_,_,_,h,k=>⟨h.1,cK.snoc h.2 k⟩
end
section
open Go (IntKind)
def cL {β:Type} (p:AV->β->Prop) (v:AV) (M:List β):Prop:=∃rows,cQ v rows/\cK p rows M
section
variable {β:Type} {p:AV->β->Prop} {v:AV} {s:List β}
def cL.len (h:cL p v s) {hp:Hp}:gI hp 1 v=some (.int .i64 (s.length:Nat)):=by
 obtain ⟨rows,h1,h2⟩:=h;rw [<-h2.len];exact h1.len
def cL.pu (h:cL p v s):bg v=true:=by obtain ⟨rows,h1,h2⟩:=h;exact h1.pu
def cL.ap (h:cL p v s) (n:Nat) {hp:Hp}:freeze (n+1) hp v=some (v,hp):=by obtain ⟨rows,h1,h2⟩:=h;exact h1.ap n
def cL.shut (h:cL p v s):VE.shut v=v:=by obtain ⟨rows,h1,h2⟩:=h;exact h1.shut
def cL.fO (h:cL p v s) {hp:Hp}:result hp v=some v:=by obtain ⟨rows,h1,h2⟩:=h;exact h1.fO
def cL.one (h:cL p v s):dt v=true:=by obtain ⟨rows,h1,h2⟩:=h;exact h1.one
def cL.cells (h:cL p v s):cellsOf v=[v]:=by obtain ⟨rows,h1,h2⟩:=h;exact h1.cells
def cL.aY (h:cL p v s) {i:Nat} (hi:i<s.length):∃r rest,p r s[i]/\jG 1 i v=some (.b6 (r::rest)):=by
 obtain ⟨rows,h1,h2⟩:=h;have df:i<rows.length:=by rw [h2.len];exact hi
 exact ⟨_,_,h2.get df hi,h1.aY df⟩
def RE:cL p .aa []:=⟨[],qF,trivial⟩
def zj (e:Bool) {rows:List AV} (h:cK p rows s):cL p (.aw e s.length rows) s:=by
 have:=EA e rows
 rw [h.len] at this;exact ⟨rows,this,h⟩
end
noncomputable def mM (w:Nat) (r:List (List Nat)):Int:=bD [if r.length=0 then 12 else 0,if 64<r.length then 5 else 0,if r.length=w then 0 else 2,bD (r.map cf)]
noncomputable def jF (M:List (List (List Nat))):Int:=if M.length=0 then 12 else if 64<M.length then 5 else bD (M.map (mM (M.getD 0 []).length))
def Fg {β:Type} {M:List (List β)} (h:0<M.length):M.getD 0 []=M[0]:=by simp_all
def oV (id:Nat):Nat->AV
 | 0=> .aa
 | n+1=> .ao id 0 (n+1)
def oH (id z:Nat) (cs:List AV) (r:Hp):Nat->Hp
 | 0=>r
 | _+1=>(id,.cells true true false z cs)::r
def oC (id:Nat):Nat->Nat
 | 0=>id
 | _+1=>id+1
section
variable {P:aK} {L:Lib}
def aDi (h:Ck P L) (BL:Has P L 161 Fv) (Ks:Has P L 126 Jz) {v r:AV} {M:List (List (List Nat))} {l:List (List Nat)} (hv:cL bS v M) (hM:0<M.length) (hr:bS r l) (hl:l.length<=1000000) (hs:∀s,s∈l->s.length<=1000000000):ak P L 126 [r,.b6 [v]] (ab (mM (M.getD 0 []).length l)):=by
 obtain ⟨r0,rest,h0,e0⟩:=hv.aY (i:=0) hM;rw [Fg hM];have e1:=mB h.oz (decide ((l.length:Int)=0)) 12;have e2:=mB h.oz (decide ((64:Int)<l.length)) 5;have e3:=mB h.oz (!decide ((l.length:Int)=(M[0].length:Nat))) 2;have e4:=alR h BL hr hl hs;have q1:(if decide ((l.length:Int)=0)=true then (12:Int) else 0)=if l.length=0 then 12 else 0:=by
  simp only [wh];split<;>omega
 have q2:(if decide ((64:Int)<l.length)=true then (5:Int) else 0)=if 64<l.length then 5 else 0:=by
  simp only [wh];split<;>omega
 have q3:(if (!decide ((l.length:Int)=(M[0].length:Nat)))=true then (2:Int) else 0)=if l.length=M[0].length then 0 else 2:=by
  simp only [Bool.not_eq_true',vl];split<;>omega
 rw [q1] at e1;rw [q2] at e2;rw [q3] at e3;have e5:ak P L 125 _ _:=Nd.Py h.Pz (lB true [if l.length=0 then (12:Int) else 0,if 64<l.length then 5 else 0,if l.length=M[0].length then 0 else 2,bD (l.map cf)]) (by simp);unfold mM;simp only [yz,yK,xa,vM] at e5;unfold ak at e1 e2 e3 e4 e5 ⊢;rw [aH Ks];simp only [go_sem,ya,yb,yD,yk,yf,Jz,hr.len,hr.ap,e1,e2,ru,e0,h0.len,e3,e4,e5]
def aDj (Kt:Has P L 127 JA) {v:AV} {M:List (List (List Nat))} (hv:cL bS v M) (hl:M.length<=1000000) {g:Nat} {cap:List AV} (hc:aG cap=true) (hz:∀(n:Nat) (hp:Hp),cB (n+900) hp cap=some (cap,hp)) {f:List (List Nat)->Int} (hg:∀w a,a∈M->bS w a->ak P L g (w::cap) (ab (f a))):ak P L 127 [v,.fn (.f g) [] cap] (ab (bD (M.map f))):=by
 have pf:bg (.fn (.f g) [] cap)=true:=by simp [bg,aG,hc]
 have key:=gh (P:=P) (L:=L) (live:=[1,8,9,10]) (a:=Nj)
  (I:=fun k s=>∃i:Nat,s=⟨[(1,.fn (.f g) [] cap),(8,v),(9,ab M.length),(10,ab i)],[],0,0⟩/\i+k=M.length/\bD ((M.drop i).map f)=bD (M.map f))
  (Q:=fun ex s=>∃tm ct,s=⟨tm,[],ct,0⟩/\((ex= .ret/\ai tm 4=ab (bD (M.map f)))\/(ex= .exit 0/\bD (M.map f)=0))) ?_
 ·unfold ak;rw [aH Kt];simp only [go_sem,ya,JA,hv.len];generalize hq:D P L (.loop [1,8,9,10] Nj) _=q;obtain ⟨ex,s,rfl,tm,ct,rfl,h2⟩:=bJ hq (key M.length) ⟨0,by simp only [go_sem,ya,ax,aD hv.pu,aE _ hv.pu,aD pf,aE _ pf]<;>rfl,by omega,by simp⟩
  rcases h2 with ⟨rfl,h2⟩ | ⟨rfl,h2⟩
  ·simp only [go_sem,h2]
  ·rw [h2];simp only [go_sem,ax]
 ·rintro k s ⟨i,rfl,hk,hf⟩;simp only [go_sem,ya,Nj];by_cases hi:i<M.length
  ·have df:(i:Int)<M.length:=by omega
   obtain ⟨r,rest,hr,e0⟩:=hv.aY hi;have e1:=hg r _ (yS hi) hr;rw [yP hi,xa] at hf;simp only [bD] at hf;by_cases gC:f M[i]=0
   ·left
    rw [gC] at e1;simp only [go_sem,ya,df,e0,hr.ap,hz,e1];refine ⟨_,k-1,rfl,by omega,i+1,?_,by omega,by rw [yM gC] at hf;exact hf⟩
    rw [wrap64 (by omega) (by omega)];simp only [go_sem,ya,ax,aD hv.pu,aE _ hv.pu,aD pf,aE _ pf]<;>rfl
   ·right
    simp only [go_sem,ya,df,e0,hr.ap,hz,e1,gC];rw [yx gC] at hf;refine ⟨_,_,rfl,by simp,_,_,rfl,.inl ⟨rfl,?_⟩⟩;simp only [go_sem,hf]
  ·right
   have df:¬(i:Int)<M.length:=by omega
   simp only [go_sem,df];refine ⟨_,_,rfl,by simp,_,_,rfl,.inr ⟨rfl,?_⟩⟩;rw [<-hf,xf (by omega)];rfl
def m84 (h:Ck P L) (BL:Has P L 161 Fv) (Ks:Has P L 126 Jz) (Kt:Has P L 127 JA) (h84:Has P L 84 pZ) {v:AV} {M:List (List (List Nat))} (hv:cL bS v M) (hl:M.length<=1000000) (hr:∀r,r∈M->r.length<=1000000/\∀s,s∈r->s.length<=1000000000):ak P L 84 [v] (ab (jF M)):=by
 have e1:=mB h.oz (decide ((M.length:Int)=0)) 12;have e2:=mB h.oz (decide ((64:Int)<M.length)) 5;have e3:∀a b:Int,ak P L 125 _ _:=fun a b=>Nd.Py h.Pz (lB true [a,b]) (by simp)
 unfold jF;unfold ak at e1 e2 e3 ⊢;rw [aH h84];by_cases h0:M.length=0
 ·rw [yM h0];rw [show decide ((M.length:Int)=0)=true by simp only [wh];omega] at e1;rw [show decide ((64:Int)<M.length)=false by simp only [vl];omega] at e2;have e4:bL P L (D P L) 125 [.aw true 2 [ab 12,ab 0]]=some (ab 12):=e3 12 0;simp only [xE,yI,xg] at e1 e2;simp only [go_sem,ya,yb,yD,yk,yf,pZ,hv.len,hv.pu,hv.one,hv.cells,NK,show (M.length:Int)=0 by omega,yq,show ¬(64:Int)<0 by omega,yt,e1,e2,e4,vV,yO]
 rw [yx h0];rw [show decide ((M.length:Int)=0)=false by simp only [vl];omega] at e1;by_cases D7:64<M.length
 ·rw [yM D7];rw [show decide ((64:Int)<M.length)=true by simp only [wh];omega] at e2;have e4:bL P L (D P L) 125 [.aw true 2 [ab 0,ab 5]]=some (ab 5):=e3 0 5;simp only [xE,yI,xg] at e1 e2;simp only [go_sem,ya,yb,yD,yk,yf,pZ,hv.len,hv.pu,hv.one,hv.cells,NK,show ¬(M.length:Int)=0 by omega,yq,show (64:Int)<(M.length:Int) by omega,yt,e1,e2,e4,vV,yO]
 ·rw [yx D7];rw [show decide ((64:Int)<M.length)=false by simp only [vl];omega] at e2;have e4:bL P L (D P L) 125 [.aw true 2 [ab 0,ab 0]]=some (ab 0):=e3 0 0;have e5:=aDj Kt hv hl (g:=126) (cap:=[.b6 [v]]) rfl (fun _ _=>rfl) (fun w a ha hw=>aDi h BL Ks hv (by omega) hw (hr a ha).1 (hr a ha).2);simp only [yI,xg] at e1 e2;simp only [go_sem,ya,yb,yD,yk,yf,pZ,hv.len,hv.pu,hv.ap,hv.one,hv.cells,NK,show ¬(M.length:Int)=0 by omega,show ¬(64:Int)<(M.length:Int) by omega,yt,e1,e2,e4,e5,yq,yR]
end
end
section
open Go (IntKind)
def cK.take {α β:Type} {p:α->β->Prop}:∀{l:List α} {m:List β} (i:Nat),cK p l m->cK p (l.take i) (m.take i)
 | [],[],i,_=>by simp [cK]
 | _::_,_::_,0,_=>trivial
 | _::_,_::_,i+1,h=>⟨h.1,cK.take i h.2⟩
def cK.set {α β:Type} {p:α->β->Prop}:∀{l:List α} {m:List β} (i:Nat) {a:α} {b:β},cK p l m->p a b->cK p (l.set i a) (m.set i b)
 | [],[],i,_,_,_,_=>by simp [cK]
 | _::_,_::_,0,_,_,h,k=>⟨k,h.2⟩
 | _::_,_::_,i+1,_,_,h,k=>⟨h.1,cK.set i h.2 k⟩
section
variable {P:aK} {L:Lib}
def aA5 (h:Ck P L) (Lw:Has P L 88 jD) (Zd:Has P L 225 Of) {v:AV} {M:List (List (List Nat))} (hv:cL bS v M) (hl:M.length<=1000000) (hr:∀r,r∈M->r.length<=1000000/\∀s,s∈r->cf s=0):∃r,ak P L 225 [v] r/\cL Af (shut r) (M.map (wb cV)):=by
 have key:=gh (P:=P) (L:=L) (live:=[3,6,7,8]) (a:=EP)
  (I:=fun k st=>∃(i:Nat) (rows:List AV),i+k=M.length/\cK Af rows ((M.take i).map (wb cV))/\st=⟨[(3,oV 0 i),(6,v),(7,ab M.length),(8,ab i)],oH 0 1 rows [] i,oC 0 i,0⟩)
  (Q:=fun ex st=>∃tm ct rows,st=⟨tm,oH 0 1 rows [] M.length,ct,0⟩/\ex= .exit 0/\ai tm 3=oV 0 M.length/\cK Af rows (M.map (wb cV))) ?_
 ·unfold ak;rw [aH Zd];simp only [go_sem,ya,Of,hv.len];generalize hq:D P L (.loop [3,6,7,8] EP) _=q;obtain ⟨ex,st,rfl,tm,ct,rows,rfl,rfl,t3,hR⟩:=bJ hq (key M.length) ⟨0,[],by omega,trivial,by simp only [go_sem,ya,ax,aD hv.pu,aE _ hv.pu]<;>rfl⟩
  have hlen:=hR.len;rw [yr] at hlen
  cases hn:M.length with
  | zero=>
   rw [hn] at t3;refine ⟨.aa,by simp only [go_sem,ax,t3,oV,oH],?_⟩;rw [yB hn];exact RE
  | succ n=>
   rw [hn] at t3 hlen;refine ⟨.bn false 1 (n+1) rows,?_,?_⟩
   ·simp only [go_sem,yb,ax,t3,oV,oH];exact Cw (fR _ _ _) (by rw [hlen,yf]) (by decide)
   ·have:=zj false hR
    rwa [yr,hn] at this
 ·rintro k st ⟨i,rows,hk,hR,rfl⟩;by_cases hi:i<M.length
  ·left
   obtain ⟨r,rest,fa,e0⟩:=hv.aY hi;have hm:=hr _ (yS hi);obtain ⟨q,e1,hq⟩:=aDe h Lw fa hm.1 hm.2;have lh:=hq.fs;have Qw:cK Af (rows++[shut q]) ((M.take (i+1)).map (wb cV)):=by
    rw [xb hi,xi];exact hR.snoc hq
   have hlen:=hR.len;rw [yr,yE,xA (by omega)] at hlen
   cases i with
   | zero=>
    have:rows=[]:=yB hlen
    subst this;simp only [go_sem,ya,yb,xt,yD,yk,yf,EP,oV,oH,oC,show ((0:Nat):Int)<M.length by omega,e0,fa.ap,e1,lh.pu,lh.one,lh.cells,ij];refine ⟨_,k-1,rfl,by omega,1,_,by omega,Qw,?_⟩;simp only [go_sem,ya,yb,ax,aD hv.pu,aE _ hv.pu]<;>rfl
   | succ i=>
    simp only [go_sem,ya,yb,yk,yf,EP,oV,oH,oC,show ((i+1:Nat):Int)<M.length by omega,e0,fa.ap,e1,lh.pu,lh.one,lh.cells]
    rw [fS (ex:=false) (pu:=true) (cs:=rows) (by simp only [go_sem,ya]) (by rw [hlen,yf]) (by omega) (by omega) (by decide) (by simp only [go_sem,lh.one])];simp only [go_sem,ya,yb,lh.pu];refine ⟨_,k-1,rfl,by omega,i+1+1,_,by omega,Qw,?_⟩;rw [wrap64 (by omega) (by omega)];simp only [go_sem,ya,yb,ax,aD hv.pu,aE _ hv.pu]<;>rfl
  ·right
   have:i=M.length:=by omega
   subst this;rw [xD] at hR;simp only [go_sem,ya,EP,show ¬(M.length:Int)<M.length by omega];exact ⟨_,_,rfl,by simp,_,_,rows,rfl,rfl,by simp only [go_sem,ya],hR⟩
def alT (h:Fr' P L) (sD:Has P L 240 Dn) {u v vx vy:AV} {a b:List Rat} {x y:Rat} {K:Nat} (hu:et u a) (hv:et v b) (hx:eN vx x) (hy:eN vy y) (hl:a.length=b.length) (hn:a.length<=1000000) (ka:∀z,z∈a->Hq K z) (kb:∀z,z∈b->Hq K z) (kx:Hq K x) (ky:Hq K y) (hK:K<=2000000000):∃r,ak P L 240 [u,v,vx,vy] r/\et (shut r) (cU a b x y):=by
 have lc:=rN (x:=x) (y:=y) hl;obtain ⟨x1,x2,x3,x4,rfl,gx⟩:=hx.gen;obtain ⟨y1,y2,y3,y4,rfl,gy⟩:=hy.gen;have key:=gh (P:=P) (L:=L) (live:=[0,1,6,7,9,12,13]) (a:=ES)
  (I:=fun k st=>∃(i:Nat) (cs:List AV),i+k=a.length/\QL cs ((cU a b x y).take i)/\st=⟨[(0,u),(1,v),(6,.ptr 0 0),(7,.ptr 1 0),(9,oV 2 i),(12,ab a.length),(13,ab i)],oH 2 4 cs [(1,.cells true true true 4 [y1,y2,y3,y4]),(0,.cells true true true 4 [x1,x2,x3,x4])] i,oC 2 i,0⟩)
  (Q:=fun ex st=>∃tm ct cs,st=⟨tm,oH 2 4 cs [(1,.cells true true true 4 [y1,y2,y3,y4]),(0,.cells true true true 4 [x1,x2,x3,x4])] a.length,ct,0⟩/\ex= .exit 0/\ai tm 9=oV 2 a.length/\QL cs (cU a b x y)) ?_
 ·unfold ak;rw [aH sD];simp only [go_sem,ya,yb,Dn,hu.len,gx.bx,gy.bx];generalize hq:D P L (.loop [0,1,6,7,9,12,13] ES) _=q;obtain ⟨ex,st,rfl,tm,ct,cs,rfl,rfl,t9,hQ⟩:=bJ hq (key a.length) ⟨0,[],by omega,trivial,by simp only [go_sem,ya,yb,ax,aD hu.pu,aE _ hu.pu,aD hv.pu,aE _ hv.pu]<;>rfl⟩
  have hlen:=hQ.len;rw [lc] at hlen
  cases hn:a.length with
  | zero=>
   rw [hn] at t9;refine ⟨.aa,by simp only [go_sem,ax,t9,oV,oH],?_⟩;rw [yB (lc.trans hn)];exact ara
  | succ n=>
   rw [hn] at t9 hlen;refine ⟨.bn false 4 (n+1) cs,?_,?_⟩
   ·simp only [go_sem,yb,ax,t9,oV,oH];exact Cw (fR _ _ _) hlen (by decide)
   ·have:=MH false hQ
    rwa [lc,hn] at this
 ·rintro k st ⟨i,cs,hk,hQ,rfl⟩;by_cases hi:i<a.length
  ·left
   obtain ⟨p1,p2,p3,p4,pr,e1,hp⟩:=hu.aY hi;obtain ⟨q1,q2,q3,q4,qr,e2,hq⟩:=hv.aY (i:=i) (by omega);have kp:=ka _ (yS hi);have kq:=kb _ (yS (show i<b.length by omega));obtain ⟨s,e3,hs⟩:=m49 h hp hx kp kx (by omega);obtain ⟨t,e4,ht⟩:=m49 h hq hy kq ky (by omega);obtain ⟨z,e5,hz⟩:=m74 h hs ht ((kp.mul kx).mono (show K+K<=2*K by omega)) ((kq.mul ky).mono (show K+K<=2*K by omega)) (by omega);have gC:=hz;obtain ⟨s1,s2,s3,s4,rfl,gs⟩:=hs.gen;obtain ⟨t1,t2,t3,t4,rfl,gt⟩:=ht.gen;obtain ⟨z1,z2,z3,z4,rfl,gz⟩:=hz.gen;have gp:=hp.f4;have gq:=hq.f4;have bz:∀q,pD q [AV.int .i64 0,.aa,.int .i64 0,.aa] 0 4 [z1,z2,z3,z4] []=fill q [z1,z2,z3,z4] []:=fun q=>Th gz.o1 gz.o2 gz.o3 gz.o4
   obtain ⟨py1,py2,py3,py4⟩:=gz.Lv;have pY:aG [z1,z2,z3,z4]=true:=by simp only [aG,py1,py2,py3,py4,wm]
   unfold ak at e3 e4 e5;have Cm:QL (cs++[z1,z2,z3,z4]) ((cU a b x y).take (i+1)):=by
    rw [xb (by omega),ED hi (by omega)];exact hQ.snoc gC
   have hlen:=hQ.len;rw [yE,lc,xA (by omega)] at hlen
   cases i with
   | zero=>
    have:cs=[]:=yB (by omega)
    subst this;simp only [go_sem,ya,yb,xt,yD,yk,ES,oV,oH,oC,show ((0:Nat):Int)<a.length by omega,e1,e2,pQ,rY,gx.ap,gy.ap,gp.ap,gq.ap,e3,e4,cd,gs.ap,gt.ap,e5,bz,py1,py2,py3,py4,wm,Ff,ij];refine ⟨_,k-1,rfl,by omega,1,_,by omega,Cm,?_⟩;rw [wrap64 (by omega) (by omega)];simp only [go_sem,ya,yb,ax,aD hu.pu,aE _ hu.pu,aD hv.pu,aE _ hv.pu]<;>rfl
   | succ i=>
    simp only [go_sem,ya,yb,xt,ES,oV,oH,oC,show ((i+1:Nat):Int)<a.length by omega,e1,e2,pQ,rY,gx.ap,gy.ap,gp.ap,gq.ap,e3,e4,cd,gs.ap,gt.ap,e5,bz,py1,py2,py3,py4,wm,Ff]
    rw [fS (ex:=false) (pu:=true) (cs:=cs) (by simp only [go_sem,ya]) hlen (by omega) (by omega) (by decide) (by simp only [go_sem,gz.o1,gz.o2,gz.o3,gz.o4])];simp only [go_sem,ya,yb,pY];refine ⟨_,k-1,rfl,by omega,i+1+1,_,by omega,Cm,?_⟩;rw [wrap64 (by omega) (by omega)];simp only [go_sem,ya,yb,ax,aD hu.pu,aE _ hu.pu,aD hv.pu,aE _ hv.pu]<;>rfl
  ·right
   have:i=a.length:=by omega
   subst this;rw [yN (by omega)] at hQ;simp only [go_sem,ya,ES,show ¬(a.length:Int)<a.length by omega];exact ⟨_,_,rfl,by simp,_,_,cs,rfl,rfl,by simp only [go_sem,ya],hQ⟩
end
end
section
open Go (IntKind)
def alU (a:Rat):decide (cT a.num=0)=decide (a=0):=by
 have:cT a.num=0↔a=0:=by
  rw [<-yba];unfold cT
  grind
 grind
def Bm {rows:List AV} {p:Nat} (h:p<rows.length):vD p rows=rows[p]::vD (p+1) rows:=by simp_all
def Df {hp:Hp} {ct id at_:Nat} {ex:Bool} {r:AV} {rows:List AV} (h:at_<rows.length) (h1:dt r=true) (h2:bg r=true):iR hp ct id at_ 1 [r] (some (.cells true true ex 1 rows))=some (.ae [],a7 hp id (.cells true true ex 1 (rows.set at_ r)),ct):=by
 rw [zJ (by rfl) (by omega) (by simp [cp,h1])]
 have:over at_ [r] rows=rows.set at_ r:=by
  simp only [over,yz,yK,ye];rw [vR,yM h]
  simp
 rw [this];simp [aG,h2]
def ac2 {hp:Hp} {id n h:Nat} {rw' pu ex:Bool} {cs:List AV} {tm:Env} {y:X} (hg:au hp id=some (.cells rw' pu ex 1 cs)) (hy:dE (aA tm y)=some h) (h2:h<=n):
  ff hp (.sl 1) (.ao id 0 n) tm none (some y)=some (.ao id 0 h):=by
 have e1:dc tm 0 none=some 0:=rfl;have e2:dc tm n (some y)=some h:=hy;have e3:(yv 0 h&& !true)=false:=by simp_all
 simp only [ff,hg,e1,e2,ym (uf h),ym h2,wW,wm,yA,e3,yT,tS,yY,Nat.sub_zero]
def PD (hp:Hp) (ct sz:Nat) (q:Option (Nat×List AV)) (d:AV):fY:=
 match q,d with
 | some (m,new),.ao id o n=>
  match au hp id with
  | some (.cells true pu ex z cs)=>
   bif yv z sz&&(yF (o+n*sz) cs.length&&cp new) then
    some (.int .i64 (min m n:Nat),a7 hp id (.cells true (pu&&aG new) ex z (over o (new.take (min m n*sz)) cs)),ct)
   else none
  | _=>none
 | _,_=>none
def azo {P:aK} {L:Lib} {f:cA} {tm:Env} {hp:Hp} {ct:Nat} (sz:Nat) (d s:X):bf P L f tm hp ct (.mD sz d s)=PD hp ct sz (iE hp sz (aA tm s)) (aA tm d):=by
 show cI tm hp ct (.mD sz d s)=_
 simp only [cI,PD]
 cases iE hp sz (aA tm s) with
 | none=>rfl
 | some q=>obtain ⟨m,new⟩:=q;cases aA tm d<;>rfl
def avy {hp:Hp} {ct id n:Nat} {ex:Bool} {cs new:List AV} (hg:au hp id=some (.cells true true ex 1 cs)) (hl:cs.length=n) (hn:new.length=n) (ho:cp new=true) (aj:aG new=true):PD hp ct 1 (some (n,new)) (.ao id 0 n)=some (.int .i64 n,a7 hp id (.cells true true ex 1 new),ct):=by
 have e:over 0 (new.take (min n n*1)) cs=new:=by
  simp only [over,yah,xB,ye]
  grind
 simp only [PD,hg,wW,ye,yf,hl,ym (yu n),ho,wm,yA,aj,Nat.min_self]
 grind
def arc {rows:List AV} {m:Mx} (h:cK et rows m):cp rows=true/\aG rows=true:=by
 induction rows generalizing m with
 | nil=>exact ⟨rfl,rfl⟩
 | cons a r ih=>
  cases m with
  | nil=>exact h.elim
  | cons b s=>
   obtain ⟨h1,h2⟩:=ih h.2;exact ⟨by simp [cp,h1,h.1.one],by simp [aG,h2,h.1.pu]⟩
def apz {rows pvs:List AV} {n k:Nat} (hl:rows.length=n) (hk:k<=n) (hp:pvs.length=k):result [(1,.cells true true false 1 pvs),(0,.cells true true true 1 rows)] (.ae [.ao 0 0 k,.ao 1 0 k])=some (.ae [.bn (yv k n) 1 k (rows.take k),.bn false 1 k pvs]):=by
 have h1:zt [.ao 0 0 k,.ao 1 0 k]=some [0,1]:=rfl;have e2:yQ 0 1=true:=rfl;have g0:au [(1,Obj.cells true true false 1 pvs),(0,.cells true true true 1 rows)] 0=some (.cells true true true 1 rows):=rfl;have g1:au (dJ [(1,Obj.cells true true false 1 pvs),(0,.cells true true true 1 rows)] 0) 1=some (.cells true true false 1 pvs):=rfl;simp only [result,h1,oZ,j0,g0,g1,ye,yf,hl,hp,ym hk,ym (yu k),yA,e2,vt,wA,xN,slice,yL]
 grind
def aoH {rows:List AV} {n:Nat} (hl:rows.length=n) (hn:0<n):result [(0,.cells true true true 1 rows)] (.ae [.ao 0 0 0,.aa])=some (.ae [.bn false 1 0 [],.aa]):=by
 have h1:zt [.ao 0 0 0,.aa]=some [0]:=rfl;have e2:yQ 0 1=true:=rfl;have g0:au [(0,Obj.cells true true true 1 rows)] 0=some (.cells true true true 1 rows):=rfl;have e3:yv 0 n=false:=gF (by omega);have e4:∀aj,j0 deep aj AV.aa=some (.aa,aj):=fun _=>rfl
 simp only [result,h1,oZ,e4];simp only [j0,g0,ye,yf,hl,ym (uf n),yA,e2,vt,wA,slice,yL,e3,yah]
def b3 (rows o z:List AV):Hp:=[(2,.cells true true true 4 z),(1,.cells true true true 4 o),(0,.cells true true true 1 rows)]
section
variable {P:aK} {L:Lib}
def azp (h:Fr' P L) {rows o z pv:List AV} {m:Mx} (hR:cK et rows m) {w:Nat} (hw:wid w m) {c:Nat} (hc:c<w) {n:Nat} (hn:m.length=n) (eV:n<=1000) {k a W F:Nat}:
  ∀(d:Nat) (st:St),(∃p:Nat,aI [4,5,6,7,8,9,10,11,24,25] st=⟨[(4,.ao 0 0 n),(5,.fn (.f 240) [] []),(6,.ptr 1 0),(7,.ptr 2 0),(8,oV 3 k),(9,ab c),(10,ab a),(11,ab p),(24,ab W),(25,ab c)],oH 3 1 pv (b3 rows o z) k,oC 3 k,0⟩/\p+d=n/\iD m c d p=F)->
   ∃ex s',D P L (.loop [4,5,6,7,8,9,10,11,24,25] CQ) st=some (ex,s')/\∃tm ct,s'=⟨tm,oH 3 1 pv (b3 rows o z) k,ct,0⟩/\ex= .exit 2/\ai tm 4= .ao 0 0 n/\ai tm 5= .fn (.f 240) [] []/\ai tm 6= .ptr 1 0/\ai tm 7= .ptr 2 0/\ai tm 8=oV 3 k/\ai tm 9=ab c/\ai tm 10=ab a/\ai tm 11=ab F/\ai tm 24=ab W/\ai tm 25=ab c:=by
 intro dq sq;generalize bk:aI [4,5,6,7,8,9,10,11,24,25] sq=s0;revert bk s0 sq dq;apply du;rintro d st ⟨p,rfl,hpd,hF⟩;have lr:=hR.len;by_cases hp:p<m.length
 ·have eU:p<rows.length:=by omega
  have nI:p<n:=by omega
  have h0:=hR.get eU hp;have wp:=hw p hp;rw [eQ hp] at wp;obtain ⟨a1,a2,a3,a4,r,e1,hx⟩:=h0.aY (i:=c) (by omega);have e2:=alm h hx;have gx:=hx.f4;obtain ⟨d,rfl⟩:∃d',d=d'+1:=⟨d-1,by omega⟩;simp only [iD,eQ hp,jw (show c<m[p].length by omega)] at hF;have e3:=alU (m[p][c]'(by omega));unfold ak at e2;by_cases hz:m[p][c]'(by omega)=0
  ·left
   rw [yM hz] at hF;rw [xn hz] at e3;cases k
   all_goals
    simp only [oV,oH,oC,b3];simp only [go_sem,ya,yb,yf,CQ,show (p:Int)<n by omega,yq,bN 0 0 nI,ye,Bm eU,Dd,e1,pQ,rY,gx.ap,e2,e3];refine ⟨_,d,rfl,by omega,p+1,?_,by omega,hF⟩;rw [wrap64 (by omega) (by omega)];simp only [go_sem,ya,yb,ax]<;>rfl
  ·right
   rw [yx hz] at hF;subst hF;rw [y8 hz] at e3;cases k
   all_goals
    simp only [oV,oH,oC,b3];simp only [go_sem,ya,yb,yf,CQ,show (p:Int)<n by omega,yq,bN 0 0 nI,ye,Bm eU,Dd,e1,pQ,rY,gx.ap,e2,e3];exact ⟨_,_,rfl,by simp,_,_,rfl,rfl,by simp only [go_sem,ya],by simp only [go_sem,ya],by simp only [go_sem,ya],by simp only [go_sem,ya],by simp only [go_sem,ya],by simp only [go_sem,ya],by simp only [go_sem,ya],by simp only [go_sem,ya],by simp only [go_sem,ya],by simp only [go_sem,ya]⟩
 ·right
  have:d=0:=by omega
  subst this;simp only [iD] at hF;subst hF;cases k
  all_goals
   simp only [oV,oH,oC,b3];simp only [go_sem,ya,yb,CQ,show ¬(p:Int)<n by omega,yt];exact ⟨_,_,rfl,by simp,_,_,rfl,rfl,by simp only [go_sem,ya],by simp only [go_sem,ya],by simp only [go_sem,ya],by simp only [go_sem,ya],by simp only [go_sem,ya],by simp only [go_sem,ya],by simp only [go_sem,ya],by simp only [go_sem,ya],by simp only [go_sem,ya],by simp only [go_sem,ya]⟩
def azq (h:Fr' P L) (sD:Has P L 240 Dn) {o1 o2 o3 o4:AV} {z pv:List AV} {m:Mx} {w:Nat} (hw:wid w m) {c:Nat} (hc:c<w) (kZ:w<=1000) {n:Nat} (hn:m.length=n) (eV:n<=1000) {a:Nat} (ha:a<m.length) {K:Nat} (hk:∀i,i<=m.length->eJ K (bT m a c i)) (hK2:2<=K) (hK:K<=2000000000) (ho:eN (.agg [o1,o2,o3,o4]) 1) {k W:Nat}:
  ∀(d:Nat) (st:St),(∃(i:Nat) (rows:List AV),aI [4,5,6,7,8,9,10,24,25,89,90] st=⟨[(4,.ao 0 0 n),(5,.fn (.f 240) [] []),(6,.ptr 1 0),(7,.ptr 2 0),(8,oV 3 k),(9,ab c),(10,ab a),(24,ab W),(25,ab c),(89,ab n),(90,ab i)],oH 3 1 pv (b3 rows [o1,o2,o3,o4] z) k,oC 3 k,0⟩/\i+d=n/\cK et rows (bT m a c i))->
   ∃ex s',D P L (.loop [4,5,6,7,8,9,10,24,25,89,90] CR) st=some (ex,s')/\∃tm ct rows,s'=⟨tm,oH 3 1 pv (b3 rows [o1,o2,o3,o4] z) k,ct,0⟩/\ex= .exit 4/\ai tm 4= .ao 0 0 n/\ai tm 5= .fn (.f 240) [] []/\ai tm 6= .ptr 1 0/\ai tm 7= .ptr 2 0/\ai tm 8=oV 3 k/\ai tm 9=ab c/\ai tm 24=ab W/\ai tm 25=ab c/\cK et rows (bT m a c n):=by
 intro dq sq;generalize bk:aI [4,5,6,7,8,9,10,24,25,89,90] sq=s0;revert bk s0 sq dq;apply du;rintro d st ⟨i,rows,rfl,hid,hR⟩;have lr:=hR.len;have le:=rO m a c i;have go:=ho.f4;by_cases hi:i<m.length
 ·left
  have Qx:i<rows.length:=by omega
  have eF:i<n:=by omega
  have han:a<n:=by omega
  have za:i<(bT m a c i).length:=by omega
  have har:a<rows.length:=by omega
  have HM:a<(bT m a c i).length:=by omega
  have h0:=hR.get Qx za;have hA:=hR.get har HM;have wi:=hw.bT ha c i (by omega) i za;have wa:=hw.bT ha c i (by omega) a HM;have ki:=hk i (by omega) i za;have kA:=hk i (by omega) a HM;have kJ:bT m a c (i+1)=mL (bT m a c i) a c i:=rfl;unfold mL at kJ;rw [eQ za] at wi ki kJ;rw [eQ HM] at wa kA kJ;obtain ⟨a1,a2,a3,a4,r,e1,hx⟩:=h0.aY (i:=c) (by omega);have e2:=alm h hx;have gx:=hx.f4;have e3:=alU ((bT m a c i)[i][c]'(by omega));rw [jw (show c<(bT m a c i)[i].length by omega)] at kJ;have kx:=ki _ (yS (show c<(bT m a c i)[i].length by omega));have w90:IntKind.wrap .i64 ((i:Int)+1)=((i+1:Nat):Int):=wrap64 (by omega) (by omega);unfold ak at e2;by_cases iS:i=a
  ·subst iS;rw [yx (fun q=>q.1 rfl)] at kJ;rw [<-kJ] at hR;cases k
   all_goals
    simp only [oV,oH,oC,b3];simp only [go_sem,ya,yb,CR,show (i:Int)<n by omega,yq,yR];refine ⟨_,d-1,rfl,by omega,i+1,rows,?_,by omega,hR⟩;rw [w90];simp only [go_sem,ya,yb,ax]<;>rfl
  ·by_cases hz:(bT m a c i)[i][c]'(by omega)=0
   ·rw [yx (fun q=>q.2 hz)] at kJ;rw [<-kJ] at hR;rw [xn hz] at e3;cases k
    all_goals
     simp only [oV,oH,oC,b3];simp only [go_sem,ya,yb,yf,CR,show (i:Int)<n by omega,yq,show ¬(i:Int)=a by omega,yt,yO,bN 0 0 eF,ye,Bm Qx,Dd,e1,pQ,rY,gx.ap,e2,e3,yR];refine ⟨_,d-1,rfl,by omega,i+1,rows,?_,by omega,hR⟩;rw [w90];simp only [go_sem,ya,yb,ax]<;>rfl
   ·rw [yM ⟨iS,hz⟩] at kJ;rw [y8 hz] at e3;obtain ⟨ng,e4,hng⟩:=aCp h hx kx (by omega);obtain ⟨y,e5,hy⟩:=alT h sD h0 hA ho hng (by omega) (by omega) ki kA (aDd.mono (by omega)) kx.neg hK;obtain ⟨n1,n2,n3,n4,rfl,gn⟩:=hng.gen;have Qw:cK et (rows.set i (shut y)) (bT m a c (i+1)):=by rw [kJ];exact hR.set i hy
    unfold ak at e4 e5;cases k
    all_goals
     simp only [oV,oH,oC,b3];simp only [go_sem,ya,yb,yf,CR,show (i:Int)<n by omega,yq,show ¬(i:Int)=a by omega,yt,yO,bN 0 0 eF,bN 0 0 han,ye,Bm Qx,Bm har,Dd,e1,pQ,jx,yL,gx.ap,e2,e3,e4,cd,h0.ap,hA.ap,go.ap,gn.ap,e5,hy.cells,Df Qx hy.one hy.pu];refine ⟨_,d-1,rfl,by omega,i+1,_,?_,by omega,Qw⟩;rw [w90];simp only [go_sem,ya,yb,ax]<;>rfl
 ·right
  have:i=n:=by omega
  subst this;cases k
  all_goals
   simp only [oV,oH,oC,b3];simp only [go_sem,ya,yb,CR,show ¬(i:Int)<i by omega,yt];exact ⟨_,_,rfl,by simp,_,_,rows,rfl,rfl,by simp only [go_sem,ya],by simp only [go_sem,ya],by simp only [go_sem,ya],by simp only [go_sem,ya],by simp only [go_sem,ya],by simp only [go_sem,ya],by simp only [go_sem,ya],by simp only [go_sem,ya],hR⟩
end
end
end VE
