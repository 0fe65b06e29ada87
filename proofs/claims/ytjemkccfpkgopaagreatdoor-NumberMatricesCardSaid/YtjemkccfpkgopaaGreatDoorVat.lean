import Derived.Test.YtjemkccfpkgopaaGreatDoorVas
import Derived.Test.YtjemkccfpkgopaaGreatDoorVaq
import Derived.Test.YtjemkccfpkgopaaGreatDoorVao
import Derived.Test.YtjemkccfpkgopaaGreatDoorVah
import Derived.Test.YtjemkccfpkgopaaGreatDoorVap
set_option linter.all false
set_option maxRecDepth 100000
open Bool renaming and_eq_true→yh,and_self→wT,and_true→vj,false_and→xP,false_eq_true→yL,not_false→yM,not_true→yO,true_and→xY,true_eq_false→yax,true_or→yaJ
open Int renaming gcd→wX,natAbs_ediv_of_dvd→uj,natAbs_natCast→vh,neg_neg→ybz,reduceEq→vP,tdiv_eq_ediv_of_nonneg→wb,toNat_natCast→xU
open List renaming append_nil→wo,cons_append→xk,drop→vT,drop_eq_getElem_cons→yS,drop_eq_nil_of_le→xh,drop_left→uN,drop_zero→yK,eq_nil_of_length_eq_zero→yo,flatten_cons→vm,getD_eq_getElem?_getD→xf,getElem?_eq_getElem→xS,getElem_cons_zero→wI,getElem_mem→yE,length→tD,length_append→yN,length_cons→yI,length_drop→xN,length_map→yj,length_nil→yP,length_pos_iff→th,length_set→ve,length_take→yy,map→xv,map_append→xg,map_cons→xc,map_nil→vv,nil_append→xC,replicate→yk,replicate_succ→wO,set_eq_take_append_cons_drop→vL,take_left→uM,take_length→xB,take_of_length_le→yC,take_succ_eq_append_getElem→yW,take_zero→uK
open Nat renaming add_comm→yaQ,add_zero→y5,beq→yx,beq_refl→wP,ble→yG,ble_eq_true_of_le→yu,blt→yR,div_eq_of_lt→wM,eq_zero_or_pos→xq,gcd→wG,gcd_comm→uX,le_of_ble_eq_true→yz,le_refl→yv,le_trans→xj,lt_of_lt_of_le→yU,min_eq_left→xm,mod_eq_of_lt→yX,mul_add→xG,mul_assoc→xp,mul_comm→xJ,mul_le_mul_left→yZ,mul_lt_mul''→tX,mul_lt_mul_of_pos_right→wz,mul_one→yf,mul_pos→yab,mul_zero→xH,pow_le_pow_left→vW,pow_le_pow_right→yY,pow_lt_pow_iff_right→tU,pow_succ→xd,reduceAdd→yb,reduceEqDiff→ya,reduceLT→yF,reduceLeDiff→yp,reduceMul→xn,sub_self→ybF,zero_add→ye,zero_le→ue,zero_mul→tQ
open Rat renaming divInt→wm,num_eq_zero→yaT
namespace VE
section
open Go (IntKind)
section
variable {P:aM} {L:Lib}
def ay9 (h:Has P L 292 z8) {n:Nat} (hn:n<1000000000):aj P L 292 [ab n,ab 9] (.str (iN 9 n)):=by
 have key:=eP (P:=P) (L:=L) (live:=[0,1,5]) (a:=nQ)
  (I:=fun k st=>∃(m:Nat) (s:List Nat),st=⟨[(0,ab m),(1,ab 9),(5,.str s)],[],0,0⟩/\s.length+k=9/\m<10^k/\iN 9 n=iN k m++s)
  (Q:=fun ex st=>∃tm ct,st=⟨tm,[],ct,0⟩/\ex= .exit 0/\af tm 5= .str (iN 9 n)) ?_
 ·unfold aj;rw [aI h];simp only [go_sem,z8];generalize hq:D P L (.loop [0,1,5] nQ) _=q;obtain ⟨ex,st,rfl,tm,ct,rfl,rfl,h2⟩:=bq hq (key 9) ⟨n,[],by simp only [go_sem,ya,av]<;>rfl,rfl,by omega,by simp⟩
  simp only [go_sem,av,h2]
 ·rintro k st ⟨m,s,rfl,hk,hm,hs⟩
  cases k with
  | zero=>
   right
   have hm0:m=0:=by simpa using hm
   subst hm0;simp only [go_sem,ya,nQ,show ¬(0:Int)<((0:Nat):Int) by omega,show ¬((s.length:Nat):Int)<9 by omega];refine ⟨_,_,rfl,by simp,_,_,rfl,rfl,?_⟩;rw [hs];rfl
  | succ k=>
   left
   have hr:((m:Int)).tmod 10=((m%10:Nat):Int):=by rw [Int.tmod_eq_emod_of_nonneg (by omega)];rfl
   have hq:((m:Int)).tdiv 10=((m/10:Nat):Int):=by rw [wb (by omega)];rfl
   have hd:=ace (r:=m%10) (by omega);have La:m<10000000000:=yU hm (by simpa using yY (show 0<10 by decide) (show k+1<=10 by omega));have fin:∃s',D P L nQ ⟨[(0,ab m),(1,ab 9),(5,.str s)],[],0,0⟩=some (.normal,s')/\aJ [0,1,5] s'=⟨[(0,ab (m/10:Nat)),(1,ab 9),(5,.str ([48+m%10]++s))],[],0,0⟩:=by
    by_cases hc:(0:Int)<m
    ·simp only [go_sem,ya,yb,nQ,hc,iV _ _ _ (show (10:Int)≠0 by decide),gL _ _ _ (show (10:Int)≠0 by decide),hr,hq,wrapN (n:=m%10+1) (by omega),wrap64 (n:=((m/10:Nat):Int)) (by omega) (by omega),eQ,dJ,show ((m%10:Nat):Int)+1=((m%10+1:Nat):Int) from rfl,hd,gM (a:=[48+m%10]) (b:=s) (by simp;omega)];exact ⟨_,rfl,by simp only [go_sem,ya,av]⟩
    ·simp only [go_sem,ya,yb,nQ,hc,show ((s.length:Nat):Int)<9 by omega,iV _ _ _ (show (10:Int)≠0 by decide),gL _ _ _ (show (10:Int)≠0 by decide),hr,hq,wrapN (n:=m%10+1) (by omega),wrap64 (n:=((m/10:Nat):Int)) (by omega) (by omega),eQ,dJ,show ((m%10:Nat):Int)+1=((m%10+1:Nat):Int) from rfl,hd,gM (a:=[48+m%10]) (b:=s) (by simp;omega)];exact ⟨_,rfl,by simp only [go_sem,ya,av]⟩
   obtain ⟨s',f1,f2⟩:=fin;exact ⟨s',k,f1,by omega,m/10,_,f2,by simp;omega,by rw [xd] at hm;omega,by rw [hs];simp [iN]⟩
end
end
section
open Go (IntKind)
def last_pos {l:List Int} (hd:dg l) (hn:nz l) (h:0<l.length):0<l.getD (l.length-1) 0:=by
 rcases snoc l with rfl | ⟨m,a,rfl⟩
 ·grind
 ·have e:(m++[a]).getD ((m++[a]).length-1) 0=a:=by simp_all
  have ha:=lD.1 (iy.1 hd).2;by_cases h0:a=0
  ·subst h0
   have:=MI m
   have e:=congrArg tD hn;rw [Im] at e
   grind
  ·omega
section
variable {P:aM} {L:Lib}
def aza (rh:Has P L 292 z8) {neg:Bool} {w:AV} {l:List Int} (hw:bC w l) (hd:dg l) (hn:nz l) (hl:l.length<=20000000000):
  ∀k s,(∃(j:Nat) (t:List Nat),aJ [1,3,4] s=⟨[(1,.ptr 0 0),(3,.str t),(4,ab ((j:Int)-1))],[(0,.cells true true true 2 [.bool neg,w])],1,0⟩/\j=k/\j<l.length/\0<dv (l.drop j)/\t=aD (dv (l.drop j))/\t.length<=9*(l.length-j))->
   ∃ex s',D P L (.loop [1,3,4] Jg) s=some (ex,s')/\∃tm,s'=⟨tm,[(0,.cells true true true 2 [.bool neg,w])],1,0⟩/\ex= .exit 0/\af tm 1= .ptr 0 0/\af tm 3= .str (aD (dv l))/\(aD (dv l)).length<=180000000000:=by
 intro dq sq;generalize a8:aJ [1,3,4] sq=s0;revert a8 s0 sq dq;apply cY;rintro k s ⟨j,t,rfl,rfl,hj,BX,ht,htl⟩
 cases j with
 | zero=>
  right
  rw [yK] at ht;simp only [go_sem,ya,Jg,show ¬(0:Int)<=((0:Nat):Int)-1 by omega];exact ⟨_,_,rfl,by simp,_,rfl,rfl,by simp only [go_sem,ya],by rw [<-ht];simp only [go_sem,ya],by rw [<-ht];omega⟩
 | succ i=>
  left
  have hi:i<l.length:=by omega
  obtain ⟨x,hx⟩:∃x,x=l.getD i 0:=⟨_,rfl⟩;have e1:=qY hw hi;have gx:=iz hd i;rw [<-hx] at e1 gx;obtain ⟨m,rfl⟩:∃m:Nat,x=m:=⟨x.toNat,by omega⟩;have e2:=ay9 rh (n:=m) (by omega);unfold aj at e2;have hlp:=Sq 9 m;have jj:dv (l.drop i)=dv (l.drop (i+1))*10^9+m:=by
   have:l.drop i=(m:Int)::l.drop (i+1):=by
    rw [yS hi,hx];simp [xf,xS hi]
   rw [this];simp only [dv,xU];omega
  have aCM:aD (dv (l.drop i))=t++iN 9 m:=by
   rw [jj,MZ 9 _ m BX (by omega),ht]
  simp only [go_sem,ya,Jg,show ((i+1:Nat):Int)-1=(i:Int) by omega,show (0:Int)<=(i:Int) by omega,cd,ye,dh,e1,e2,gM (a:=t) (b:=iN 9 m) (by omega)];refine ⟨_,i,rfl,by omega,i,t++iN 9 m,?_,rfl,by omega,by omega,aCM.symm,by simp;omega⟩;rw [wrap64 (by omega) (by omega)];simp only [go_sem,ya,yb,av]<;>rfl
def alH (h:Has P L 282 Kn) (rh:Has P L 292 z8) {v:AV} {n:Int} {K:Nat} (hK:K<=18000000000) (hv:kC v n) (hn:n.natAbs<1000000000^K):aj P L 282 [v] (.str (aX n))/\(aX n).length<=180000000001:=by
 obtain ⟨w,l,rfl,hw,hd,hz,qu⟩:=hv;have hl:=xj (ju hd hz (by rw [qu];exact hn)) hK
 by_cases h0:l=[]
 ·subst h0;have B7:n=0:=by simp [dv] at qu;omega
  subst B7;refine ⟨?_,by decide⟩;unfold aj;rw [aI h];simp only [go_sem,ya,yb,Kn,bj,hw.len,hw.pu,hw.one,cd,ye,dh,yP,show ((0:Nat):Int)=(0:Int) from rfl,yr];rfl
 ·have BX:0<l.length:=th.2 h0;obtain ⟨x,hx⟩:∃x,x=l.getD (l.length-1) 0:=⟨_,rfl⟩;have e1:=qY hw (show l.length-1<l.length by omega);have gx:=iz hd (l.length-1);have gp:=last_pos hd hz BX;rw [<-hx] at e1 gx gp;obtain ⟨m,rfl⟩:∃m:Nat,x=m:=⟨x.toNat,by omega⟩;have e2:=YT rh (n:=m) (by omega);have jj:dv (l.drop (l.length-1))=m:=by
   rw [yS (show l.length-1<l.length by omega),xh (by omega)]
   have:l[l.length-1]=(m:Int):=by rw [hx];simp [xf,xS (show l.length-1<l.length by omega)]
   simp [dv,this]
  have h9:(aD m).length<=9:=rU (k:=8) (by omega);have fin:∀neg:Bool,bP P L (D P L) 282 [.agg [.bool neg,w]]=some (.str ((if neg=true then [45] else [])++aD (dv l)))/\(aD (dv l)).length<=180000000000:=fun neg=>by
   rw [aI h]
   simp only [go_sem,ya,yb,Kn,bj,hw.len,hw.pu,hw.one,cd,ye,dh,show ¬(l.length:Int)=0 by omega,show (l.length:Int)-1=((l.length-1:Nat):Int) by omega,wrapN (n:=l.length-1) (by omega),e1,e2];generalize hq:D P L (.loop [1,3,4] Jg) _=q;obtain ⟨ex,s,rfl,tm,rfl,rfl,t1,t3,hlen⟩:=bq hq (aza (P:=P) (L:=L) rh (neg:=neg) hw hd hz (by omega) (l.length-1)) ⟨l.length-1,aD m,by
    rw [show (l.length:Int)-2=((l.length-1:Nat):Int)-1 by omega,wrap64 (by omega) (by omega)]
    simp only [go_sem,ya,yb,av]<;>rfl,rfl,by omega,by rw [jj];omega,by rw [jj],by omega⟩
   refine ⟨?_,hlen⟩
   cases neg with
   | true=>
    simp only [go_sem,ya,av,t1,t3,cd,ye,gM (a:=[45]) (b:=aD (dv l)) (by simp;omega),xD]
   | false=>
    simp only [go_sem,ya,av,t1,t3,cd,ye];rfl
  obtain ⟨f1,f2⟩:=fin (decide (n<0));rw [qu] at f1 f2;simp only [xW] at f1;rw [nK] at f1;refine ⟨f1,?_⟩;rw [<-nK]
  split<;>simp<;>omega
structure Rb (P:aM) (L:Lib):Prop where
 aCN:Has P L 262 Kh
 BN:Has P L 272 Km
 alI:Has P L 274 OA
 alJ:Has P L 275 OB
 aCO:Has P L 277 DB
 aCP:Has P L 280 nY
 aCQ:Has P L 281 Uz
 alK:Has P L 282 Kn
 alL:Has P L 288 OG
 KX:Has P L 289 sE
 Ag:Has P L 290 FR
 YU:Has P L 291 Kp
 rh:Has P L 292 z8
 kU:Has P L 293 BB
 jy:Has P L 294 BC
 Zn:Has P L 295 Kq
 oh:Has P L 296 sF
 alM:Has P L 298 OH
 pP:Has P L 299 BD
 cZ:Has P L 300 lI
 nm:Has P L 302 sG
structure Ras (P:aM) (L:Lib):Prop extends Rb P L where
 alN:Has P L 264 Ki
 aCR:Has P L 268 Kk
 aCS:Has P L 271 Uy
 aCT:Has P L 276 pJ
 KY:Has P L 278 OC
 aCU:Has P L 279 FQ
 PS:Has P L 297 Kr
structure Ra (P:aM) (L:Lib):Prop extends Ras P L where
 alO:Has P L 267 Kj
end
end
section
open Go (IntKind)
section
variable {P:aM} {L:Lib}
def avw {v w:AV} {a vs:List Int} {f:Int} (hv:bC v a) (hw:bC w vs) {n:Nat} (la:a.length<=9000000000) {A:Nat}:
  ∀k st,(∃us:List Int,aJ [0,8,9,10,11] st=⟨[(0,v),(8,.aw 0 0 1),(9,w),(10,ab n),(11,.aw 1 0 us.length)],[(1,.cells true true false 1 (us.map ab)),(0,.cells false true true 1 [ab f])],2,0⟩/\us.length+k=a.length+1/\dg us/\dv us=A)->
   ∃ex st',D P L (.loop [0,8,9,10,11] Jh) st=some (ex,st')/\∃tm us,st'=⟨tm,[(1,.cells true true false 1 (us.map ab)),(0,.cells false true true 1 [ab f])],2,0⟩/\ex= .exit 0/\af tm 8= .aw 0 0 1/\af tm 9=w/\af tm 10=ab n/\af tm 11= .aw 1 0 (a.length+1)/\us.length=a.length+1/\dg us/\dv us=A:=by
 intro dq sq;generalize a8:aJ [0,8,9,10,11] sq=s0;revert a8 s0 sq dq;apply cY;rintro k st ⟨us,rfl,hk,gu,aT⟩;have ea:((a.length:Nat):Int)+1=((a.length+1:Nat):Int):=rfl;by_cases hi:us.length<a.length+1
 ·left
  simp only [go_sem,ya,yb,yp,yf,Jh,hv.len,ea,wrapN (n:=a.length+1) (by omega),show ((us.length:Nat):Int)<((a.length+1:Nat):Int) by omega]
  rw [fC (ex:=false) (pu:=true) (cs:=us.map ab) (by simp only [go_sem,ya]) (by simp) (by omega) (by omega) (by decide) (by simp only [go_sem])];refine ⟨_,k-1,rfl,by omega,us++[0],?_,by simp;omega,iy.2 ⟨gu,lD.2 (by decide)⟩,by rw [mM];simp [dv,aT]⟩;rw [xg,yN];simp only [go_sem,ya,yb,av,aq hv.pu,au _ hv.pu,aq hw.pu,au _ hw.pu]<;>rfl
 ·right
  have hl:us.length=a.length+1:=by omega
  rw [hl]
  simp only [go_sem,ya,Jh,hv.len,ea,wrapN (n:=a.length+1) (by omega),show ¬((a.length+1:Nat):Int)<((a.length+1:Nat):Int) by omega];exact ⟨_,_,rfl,by simp,_,us,rfl,rfl,by simp only [go_sem,ya],by simp only [go_sem,ya],by simp only [go_sem,ya],by simp only [go_sem,ya],hl,gu,aT⟩
end
def aiT:∀l:List Int,cu (l.map ab)=true
 | []=>rfl
 | a::r=>by rw [xc,ac1,aiT r];rfl
def aiU:∀l:List Int,aK (l.map ab)=true
 | []=>rfl
 | a::r=>by rw [xc,aK,aiU r];rfl
def avx {hp:Hp} {ct:Nat} {e:Bool} {us:List Int} {o:Obj} (h:us.length<=100000000000):
  BM ((1,.cells true true true 1 [])::(0,o)::hp) ct 1 8 (.aw 1 0 0) (kJ ((1,.cells true true true 1 [])::(0,o)::hp) 1 (.aB e us.length (us.map ab)))=some (.aw ct 0 us.length,(ct,.cells true true false 1 (us.map ab))::dK ((1,.cells true true true 1 [])::(0,o)::hp) 1,ct+1):=by
 have h1:kJ ((1,.cells true true true 1 [])::(0,o)::hp) 1 (.aB e us.length (us.map ab))=some (us.length,us.map ab):=by
  simp [kJ]
 rw [h1,fC (cs:=[]) (pu:=true) (ex:=true) rfl (by simp) (by omega) (by omega) (by decide) (aiT us),aiU,ye];rfl
def azb {l:List Int} (hd:dg l) (hn:nz l) (h:0<l.length):1000000000^(l.length-1)<=dv l:=N1 hn hd (fun e=>by subst e;simp at h)
def atl {n top f V:Nat} (hf:f=1000000000/(top+1)) (ht0:0<top) (ht:top<1000000000) (h1:V<1000000000^(n-1)*(top+1)) (hn:0<n):0<f/\f<1000000000/\V*f<1000000000^n:=by
 have h2:f*(top+1)<=1000000000:=by rw [hf];exact Nat.div_mul_le_self _ _
 have h3:0<f:=by rw [hf];exact Nat.div_pos (by omega) (by omega)
 refine ⟨h3,?_,?_⟩
 ·have:=yZ f (show 2<=top+1 by omega)
  omega
 ·have e1:=wz h1 h3;have e2:=yZ (1000000000^(n-1)) h2;rw [<-xd,show (n-1).succ=n by omega] at e2
  grind
section
variable {P:aM} {L:Lib}
def azc (h:Has P L 289 sE) (kU:Has P L 293 BB) (pP:Has P L 299 BD) (cZ:Has P L 300 lI) (ri:Has P L 301 Aa) {v w:AV} {a b:List Int} (hv:bC v a) (hw:bC w b) (ha:dg a) (hb:dg b) (na:nz a) (nb:nz b) (la:a.length<=8000000000) (lb:2<=b.length) (ec:aj P L 296 [v,w] (ab (dV (dv a) (dv b)))) (hc:dv b<=dv a):
  ∃q r lq lr,aj P L 289 [v,w] (.ae [q,r])/\bC q lq/\bC r lr/\dg lq/\nz lq/\dg lr/\nz lr/\dv lq=dv a/dv b/\dv lr=dv a%dv b:=by
 have eC:¬dV (dv a) (dv b)<0:=by unfold dV;rw [yD (by omega)];split<;>decide
 have aAV:=azb hb nb (by omega);have hba:b.length<=a.length:=by
  have:=jK ha
  have h1:1000000000^(b.length-1)<1000000000^a.length:=by omega
  have:=(tU (show 1<1000000000 by decide)).1 h1
  omega
 obtain ⟨n,hn⟩:∃n,n=b.length:=⟨_,rfl⟩;have aCV:=iz hb (n-1);have Bt:=last_pos hb nb (by omega);rw [<-hn] at Bt;obtain ⟨top,oc⟩:∃v:Nat,b.getD (n-1) 0=v:=⟨(b.getD (n-1) 0).toNat,by omega⟩;have alP:=qY hw (i:=n-1) (by omega);rw [oc] at aCV Bt alP;have hbt:=pc (l:=b) (n-1);rw [show n-1+1=n by omega,yC (by omega),oc,xU] at hbt;have aAW:=jK (CP hb (n-1));rw [yy,xm (by omega)] at aAW;obtain ⟨f,hf⟩:∃f,f=1000000000/(top+1):=⟨_,rfl⟩;obtain ⟨Eo,hfB,hfV⟩:=atl (n:=n) (V:=dv b) hf (by omega) (by omega) (by rw [xG,yf];omega) (by omega);have hIf:bC (.aB true 1 [ab f]) [(f:Int)]:=ma true [(f:Int)];have gf:dg [(f:Int)]:=lD.2 (by omega);have vf:dv [(f:Int)]=f:=by simp [dv]
 obtain ⟨v',vs,e1,eI,hsv,Ee,LK,zh⟩:=Zm kU cZ hw hIf hb gf (by omega) (by simp);obtain ⟨u',Cv,e2,iH,D9,GY,nus,LW⟩:=Zm kU cZ hv hIf ha gf (by omega) (by simp);rw [vf] at zh LW;have rF:0<dv b:=by have:=Nat.pow_pos (n:=b.length-1) (show 0<1000000000 by decide);omega
 have AJ:vs.length=n:=by
  have h1:vs.length<=n:=ju Ee LK (by rw [zh];exact hfV)
  have h2:dv b<=dv vs:=by rw [zh];exact Nat.le_mul_of_pos_right _ Eo
  have h3:=jK Ee;have h4:1000000000^(n-1)<1000000000^vs.length:=by rw [hn];omega
  have:=(tU (show 1<1000000000 by decide)).1 h4
  omega
 have QG:Cv.length<=a.length+1:=by
  refine ju GY nus ?_;rw [LW,xd];exact tX (jK ha) hfB
 have alQ:0<Cv.length:=by
  rcases xq Cv.length with e | e
  ·have h1:0<dv a*f:=yab (by omega) Eo;rw [yo e] at LW;simp only [dv] at LW;omega
  ·exact e
 have fb:0<vs.getD (n-1) 0:=by
  have:=last_pos Ee LK (by omega)
  rwa [AJ] at this
 obtain ⟨m,hm⟩:∃m,m=a.length+1-n:=⟨_,rfl⟩;have cS:∀ct:Nat,pL ct 1 8 [.int .i64 0] (some m) (some m)=some (.aw ct 0 m,.cells true true true 1 ((yk m (0:Int)).map ab)):=fun ct=>by
  rw [Bh (sz:=1) (by omega) (by omega) (by rfl) (by rfl),RI];rfl
 obtain ⟨e,rfl⟩:∃e,u'= .aB e Cv.length (Cv.map ab):=by
  rcases iH with ⟨rfl,h0⟩ | ⟨e,rfl⟩
  ·rw [List.map_eq_nil_iff] at h0;rw [h0] at alQ;simp at alQ
  ·exact ⟨e,by rw [yj]⟩
 have TX:∀us:List Int,us.length=a.length+1->dv us=dv a*f->dv (us.drop m)<dv vs:=fun us hl hd=>by
  have e1:=Sv us m (by omega);have e2:=jK ha;have e3:=wz e2 Eo;have e4:1000000000^a.length=1000000000^m*1000000000^(n-1):=by rw [<-Nat.pow_add];congr 1;omega
  rw [<-hd,e4,xp] at e3;have e5:1000000000^m*dv (us.drop m)<1000000000^m*(1000000000^(n-1)*f):=by omega
  refine yU (Nat.lt_of_mul_lt_mul_left e5) ?_;rw [zh,hn];exact Nat.mul_le_mul_right _ aAV
 have jc:∃us qs,(us.length=a.length+1/\qs.length=m/\dg us/\dg qs/\dv us+dv qs*dv vs=dv a*f/\dv us<dv vs)/\
   ∃q1 r1 lr,bC q1 (eb qs)/\bC r1 lr/\dg lr/\nz lr/\dv lr=dv (us.take n)/f/\aj P L 289 [v,w] (.ae [q1,r1]):=by
  unfold aj at ec e1 e2;unfold aj;rw [aI h];have KQ:IntKind.wrap .i64 ((1000000000:Int).tdiv ((top+1:Nat):Int))=(f:Int):=by
   rw [wb (by decide),show (1000000000:Int)/((top+1:Nat):Int)=((1000000000/(top+1):Nat):Int) from rfl,<-hf,wrap64 (by omega) (by omega)]
  simp only [go_sem,ya,yb,yF,yp,yf,sE,hv.an,hw.len,hw.an,ec,eC,show ¬(n:Int)=1 by omega,<-hn,show (n:Int)-1=((n-1:Nat):Int) by omega,wrapN (n:=n-1) (by omega),alP,show ((top:Nat):Int)+1=((top+1:Nat):Int) from rfl,wrapN (n:=top+1) (by omega),gL _ _ _ (show ((top+1:Nat):Int)≠0 by omega),KQ,e1,hsv,eI.len,AJ,e2,D9,avx (us:=Cv) (e:=e) (by omega)];generalize a8:D P L (.loop [0,8,9,10,11] Jh) _=q0;obtain ⟨ex,st,rfl,tm,us,rfl,rfl,t8,t9,t10,t11,lu,gu,vu⟩:=bq a8 (avw (P:=P) (L:=L) (f:=(f:Int)) (n:=n) (A:=dv a*f) hv eI (by omega) (a.length+1-Cv.length)) ⟨Cv,by
   simp only [go_sem,ya,yb,av,aq hv.pu,au _ hv.pu,aq eI.pu,au _ eI.pu]<;>rfl,by omega,GY,LW⟩
  have em:((a.length+1:Nat):Int)-(n:Int)=(m:Int):=by omega
  have em1:(m:Int)-1=((m-1:Nat):Int):=by omega
  simp only [go_sem,ya,yb,av,aq eI.pu,au _ eI.pu,t8,t9,t10,t11,em,wrapN (n:=m) (by omega),cS,em1,wrapN (n:=m-1) (by omega)];generalize fy:D P L (.loop [8,9,10,11,12,13] Jj) _=q1;obtain ⟨ex,st,rfl,sR,Cw,qs,rfl,rfl,t8,t10,t11,t12,lu1,LO,gu1,gq1,aT,aZ⟩:=bq fy (avv (P:=P) (L:=L) ri (f:=(f:Int)) eI Ee AJ (by omega) (show n<a.length+1 by omega) (by omega) (by omega) fb (U0:=dv a*f) m) ⟨m,us,yk m 0,by
   rw [show ((m-1:Nat):Int)=(m:Int)-1 by omega]
   simp only [go_sem,ya,yb,av,aq eI.pu,au _ eI.pu]<;>rfl,rfl,yv _,lu,by simp,gu,adT m,fun i _=>acp m i,by rw [adS,tQ,y5,vu],TX us lu vu⟩
  have kj:∀(hp:Hp) tm (y:X),ay hp 1=some (.cells true true false 1 (Cw.map ab))->df tm (a.length+1) (some y)=some n->fg hp (.sl 1) (.aw 1 0 (a.length+1)) tm none (some y)=some (.aw 1 0 n):=fun hp tm y h1 h2=>ad9 h1 h2 (by omega) (by omega)
  obtain ⟨e',LM⟩:∃e',∀hp:Hp,jO 0 n (some (false,1,Cw.map ab,hp))=some (.aB e' n ((Cw.take n).map ab),hp):=by
   refine ⟨false&&yR 0 1&&yx n (Cw.map ab).length,fun hp=>?_⟩;simp only [jO,ye,yf,slice,yK,<-List.map_take];rw [yu (by simp;omega)];rfl
  have ltk:(Cw.take n).length=n:=by rw [yy];omega
  have jl:=ma e' (Cw.take n);rw [ltk] at jl;obtain ⟨r0,f1,eN,aCW⟩:=BO cZ jl (by omega);obtain ⟨r1,lr,f2,cM,aI5,aAX,dr,nr,vr⟩:=alD pP cZ eN (AZ (CP gu1 n)) (by have:=MI (Cw.take n);omega) Eo hfB;have LL:=ma true qs;rw [LO] at LL;obtain ⟨q1,f3,fy,aCX⟩:=BO cZ LL (by omega);rw [zu] at vr;unfold aj at f1 f2 f3;refine ⟨Cw,qs,⟨lu1,LO,gu1,gq1,aT,aZ⟩,q1,r1,lr,fy,cM,dr,nr,vr,?_⟩;have oG:j0 1 0 (AV.aw 0 0 1)=some (.ptr 0 0):=bN 0 0 (show 0<1 by omega)
  simp only [go_sem,ya,yb,av,t8,t10,t11,t12,kj,dJ,LM,f1,aCW,eN.an,oG,f2,aAX,fun hp=>kI (hp:=hp) (k:=m) (sz:=1) (cs:=qs.map ab) true (by simp [LO]) (by decide),f3,aCX];rcases fy with ⟨rfl,_⟩ | ⟨_,rfl⟩<;>rcases cM with ⟨rfl,_⟩ | ⟨_,rfl⟩<;>rfl
 obtain ⟨us,qs,⟨lu,lq,gu,gq,aT,aZ⟩,q1,r1,lr,fy,cM,dr,nr,vr,e⟩:=jc;rw [zh] at aT aZ;have KQ:dv qs=dv a/dv b:=by
  rw [<-Nat.mul_div_mul_right _ _ Eo,<-aT,yaQ,xJ,Nat.mul_add_div (yab rF Eo),wM aZ,y5]
 have QI:dv us=(dv a%dv b)*f:=by
  rw [<-Nat.mul_mod_mul_right,<-aT,yaQ,xJ (dv qs),Nat.mul_add_mod,yX aZ]
 have jZ:=Sv us n (by omega);have iG:dv (us.drop n)=0:=by
  rcases xq (dv (us.drop n)) with h0 | h0
  ·exact h0
  ·have:=yZ (1000000000^n) h0
   omega
 rw [iG,xH,y5] at jZ;rw [<-jZ,QI,Nat.mul_div_cancel _ Eo] at vr;exact ⟨q1,r1,_,lr,e,fy,cM,AZ gq,ES _,dr,nr,by rw [zu,KQ],vr⟩
def ajB (h:Has P L 289 sE) (kU:Has P L 293 BB) (oh:Has P L 296 sF) (pP:Has P L 299 BD) (cZ:Has P L 300 lI) (ri:Has P L 301 Aa) {v w:AV} {a b:List Int} (hv:bC v a) (hw:bC w b) (ha:dg a) (hb:dg b) (na:nz a) (nb:nz b) (la:a.length<=8000000000) (lb:b.length<=8000000000) (h0:0<dv b):
  ∃q r lq lr,aj P L 289 [v,w] (.ae [q,r])/\bC q lq/\bC r lr/\dg lq/\nz lq/\dg lr/\nz lr/\dv lq=dv a/dv b/\dv lr=dv a%dv b:=by
 by_cases hl:b.length<=1
 ·exact aCG h oh pP cZ hv hw ha hb na nb (by omega) hl h0
 have ec:=Zl oh hv hw ha hb na nb (by omega) (by omega);by_cases hc:dv a<dv b
 ·unfold aj at ec;have eC:dV (dv a) (dv b)= -1:=by unfold dV;rw [yT hc]
  rw [eC] at ec;refine ⟨.aa,v,[],a,?_,oW,hv,rfl,rfl,ha,na,?_,?_⟩
  ·unfold aj;rw [aI h];simp only [go_sem,ya,sE,hv.an,hw.an,ec,show (-1:Int)<0 by decide];rcases hv with ⟨rfl,_⟩ | ⟨e,rfl⟩<;>rfl
  ·rw [wM hc];rfl
  ·rw [yX hc]
 ·exact azc h kU pP cZ ri hv hw ha hb na nb la (by omega) ec (by omega)
def ajC (h:Has P L 275 OB) (KX:Has P L 289 sE) (kU:Has P L 293 BB) (oh:Has P L 296 sF) (pP:Has P L 299 BD) (cZ:Has P L 300 lI) (ri:Has P L 301 Aa) {v w:AV} {a b:List Int} (hv:bC v a) (hw:bC w b) (ha:dg a) (hb:dg b) (na:nz a) (nb:nz b) (la:a.length<=8000000000) (lb:b.length<=8000000000):
  ∃r l,aj P L 275 [v,w] r/\bC r l/\dg l/\nz l/\dv l=wG (dv a) (dv b):=by
 have key:=eP (P:=P) (L:=L) (live:=[0,1]) (a:=Jf)
  (I:=fun k st=>∃x y lx ly,st=⟨[(0,x),(1,y)],[],0,0⟩/\bC x lx/\bC y ly/\dg lx/\nz lx/\dg ly/\nz ly/\lx.length<=8000000000/\ly.length<=8000000000/\dv ly=k/\wG (dv lx) (dv ly)=wG (dv a) (dv b))
  (Q:=fun ex st=>∃tm ct,st=⟨tm,[],ct,0⟩/\ex= .exit 0/\∃x lx,af tm 0=x/\bC x lx/\dg lx/\nz lx/\dv lx=wG (dv a) (dv b)) ?_
 ·unfold aj;rw [aI h];simp only [go_sem,OB];generalize hq:D P L (.loop [0,1] Jf) _=q;obtain ⟨ex,st,rfl,tm,ct,rfl,rfl,x,lx,h2,hx,dx,nx,vx⟩:=bq hq (key (dv b)) ⟨v,w,a,b,by simp only [go_sem,ya,av,aq hv.pu,au _ hv.pu,aq hw.pu,au _ hw.pu]<;>rfl,hv,hw,ha,na,hb,nb,la,lb,rfl,rfl⟩
  refine ⟨x,lx,?_,hx,dx,nx,vx⟩;simp only [go_sem,av,h2,hx.fO,aq hx.pu,au _ hx.pu]
 ·rintro k st ⟨x,y,lx,ly,rfl,hx,hy,dx,nx,dy,ny,llx,lly,rfl,hg⟩;by_cases h0:ly=[]
  ·right
   subst h0;simp only [go_sem,ya,Jf,hy.len,yP,show ¬(0:Int)<((0:Nat):Int) by omega];refine ⟨_,_,rfl,by simp,_,_,rfl,rfl,x,lx,by simp only [go_sem,ya],hx,dx,nx,?_⟩;rw [<-hg];simp [dv]
  ·left
   have hp:0<dv ly:=by
    rcases xq (dv ly) with e | e
    ·exact absurd (ahl ny dy e) h0
    ·exact e
   have hl:0<ly.length:=th.2 h0;obtain ⟨q,r,lq,lr,e1,hq,hr,dq,nq,dr,nr,vq,vr⟩:=ajB KX kU oh pP cZ ri hx hy dx dy nx ny llx lly hp;have aZ:dv lr<dv ly:=by rw [vr];exact Nat.mod_lt _ hp
   have hB:=jK dy;simp only [go_sem,ya,Jf,hx.an,hy.len,hy.an,show (0:Int)<ly.length by omega,e1,hq.bQ,hr.bQ];refine ⟨_,dv lr,rfl,aZ,y,r,ly,lr,?_,hy,hr,dy,ny,dr,nr,by omega,xj (ju dr nr (Nat.lt_trans aZ hB)) lly,rfl,?_⟩
   ·simp only [go_sem,ya,av,aq hy.pu,au _ hy.pu,aq hr.pu,au _ hr.pu]<;>rfl
   ·rw [<-hg,vr,uX (dv ly),<-Nat.gcd_rec,uX]
end
end
section
open Go (IntKind)
section
variable {P:aM} {L:Lib}
def azd (Ag:Has P L 290 FR) {neg:Bool} {N:Nat} (hN:(aD N).length<=180000000000):
  ∀k s,(∃(i m:Nat) (out:List Int),m=k/\out.length=i/\dg out/\dv out+1000000000^i*m=N/\(aD m).length+9*i<=180000000000/\
    ((i=0/\aJ [0,2,3,4] s=⟨[(0,.str (aD m)),(2,.ptr 0 0),(3,.bool neg),(4,.aa)],[(0,.cells true true true 2 [.bool false,.aa])],1,0⟩)\/
    (0<i/\aJ [0,2,3,4] s=⟨[(0,.str (aD m)),(2,.ptr 0 0),(3,.bool neg),(4,.aw 1 0 i)],[(1,.cells true true false 1 (out.map ab)),(0,.cells true true true 2 [.bool false,.aa])],2,0⟩)))->
   ∃ex s',D P L (.loop [0,2,3,4] zL) s=some (ex,s')/\∃tm i m out,ex= .exit 0/\m<1000000000/\out.length=i/\dg out/\dv out+1000000000^i*m=N/\i<20000000000/\af tm 0= .str (aD m)/\af tm 2= .ptr 0 0/\af tm 3= .bool neg/\
    ((i=0/\af tm 4= .aa/\s'=⟨tm,[(0,.cells true true true 2 [.bool false,.aa])],1,0⟩)\/(0<i/\af tm 4= .aw 1 0 i/\s'=⟨tm,[(1,.cells true true false 1 (out.map ab)),(0,.cells true true true 2 [.bool false,.aa])],2,0⟩)):=by
 intro dq sq;generalize a8:aJ [0,2,3,4] sq=s0;revert a8 s0 sq dq;apply cY;rintro k s ⟨i,m,out,rfl,hlen,hd,aT,hl,hs⟩;by_cases hm:1000000000<=m
 ·left
  obtain ⟨q,hq⟩:∃q,q=m/1000000000:=⟨_,rfl⟩;obtain ⟨r,hr⟩:∃r,r=m%1000000000:=⟨_,rfl⟩;have kj:=asX hm;rw [<-hq,<-hr] at kj;have ep:=Sq 9 r;have hqp:=zx q;have hlm:(aD m).length=(aD q).length+9:=by rw [kj,yN,ep]
  have c1:iB (aD m) (some (aD q).length) (some (aD m).length)=some (.str (iN 9 r)):=by
   rw [lz (by omega) (yv _),xB,kj,uN]
  have c2:iB (aD m) (some 0) (some (aD q).length)=some (.str (aD q)):=by
   rw [lz (by omega) (by omega),yK,kj,uM]
  have e1:=KL Ag (s:=iN 9 r) (v:=r) (by omega) (by rw [ad5 9 r 0 (by omega)];simp)
  unfold aj at e1;have Gq:dg (out++[(r:Int)]):=iy.2 ⟨hd,lD.2 (by omega)⟩;have ajD:dv (out++[(r:Int)])+1000000000^(i+1)*q=N:=by
   rw [mM,hlen,<-aT,xd];have e:=Nat.mod_add_div m 1000000000;rw [<-hr,<-hq] at e;rw [<-e];simp only [dv,xU,xH,y5,xG,xp];omega
  have Of:((aD m).length:Int)-9=((aD q).length:Int):=by omega
  rcases hs with ⟨h0,rfl⟩ | ⟨h0,rfl⟩
  ·subst h0;have my:out=[]:=yo hlen;subst my
   simp only [go_sem,ya,yb,xn,yF,yp,yf,zL,show (9:Int)<((aD m).length:Int) by omega,Of,wrapN (n:=(aD q).length) (by omega),eQ,ff,dJ,c1,c2,e1,fQ];refine ⟨_,q,rfl,by omega,1,q,[]++[(r:Int)],rfl,rfl,Gq,ajD,by omega,.inr ⟨by omega,?_⟩⟩;rfl
  ·simp only [go_sem,ya,yb,yp,yf,zL,show (9:Int)<((aD m).length:Int) by omega,Of,wrapN (n:=(aD q).length) (by omega),eQ,ff,dJ,c1,e1]
   rw [fC (ex:=false) (pu:=true) (cs:=out.map ab) (by simp only [go_sem,ya]) (by rw [yj,hlen,yf]) (by omega) (by omega) (by decide) (by simp only [go_sem])]
   simp only [go_sem,ya,yb,eQ,ff,dJ,Of,wrapN (n:=(aD q).length) (by omega),c2];refine ⟨_,q,rfl,by omega,i+1,q,out++[(r:Int)],rfl,by simp [hlen],Gq,ajD,by omega,.inr ⟨by omega,?_⟩⟩;rw [xg];simp only [go_sem,ya,yb,av]<;>rfl
 ·right
  have h9:(aD m).length<=9:=rU (k:=8) (by omega);have hp0:=zx m;rcases hs with ⟨h0,rfl⟩ | ⟨h0,rfl⟩
  ·simp only [go_sem,zL,show ¬(9:Int)<((aD m).length:Int) by omega];exact ⟨_,_,rfl,by simp,_,i,m,out,rfl,by omega,hlen,hd,aT,by omega,by simp only [go_sem,ya],by simp only [go_sem,ya],by simp only [go_sem,ya],.inl ⟨h0,by simp only [go_sem,ya],rfl⟩⟩
  ·simp only [go_sem,zL,show ¬(9:Int)<((aD m).length:Int) by omega];exact ⟨_,_,rfl,by simp,_,i,m,out,rfl,by omega,hlen,hd,aT,by omega,by simp only [go_sem,ya],by simp only [go_sem,ya],by simp only [go_sem,ya],.inr ⟨h0,by simp only [go_sem,ya],rfl⟩⟩
end
end
section
open Go (IntKind)
section
variable {P:aM} {L:Lib}
def alR (h:Rb P L) {n:Int} (hn:(aD n.natAbs).length<=180000000000):∃r,aj P L 288 [.str (aX n)] r/\kC r n:=by
 obtain ⟨u,hu⟩:∃u,u=aD n.natAbs:=⟨_,rfl⟩;obtain ⟨b,t,hb,mC,hb2⟩:=EK n.natAbs;have hs:aX n=(if n<0 then [45] else [])++u:=by rw [hu,nK]
 have Cf:0<u.length:=by rw [hu];exact zx _
 have rB:u[0]=b:=by
  have:u=b::t:=by rw [hu,hb]
  simp [this]
 have key:∀(s:St),aJ [0,2,3,4] s=⟨[(0,.str u),(2,.ptr 0 0),(3,.bool (decide (n<0))),(4,.aa)],[(0,.cells true true true 2 [.bool false,.aa])],1,0⟩->
   ∃ex s',D P L (.loop [0,2,3,4] zL) s=some (ex,s')/\∃tm i m out,ex= .exit 0/\m<1000000000/\out.length=i/\dg out/\dv out+1000000000^i*m=n.natAbs/\i<20000000000/\af tm 0= .str (aD m)/\af tm 2= .ptr 0 0/\af tm 3= .bool (decide (n<0))/\
    ((i=0/\af tm 4= .aa/\s'=⟨tm,[(0,.cells true true true 2 [.bool false,.aa])],1,0⟩)\/(0<i/\af tm 4= .aw 1 0 i/\s'=⟨tm,[(1,.cells true true false 1 (out.map ab)),(0,.cells true true true 2 [.bool false,.aa])],2,0⟩)):=fun s hc=>
  azd (P:=P) (L:=L) h.Ag (neg:=decide (n<0)) hn n.natAbs s ⟨0,n.natAbs,[],rfl,rfl,rfl,by simp [dv],by omega,.inl ⟨rfl,by rw [hc,hu]⟩⟩
 have fin:∀(i m:Nat) (out:List Int),m<1000000000->out.length=i->dg out->dv out+1000000000^i*m=n.natAbs->i<20000000000->∃w l,bP P L (D P L) 294 [.bool (decide (n<0)),.aB false (i+1) ((out++[(m:Int)]).map ab)]=some (.agg [.bool (decide (n<0)),w])/\bC w l/\dg l/\nz l/\dv l=n.natAbs:=fun i m out h1 h2 h3 h4 h5=>by
  have hv:=ma false (out++[(m:Int)]);have hd:dg (out++[(m:Int)]):=iy.2 ⟨h3,lD.2 (by omega)⟩;have aT:dv (out++[(m:Int)])=n.natAbs:=by rw [mM,h2];simp [dv];exact h4
  obtain ⟨r,e,hr⟩:=Ah h.jy h.cZ (decide (n<0)) hv hd (by simp;omega);have G0:cG (decide (n<0)) (dv (out++[(m:Int)]))=n:=by
   rw [aT];unfold cG;by_cases h0:n<0
   ·simp only [h0,yr,xD];omega
   ·simp only [h0,ym,yL,xi];omega
  rw [G0] at hr;obtain ⟨w,l,rfl,hw,il,jS,dF⟩:=hr;simp only [yN,List.length_singleton,h2] at e;exact ⟨w,l,e,hw,il,jS,dF⟩
 unfold aj;rw [hs];by_cases h0:n<0
 ·rw [yT h0,aI h.alL];have kZ:iB (45::u) (some 1) (some (u.length+1))=some (.str u):=by rw [lz (s:=45::u) (l:=1) (h:=u.length+1) (by omega) (by simp)];simp
  simp only [h0,yr] at key fin ⊢;simp only [go_sem,ya,yb,OG,bj,show (0:Int)<((u.length+1:Nat):Int) by omega,xk,xC,DH,yr,eQ,ff,dJ,kZ];generalize hq:D P L (.loop [0,2,3,4] zL) _=q;obtain ⟨ex,s,rfl,tm,i,m,out,rfl,hm,hlen,hd,aT,hi,t0,t2,t3,nX⟩:=bq hq key (by simp only [go_sem,ya,yb,av]<;>rfl)
  have e1:=KL h.Ag (s:=aD m) (v:=m) (by have:=rU (k:=8) (n:=m) (by omega);omega) (CI m);have dS:i<20000000000:=hi;obtain ⟨w,l,e2,hw,il,jS,dF⟩:=fin i m out hm hlen hd aT dS;refine ⟨_,?_,w,l,rfl,hw,il,jS,dF⟩;unfold aj at e1;rcases nX with ⟨Cn,t4,rfl⟩ | ⟨Cn,t4,rfl⟩
  ·subst Cn;have my:out=[]:=yo hlen;subst my;have jl:∀hp:Hp,jO 0 1 (some (false,1,[AV.int .i64 (m:Int)],hp))=some (.aB false 1 [AV.int .i64 (m:Int)],hp):=fun hp=>rfl
   simp only [xC,xc,vv,ye] at e2;simp only [go_sem,ya,yb,xn,yF,yp,yf,av,t0,t2,t3,t4,e1,fQ,jl,e2,bX,hw.pu,hw.one,gO];rcases hw with ⟨rfl,_⟩ | ⟨e,rfl⟩<;>simp only [h0,yr]<;>rfl
  ·simp only [go_sem,ya,yb,yp,yf,av,t0,t2,t3,t4,e1]
   rw [fC (ex:=false) (pu:=true) (cs:=out.map ab) (by simp only [go_sem,ya]) (by rw [yj,hlen,yf]) (by omega) (by omega) (by decide) (by simp only [go_sem])];have jl:∀hp:Hp,jO 0 (i+1) (some (false,1,out.map ab++[AV.int .i64 (m:Int)],hp))=some (.aB false (i+1) (out.map ab++[AV.int .i64 (m:Int)]),hp):=fun hp=>kI false (by simp [hlen]) (by decide)
   simp only [xg,xc,vv] at e2;simp only [go_sem,ya,yb,jl,e2,bX,hw.pu,hw.one,gO,vj];rcases hw with ⟨rfl,_⟩ | ⟨e,rfl⟩<;>simp only [h0,yr]<;>rfl
 ·rw [yD h0,aI h.alL,xC];simp only [h0,ym] at key fin ⊢;simp only [go_sem,ya,yb,OG,bj,show (0:Int)<(u.length:Int) by omega,qO Cf,rB,show ¬((b:Nat):Int)=45 by omega];generalize hq:D P L (.loop [0,2,3,4] zL) _=q;obtain ⟨ex,s,rfl,tm,i,m,out,rfl,hm,hlen,hd,aT,hi,t0,t2,t3,nX⟩:=bq hq key (by simp only [go_sem,ya,yb,av]<;>rfl)
  have e1:=KL h.Ag (s:=aD m) (v:=m) (by have:=rU (k:=8) (n:=m) (by omega);omega) (CI m);have dS:i<20000000000:=hi;obtain ⟨w,l,e2,hw,il,jS,dF⟩:=fin i m out hm hlen hd aT dS;refine ⟨_,?_,w,l,rfl,hw,il,jS,dF⟩;rcases nX with ⟨Cn,t4,rfl⟩ | ⟨Cn,t4,rfl⟩
  ·subst Cn;have my:out=[]:=yo hlen;subst my;have jl:∀hp:Hp,jO 0 1 (some (false,1,[AV.int .i64 (m:Int)],hp))=some (.aB false 1 [AV.int .i64 (m:Int)],hp):=fun hp=>rfl
   simp only [xC,xc,vv,ye] at e2;simp only [go_sem,ya,yb,xn,yF,yp,yf,av,t0,t2,t3,t4,e1,fQ,jl,e2,bX,hw.pu,hw.one,gO];rcases hw with ⟨rfl,_⟩ | ⟨e,rfl⟩<;>simp only [h0,ym]<;>rfl
  ·simp only [go_sem,ya,yb,yp,yf,av,t0,t2,t3,t4,e1]
   rw [fC (ex:=false) (pu:=true) (cs:=out.map ab) (by simp only [go_sem,ya]) (by rw [yj,hlen,yf]) (by omega) (by omega) (by decide) (by simp only [go_sem])];have jl:∀hp:Hp,jO 0 (i+1) (some (false,1,out.map ab++[AV.int .i64 (m:Int)],hp))=some (.aB false (i+1) (out.map ab++[AV.int .i64 (m:Int)]),hp):=fun hp=>kI false (by simp [hlen]) (by decide)
   simp only [xg,xc,vv] at e2;simp only [go_sem,ya,yb,jl,e2,bX,hw.pu,hw.one,gO,vj];rcases hw with ⟨rfl,_⟩ | ⟨e,rfl⟩<;>simp only [h0,ym]<;>rfl
end
end
section
open Go (IntKind)
def Mk (n:Int) (r:List Nat):b6 (aX n++r)=(aX n).length+b6 r:=by
 rw [<-nK]
 split
 ·simp only [xk,xC,b6,yI];rw [yD (by decide),Mi r (Iy _)];omega
 ·rw [xC];exact Mi r (Iy _)
def Sw:∀{a b:List Nat},db a b=true->a=b
 | [],[],_=>rfl
 | [],_::_,h=>by simp [db] at h
 | _::_,[],h=>by simp [db] at h
 | x::a,y::b,h=>by
  simp only [db,yh] at h;rw [Nat.eq_of_beq_eq_true h.1,Sw h.2]
def ajE {n:Int} {d:Nat} (h:n≠0):db (TT n d) [48]=false:=by
 cases hb:db (TT n d) [48] with
 | false=>rfl
 | true=>
  have e:=Sw hb;unfold TT at e;by_cases h0:n<0
  ·rw [mP h0] at e;simp at e
  ·obtain ⟨m,rfl⟩:∃m:Nat,n=m:=⟨n.toNat,by omega⟩;rw [ll] at e;obtain ⟨b,r,cK,_,_⟩:=EK m;rw [cK] at e;simp only [xk,List.cons.injEq,List.append_eq_nil_iff] at e;have hv:=CI m;rw [cK,e.1,e.2.1] at hv
   have:(some 0:Option Nat)=some m:=hv
   grind
section
variable {P:aM} {L:Lib}
def aze (h:Rb P L):∃r,aj P L 281 [ab 1] r/\kC r 1:=by
 obtain ⟨r,e,hr⟩:=Ah h.jy h.cZ false (ma false [(1:Int)]) (by decide) (by decide);obtain ⟨w,l,rfl,hw,hd,hz,hv⟩:=hr;refine ⟨_,?_,w,l,rfl,hw,hd,hz,hv⟩;simp only [xc,vv,yI,yP,ye] at e;have jl:∀hp:Hp,jO 0 1 (some (false,1,[AV.int .i64 1],hp))=some (.aB false 1 [AV.int .i64 1],hp):=fun hp=>rfl
 unfold aj at e ⊢;rw [aI h.aCQ];simp only [go_sem,ya,yb,xn,yF,yp,yf,Uz,bj,Int.reduceLT,ym,NI,av,ahU,vP,yM,yO,yr,iV _ _ _ (show (1000000000:Int)≠0 by decide),gL _ _ _ (show (1000000000:Int)≠0 by decide),show Int.tmod 1 1000000000=1 from rfl,show Int.tdiv 1 1000000000=0 from rfl,show IntKind.wrap .i64 0=0 from rfl,fQ,jl,e,hw.pu,hw.one,bX,gO];rcases hw with ⟨rfl,_⟩ | ⟨e,rfl⟩<;>rfl
def alS (h:Rb P L) {n:Int} {d:Nat} (hn:(aD n.natAbs).length<=144000000000) (hd:(aD d).length<=144000000000):
  ∃x y,aj P L 274 [.str (TT n d)] (.ae [x,y])/\kC x n/\kC y d:=by
 obtain ⟨x,e1,hx⟩:=alR h (n:=n) (by omega);have hli:(aX n).length<=(aD n.natAbs).length+1:=by rw [<-nK];split<;>simp
 by_cases h1:d=1
 ·subst h1;obtain ⟨y,e2,hy⟩:=aze h;have hT:TT n 1=aX n:=by unfold TT;simp
  have hs:=Mk n [];rw [wo] at hs;have e3:=Gj h.BN (s:=aX n) (by omega);rw [hs] at e3;refine ⟨x,y,?_,hx,hy⟩;obtain ⟨xw,xl,rfl,eJ,_,_,_⟩:=hx;obtain ⟨yw,yl,rfl,eK,_,_,_⟩:=hy;rw [hT];unfold aj at e1 e2 e3 ⊢;rw [aI h.alI];simp only [go_sem,ya,yb,OA,bj,e3,b6,y5,yr,e1,e2,bX,eJ.pu,eJ.one,eK.pu,eK.one,gO];rcases eJ with ⟨rfl,_⟩ | ⟨e,rfl⟩<;>rcases eK with ⟨rfl,_⟩ | ⟨e',rfl⟩<;>rfl
 ·obtain ⟨y,e2,hy⟩:=alR h (n:=(d:Int)) (by simp;omega);rw [ll] at e2;obtain ⟨s,gg⟩:∃s,s=TT n d:=⟨_,rfl⟩;have hT:s=aX n++47::aD d:=by rw [gg];unfold TT;rw [yD h1]
  have hs:b6 s=(aX n).length:=by rw [hT,Mk];rfl
  have hlen:s.length=(aX n).length+(aD d).length+1:=by rw [hT];simp;omega
  have e3:=Gj h.BN (s:=s) (by omega);rw [hs] at e3;have c1:iB s (some 0) (some (aX n).length)=some (.str (aX n)):=by
   rw [lz (by omega) (by omega),yK,hT,uM]
  have c2:iB s (some ((aX n).length+1)) (some s.length)=some (.str (aD d)):=by
   rw [lz (by omega) (yv _),xB,hT,show aX n++47::aD d=(aX n++[47])++aD d by simp,show (aX n).length+1=(aX n++[47]).length by simp,uN]
  refine ⟨x,y,?_,hx,hy⟩;obtain ⟨xw,xl,rfl,eJ,_,_,_⟩:=hx;obtain ⟨yw,yl,rfl,eK,_,_,_⟩:=hy;rw [<-gg];unfold aj at e1 e2 e3 ⊢;rw [aI h.alI]
  simp only [go_sem,ya,yb,OA,bj,e3,show ¬((aX n).length:Int)=(s.length:Int) by omega,eQ,ff,dJ,c1,wrapN (n:=(aX n).length+1) (by omega),show ((aX n).length:Int)+1=(((aX n).length+1:Nat):Int) from rfl,c2,e1,e2,bX,eJ.pu,eJ.one,eK.pu,eK.one,gO];rcases eJ with ⟨rfl,_⟩ | ⟨e,rfl⟩<;>rcases eK with ⟨rfl,_⟩ | ⟨e',rfl⟩<;>rfl
end
end
section
open Go (IntKind)
def NN {n:Int} {d:Nat} (h:n<0):TT n d=45::TT (-n) d:=by
 have e:aX (-n)=aD n.natAbs:=by
  rw [<-nK,yD (show ¬-n<0 by omega),xC,show (-n).natAbs=n.natAbs by omega]
 unfold TT;rw [mP h,e];rfl
def avy {n:Int} {d:Nat} (h:¬n<0):∃b u,TT n d=b::u/\48<=b:=by
 obtain ⟨b,r,hb,h1,_⟩:=EK n.natAbs;refine ⟨b,r++(if d=1 then [] else 47::aD d),?_,h1⟩;unfold TT;rw [<-nK,yD h,xC,hb];rfl
def Fx (a b:AV) (r:List AV):iC 2 true (a::b::r)=some (.agg [a,b]):=rfl
def avz (k:Nat):2^k<=1000000000^k:=vW (by decide) k
def Bd.r {k:Nat} {z:Int} (h:Bd k z):z.natAbs<1000000000^k:=yU h (avz k)
def JQ (r:Rat):RT r=TT r.num r.den:=rfl
def ahB {n d:Int} (hd:0<d):RT (wm n d)=pM n d:=by
 obtain ⟨h1,h2⟩:=Rj (a:=n) hd;rw [avb hd,JQ,h1]
 congr 1
 exact Int.ofNat.inj (show ((wm n d).den:Int)=((dE n d).toNat:Int) by rw [h2];have:=IG (a:=n) hd;unfold dE at this ⊢;omega)
structure Rm (P:aM) (L:Lib):Prop extends Rb P L where
 aCY:Has P L 263 dw
 PT:Has P L 273 DA
 aCZ:Has P L 284 UA
 aC0:Has P L 285 OE
 aC1:Has P L 286 OF
 Gr:Has P L 287 Ko
 ri:Has P L 301 Aa
structure Rl (P:aM) (L:Lib):Prop extends Rm P L where
 aC2:Has P L 269 Kl
structure Rp (P:aM) (L:Lib):Prop extends Ras P L,Rm P L
structure Rn (P:aM) (L:Lib):Prop extends Ra P L,Rp P L
section
variable {P:aM} {L:Lib}
def ajF (h:Rm P L) {v w:AV} {a b:List Int} (hv:bC v a) (hw:bC w b) (ha:dg a) (hb:dg b) (na:nz a) (nb:nz b) (la:a.length<=8000000000) (lb:b.length<=8000000000) (h0:0<dv b):
  ∃q r lq lr,aj P L 289 [v,w] (.ae [q,r])/\bC q lq/\bC r lr/\dg lq/\nz lq/\dg lr/\nz lr/\dv lq=dv a/dv b/\dv lr=dv a%dv b:=
 ajB h.KX h.kU h.oh h.pP h.cZ h.ri hv hw ha hb na nb la lb h0
def azf (h:Rm P L) {x y:AV} {a b:List Int} {n d:Int} {K:Nat} (hK:K<=8000000000) (hx:bC x a) (ha:dg a) (na:nz a) (va:dv a=n.natAbs) (hy:bC y b) (hb:dg b) (nb:nz b) (vb:dv b=d.natAbs) (kn:Bd K n) (kd:Bd K d) (hd:0<d) {tm:Env} (t2:af tm 2= .ptr 0 0) (t3:af tm 3= .ptr 1 0):
  gS [.t 4] (D P L (aC (aC nY.body)) ⟨tm,[(1,.cells true true true 2 [.bool (decide (d<0)),y]),(0,.cells true true true 2 [.bool (decide (n<0)),x])],2,0⟩)=some (.str (RT (wm n d))):=by
 rw [ahB hd];have la:=xj (ju ha na (by rw [va];exact kn.r)) hK
 have lb:=xj (ju hb nb (by rw [vb];exact kd.r)) hK
 obtain ⟨g,lg,e1,hg,dg',ng,vg⟩:=ajC h.alJ h.KX h.kU h.oh h.pP h.cZ h.ri hx hy ha hb na nb la lb;rw [va,vb,show wG n.natAbs d.natAbs=wX n d from rfl] at vg;have Lj:=No (a:=n) hd;have aC3:wX n d<=d.natAbs:=Int.gcd_le_natAbs_right n (by omega);have lg1:lg.length<=8000000000:=xj (ju dg' ng (by rw [vg];exact Nat.lt_of_le_of_lt aC3 kd.r)) hK
 obtain ⟨p,p',lp,lp',e2,hp,ak,dp,np,dp',np',vp,vp'⟩:=ajF h hx hg ha dg' na ng la lg1 (by omega);obtain ⟨q,q',lq,lq',e3,hq,bI,dq,nq,dq',nq',vq,vq'⟩:=ajF h hy hg hb dg' nb ng lb lg1 (by omega);rw [va,vg] at vp;rw [vb,vg] at vq;have hrn:(dB n d).natAbs=n.natAbs/wX n d:=by unfold dB;rw [uj (Int.gcd_dvd_left n d)];rfl
 have kY:(dE n d).natAbs=d.natAbs/wX n d:=by unfold dE;rw [uj (Int.gcd_dvd_right n d)];rfl
 have hdp:=IG (a:=n) hd;rw [<-hrn] at vp;rw [<-kY] at vq;have aI6:=ayw n d;have G0:cG (decide (n<0)) (dv lp)=dB n d:=by
  rw [vp];unfold cG;by_cases h0:n<0
  ·have:¬0<=dB n d:=fun h1=>by have:=Int.mul_nonneg (Int.le_of_lt Lj) h1;omega
   simp only [h0,yr,xD];omega
  ·have:¬dB n d<0:=fun h1=>by have:=Int.mul_neg_of_pos_of_neg Lj h1;omega
   simp only [h0,ym,yL,xi];omega
 have kn':Bd K (dB n d):=kn.le (ad3 n d);have Zz:Bd K (dE n d):=kd.le (ad4 n d);have lp1:lp.length<=8000000000:=xj (ju dp np (by rw [vp];exact kn'.r)) hK
 have LO:lq.length<=8000000000:=xj (ju dq nq (by rw [vq];exact Zz.r)) hK
 obtain ⟨s,e4,hs⟩:=Ah h.jy h.cZ (decide (n<0)) hp dp (by omega);rw [G0] at hs;obtain ⟨e5,l5⟩:=alH (K:=K) h.alK h.rh (by omega) hs kn'.r;obtain ⟨u,e6,hu⟩:=Ah h.jy h.cZ false hq dq (by omega);have AE:cG false (dv lq)=dE n d:=by rw [vq];unfold cG;simp only [yL,xi];omega
 rw [AE] at hu;obtain ⟨e7,l7⟩:=alH (K:=K) h.alK h.rh (by omega) hu Zz.r;obtain ⟨sw,sl,rfl,mH,_,_,_⟩:=hs;obtain ⟨uw,ul,rfl,huw,_,_,_⟩:=hu;have aIP:0<lq.length:=by
  rcases xq lq.length with e | e
  ·rw [yo e] at vq;simp [dv] at vq;omega
  ·exact e
 by_cases QQ:lq.length=1
 ·obtain ⟨z,rfl⟩:∃z,lq=[z]:=by
   cases lq with
   | nil=>simp at QQ
   | cons z r=>cases r with
    | nil=>exact ⟨z,rfl⟩
    | cons y r=>simp at QQ
  have LX:z=dE n d:=by simp [dv] at vq;omega
  have e8:=hq.aU (i:=0) (by simp);simp only [wI] at e8;by_cases h1:dE n d=1
  ·have hT:pM n d=aX (dB n d):=by unfold pM;rw [yT h1]
   rw [hT];simp only [go_sem,ya,nY,aC,t2,t3,hx.an,hy.an,cd,ye,dh,show ¬d<0 by omega,ym,e1,hg.an,hg.shut,e2,hp.an,hp.bQ,ak.bQ,e3,hq.len,hq.bQ,bI.bQ,e4,mH.an,cF,bX,e5,yI,yP,show ((1:Nat):Int)=(1:Int) from rfl,yr,e8,LX,h1]
  ·have hT:pM n d=(aX (dB n d)++[47])++aX (dE n d):=by unfold pM;rw [yD h1]
   rw [hT]
   simp only [go_sem,ya,nY,aC,t2,t3,hx.an,hy.an,cd,ye,dh,show ¬d<0 by omega,ym,e1,hg.an,hg.shut,e2,hp.an,hp.bQ,ak.bQ,e3,hq.len,hq.an,hq.bQ,bI.bQ,e4,mH.an,cF,bX,e5,yI,yP,show ((1:Nat):Int)=(1:Int) from rfl,yr,e8,LX,h1,gM (a:=aX (dB n d)) (b:=[47]) (by simp;omega),e6,huw.an,e7,gM (a:=aX (dB n d)++[47]) (b:=aX (dE n d)) (by simp;omega)]
 ·have h1:¬dE n d=1:=fun h1=>QQ (by
   have h2:lq.length<=1:=ahA dq nq (by rw [vq,h1];decide)
   omega)
  have hT:pM n d=(aX (dB n d)++[47])++aX (dE n d):=by unfold pM;rw [yD h1]
  rw [hT]
  simp only [go_sem,ya,nY,aC,t2,t3,hx.an,hy.an,cd,ye,dh,show ¬d<0 by omega,ym,e1,hg.an,hg.shut,e2,hp.an,hp.bQ,ak.bQ,e3,hq.len,hq.an,hq.bQ,bI.bQ,e4,mH.an,cF,bX,e5,show ¬(lq.length:Int)=1 by omega,gM (a:=aX (dB n d)) (b:=[47]) (by simp;omega),e6,huw.an,e7,gM (a:=aX (dB n d)++[47]) (b:=aX (dE n d)) (by simp;omega)]
def aoQ (n d:Int):wm (-n) (-d)=wm n d:=by rw [Rat.divInt_neg',ybz]
def TZ (h:Rm P L) {v w:AV} {n d:Int} {K:Nat} (hK:K<=8000000000) (hv:kC v n) (hw:kC w d) (kn:Bd K n) (kd:Bd K d) (hd:d≠0):aj P L 280 [v,w] (.str (RT (wm n d))):=by
 have fin:∀{x y:AV} {a b:List Int} {n' d':Int},bC x a->dg a->nz a->dv a=n'.natAbs->bC y b->dg b->nz b->dv b=d'.natAbs->Bd K n'->Bd K d'->0<d'->wm n' d'=wm n d->∀tm,af tm 2= .ptr 0 0->af tm 3= .ptr 1 0->
   D P L (.seq (bF nY.body) (bF (aC nY.body))) ⟨[(0,v),(1,w)],[],0,0⟩=some (.normal,⟨tm,[(1,.cells true true true 2 [.bool (decide (d'<0)),y]),(0,.cells true true true 2 [.bool (decide (n'<0)),x])],2,0⟩)->aj P L 280 [v,w] (.str (RT (wm n d))):=fun {x y a b n' d'} hx ha na va hy hb nb vb kn kd hd hq tm t2 t3 e=>by
  unfold aj;rw [aI h.aCP];show gS [.t 4] (D P L (.seq (bF nY.body) (.seq (bF (aC nY.body)) (aC (aC nY.body)))) ⟨[(0,v),(1,w)],[],0,0⟩)=_
  rw [CL,e,fK,<-hq];exact azf h hK hx ha na va hy hb nb vb kn kd hd t2 t3
 have eI:=hv;have hw':=hw;obtain ⟨x,a,rfl,hx,ha,na,va⟩:=hv;obtain ⟨y,b,rfl,hy,hb,nb,vb⟩:=hw;by_cases h0:d<0
 ·obtain ⟨r,e1,hr⟩:=alg (K:=K) h.alM h.jy h.cZ (by omega) eI kn.r;obtain ⟨s,e2,hs⟩:=alg (K:=K) h.alM h.jy h.cZ (by omega) hw' kd.r;obtain ⟨x',a',rfl,Em,DY,na',va'⟩:=hr;obtain ⟨y',b',rfl,En,cK,nb',vb'⟩:=hs;simp only [h0,yr] at e2
  refine fin Em DY na' va' En cK nb' vb' kn.neg kd.neg (by omega) (aoQ n d) _ ?_ ?_ (by
   simp only [go_sem,ya,yb,nY,bF,aC,bj,hx.pu,hx.an,hx.one,hy.pu,hy.an,hy.one,Em.pu,Em.one,En.pu,En.one,cd,ye,h0,yr,Fx,cF,e1,e2,bX,gO]<;>rfl)<;>simp only [go_sem,ya]
 ·refine fin hx ha na va hy hb nb vb kn kd (by omega) rfl _ ?_ ?_ (by simp only [go_sem,ya,yb,nY,bF,aC,bj,hx.pu,hx.one,hy.pu,hy.one,cd,ye,h0,ym]<;>rfl)<;>simp only [go_sem,ya]
end
end
section
open Go (IntKind)
section
variable {P:aM} {L:Lib}
def Jy {K:Nat} {a:Rat} (h:Hq K a):(RT a).length<=2*K+3:=by
 have h1:=Iz h.1;have h2:=Iz h.2;rw [ll] at h2;unfold RT
 grind
def ahC {K:Nat} {z:Int} (h:Bd K z):(aD z.natAbs).length<=K+1:=by
 have:=Iz (z:=(z.natAbs:Int)) (k:=K) (by unfold Bd at h ⊢;omega)
 rwa [ll] at this
def JR (h:Rm P L) {a:Rat} {K:Nat} (ka:Hq K a) (hK:K<=8000000000):∃x y,aj P L 274 [.str (RT a)] (.ae [x,y])/\kC x a.num/\kC y (a.den:Int):=by
 have h1:=ahC ka.1;have h2:=ahC ka.2
 exact alS h.toRb (n:=a.num) (d:=a.den) (by omega) (by simpa using (by omega:(aD ((a.den:Int)).natAbs).length<=144000000000))
def ajG (h:Rm P L) {n:Int} {d:Nat} (hl:(TT n d).length<=100000000000) (H6:n=0->d=1):aj P L 262 [.str (TT n d)] (ab (cX n)):=by
 unfold aj;rw [aI h.aCN];by_cases h0:n<0
 ·have dH:=ajE (n:=n) (d:=d) (by omega);rw [NN h0] at dH ⊢;simp only [go_sem,ya,Kh,lC,dH,show (0:Int)<(((TT (-n) d).length+1:Nat):Int) by omega,DH,yr];unfold cX;rw [yT h0]
 ·by_cases h1:n=0
  ·subst h1
   have:=H6 rfl
   subst this;rw [show TT 0 1=[48] by decide];simp only [go_sem,ya,Kh,lC,show db [48] [48]=true from rfl];rfl
  ·have dH:=ajE (n:=n) (d:=d) h1;obtain ⟨b,u,hb,mC⟩:=avy (d:=d) h0;rw [hb] at dH ⊢;simp only [go_sem,ya,Kh,lC,dH,show (0:Int)<((u.length+1:Nat):Int) by omega,show mU 0 (.str (b::u))=some (.int .u8 (b:Nat)) from rfl,show ¬((b:Nat):Int)=45 by omega];unfold cX;rw [yD h0,yD h1]
def aok {a:Rat} (h:a.num=0):a.den=1:=by simp_all
def aAY (h:Rm P L) {a:Rat} {K:Nat} (ka:Hq K a) (hK:K<=8000000000):aj P L 262 [.str (RT a)] (ab (cX a.num)):=
 ajG h (by have:=Jy ka;rw [JQ] at this;omega) aok
def ajH (h:Rp P L) {a:Rat} {K:Nat} (ka:Hq K a) (hK:K<=8000000000):aj P L 268 [.str (RT a)] (.str (RT (-a))):=by
 have e:=aAY h.toRm ka hK;have hl:=Jy ka;have en:(-a).num= -a.num:=rfl;have ed:(-a).den=a.den:=rfl;rw [JQ] at hl e ⊢;rw [JQ,en,ed];generalize a.num=n at*
 generalize a.den=d at*
 unfold aj at e ⊢;rw [aI h.aCR];by_cases h0:n<0
 ·have es:cX n= -1:=by unfold cX;rw [yT h0]
  rw [es,NN h0] at e;rw [NN h0] at hl ⊢;have hc:iB (45::TT (-n) d) (some 1) (some ((TT (-n) d).length+1))=some (.str (TT (-n) d)):=by rw [lz (s:=45::TT (-n) d) (l:=1) (h:=(TT (-n) d).length+1) (by omega) (by simp)];simp
  simp only [go_sem,ya,Kk,e,show (-1:Int)<0 by decide,eQ,ff,dJ,hc]
 ·by_cases h1:n=0
  ·subst h1;have es:cX 0=0:=rfl;rw [es] at e;simp only [go_sem,ya,Kk,e,show ¬(0:Int)<0 by decide,yr,Int.neg_zero]
  ·have es:cX n=1:=by unfold cX;rw [yD h0,yD h1]
   rw [es] at e
   have:TT (-n) d=45::TT n d:=by rw [NN (by omega),ybz]
   rw [this]
   simp only [go_sem,ya,Kk,e,show ¬(1:Int)<0 by decide,show ¬(1:Int)=0 by decide,gM (a:=[45]) (b:=TT n d) (by simp;omega),xk,xC]
end
end
section
open Go (IntKind)
def ahD (n:Int) (d:Nat):To true n d= .ae [ab n,ab d,.bool true]:=rfl
def JS {a b:Int} (ha:a.natAbs<1000000000) (hb:b.natAbs<1000000000):(a*b).natAbs<1000000000000000000:=by
 rw [Int.natAbs_mul];exact yU (tX ha hb) (by decide)
section
variable {P:aM} {L:Lib}
def ajI (h:Rm P L) {a b:Int} (ha: -4000000000000000000<=a/\a<=4000000000000000000) (hb:0<b/\b<=4000000000000000000):aj P L 277 [ab a,ab b] (.str (RT (wm a b))):=by
 rw [ahB hb.1];exact aBR h.aCO h.YU h.rh ha hb
def N9 (h:Rp P L) {a:Rat} {K:Nat} (ka:Hq K a) (hK:K<=8000000000):∃q:Bool,aj P L 276 [.str (RT a)] (To q a.num a.den)/\(q=true->a.num.natAbs<1000000000/\a.den<1000000000):=
 aBS h.aCT h.BN h.Ag (n:=a.num) (d:=a.den) (by have:=Jy ka;rw [JQ] at this;omega)
def Ua (h:Rn P L) {a b:Rat} {K M:Nat} (ka:Hq K a) (kb:Hq M b) (hK:K+M<=8000000000):aj P L 267 [.str (RT a),.str (RT b)] (.str (RT (a*b))):=by
 obtain ⟨q1,e1,b1⟩:=N9 h.toRp ka (by omega);obtain ⟨q2,e2,b2⟩:=N9 h.toRp kb (by omega);have aC4:=EC a b;by_cases hq:(q1=true/\q2=true)
 ·obtain ⟨rfl,rfl⟩:=hq;obtain ⟨b11,b12⟩:=b1 rfl;obtain ⟨b21,b22⟩:=b2 rfl;have p1:=JS b11 b21;have p2:=JS (a:=(a.den:Int)) (b:=(b.den:Int)) (by omega) (by omega);have e3:=ajI h.toRm (a:=a.num*b.num) (b:=(a.den:Int)*b.den) (by omega) (by omega);rw [<-mul_eq] at e3;rw [ahD] at e1 e2;unfold aj at e1 e2 e3 ⊢;rw [aI h.alO]
  simp only [go_sem,ya,Kj,e1,e2,wrap64 (n:=a.num*b.num) (by omega) (by omega),wrap64 (n:=(a.den:Int)*(b.den:Int)) (by omega) (by omega),e3]
 ·have bI:∃n1 d1 n2 d2,bP P L (D P L) 276 [.str (RT a)]=some (.ae [ab n1,ab d1,.bool q1])/\bP P L (D P L) 276 [.str (RT b)]=some (.ae [ab n2,ab d2,.bool q2]):=by
   cases q1<;>cases q2<;>exact ⟨_,_,_,_,e1,e2⟩
  obtain ⟨n1,d1,n2,d2,e1,e2⟩:=bI;obtain ⟨x,y,e3,hx,hy⟩:=JR h.toRm ka (by omega);obtain ⟨z,w,e4,hz,hw⟩:=JR h.toRm kb (by omega);have Gs:max K M<=8000000000:=by omega
  obtain ⟨r,e5,hr⟩:=KW (K:=max K M) h.KY h.kU h.jy h.cZ Gs hx hz (ka.1.mono (by omega)).r (kb.1.mono (by omega)).r;obtain ⟨s,e6,hs⟩:=KW (K:=max K M) h.KY h.kU h.jy h.cZ Gs hy hw (ka.2.mono (by omega)).r (kb.2.mono (by omega)).r;have e7:=TZ h.toRm hK hr hs (ka.1.mul kb.1) (ka.2.mul kb.2) (by omega);rw [<-mul_eq] at e7;obtain ⟨xw,xl,rfl,eJ,_,_,_⟩:=hx;obtain ⟨yw,yl,rfl,eK,_,_,_⟩:=hy;obtain ⟨zw,zl,rfl,oO,_,_,_⟩:=hz;obtain ⟨ww,wl,rfl,oP,_,_,_⟩:=hw;obtain ⟨rw',rl,rfl,rz,_,_,_⟩:=hr;obtain ⟨sw,sl,rfl,mH,_,_,_⟩:=hs;have hb:¬(q1=true/\q2=true):=hq;unfold aj at e3 e4 e5 e6 e7 ⊢;rw [aI h.alO]
  cases q1 with
  | false=>
   simp only [go_sem,ya,yb,Kj,bj,e1,e2,e3,e4,eJ.pu,eJ.an,eJ.one,eK.pu,eK.an,eK.one,oO.pu,oO.an,oO.one,oP.pu,oP.an,oP.one,rz.an,mH.an,cF,bX,AX,gO,Fx,e5,e6,e7]
  | true=>
   cases q2 with
   | true=>exact absurd ⟨rfl,rfl⟩ hb
   | false=>
    simp only [go_sem,ya,yb,Kj,bj,e1,e2,e3,e4,eJ.pu,eJ.an,eJ.one,eK.pu,eK.an,eK.one,oO.pu,oO.an,oO.one,oP.pu,oP.an,oP.one,rz.an,mH.an,cF,bX,AX,gO,Fx,e5,e6,e7]
def ajJ (h:Rp P L) {a b:Rat} {K M:Nat} (ka:Hq K a) (kb:Hq M b) (hK:K+M+1<=8000000000):aj P L 264 [.str (RT a),.str (RT b)] (.str (RT (a+b))):=by
 obtain ⟨q1,e1,b1⟩:=N9 h ka (by omega);obtain ⟨q2,e2,b2⟩:=N9 h kb (by omega);have aC4:=EC a b;by_cases hq:(q1=true/\q2=true)
 ·obtain ⟨rfl,rfl⟩:=hq;obtain ⟨b11,b12⟩:=b1 rfl;obtain ⟨b21,b22⟩:=b2 rfl;have p1:=JS (a:=a.num) (b:=(b.den:Int)) (by omega) (by omega);have p2:=JS (a:=b.num) (b:=(a.den:Int)) (by omega) (by omega);have p3:=JS (a:=(a.den:Int)) (b:=(b.den:Int)) (by omega) (by omega);have e3:=ajI h.toRm (a:=a.num*b.den+b.num*a.den) (b:=(a.den:Int)*b.den) (by omega) (by omega);rw [<-add_eq] at e3;rw [ahD] at e1 e2;unfold aj at e1 e2 e3 ⊢;rw [aI h.alN]
  simp only [go_sem,ya,Ki,e1,e2,wrap64 (n:=a.num*(b.den:Int)) (by omega) (by omega),wrap64 (n:=b.num*(a.den:Int)) (by omega) (by omega),wrap64 (n:=a.num*(b.den:Int)+b.num*(a.den:Int)) (by omega) (by omega),wrap64 (n:=(a.den:Int)*(b.den:Int)) (by omega) (by omega),e3]
 ·have bI:∃n1 d1 n2 d2,bP P L (D P L) 276 [.str (RT a)]=some (.ae [ab n1,ab d1,.bool q1])/\bP P L (D P L) 276 [.str (RT b)]=some (.ae [ab n2,ab d2,.bool q2]):=by
   cases q1<;>cases q2<;>exact ⟨_,_,_,_,e1,e2⟩
  obtain ⟨n1,d1,n2,d2,e1,e2⟩:=bI;obtain ⟨x,y,e3,hx,hy⟩:=JR h.toRm ka (by omega);obtain ⟨z,w,e4,hz,hw⟩:=JR h.toRm kb (by omega);have Gs:max K M<=8000000000:=by omega
  obtain ⟨r,e5,hr⟩:=KW (K:=max K M) h.KY h.kU h.jy h.cZ Gs hx hw (ka.1.mono (by omega)).r (kb.2.mono (by omega)).r;obtain ⟨r2,e52,mB⟩:=KW (K:=max K M) h.KY h.kU h.jy h.cZ Gs hz hy (kb.1.mono (by omega)).r (ka.2.mono (by omega)).r;obtain ⟨s,e6,hs⟩:=KW (K:=max K M) h.KY h.kU h.jy h.cZ Gs hy hw (ka.2.mono (by omega)).r (kb.2.mono (by omega)).r;have k1:Bd (K+M) (a.num*b.den):=ka.1.mul kb.2;have k2:Bd (K+M) (b.num*a.den):=(kb.1.mul ka.2).mono (by omega);obtain ⟨t,e8,ht⟩:=aCF (K:=K+M) h.aCU h.Zn h.oh h.PS h.nm h.jy h.cZ (by omega) hr mB k1.r k2.r;have e7:=TZ h.toRm hK ht hs (k1.Y8 k2) ((ka.2.mul kb.2).mono (by omega)) (by omega);rw [<-add_eq] at e7;obtain ⟨xw,xl,rfl,eJ,_,_,_⟩:=hx;obtain ⟨yw,yl,rfl,eK,_,_,_⟩:=hy;obtain ⟨zw,zl,rfl,oO,_,_,_⟩:=hz;obtain ⟨ww,wl,rfl,oP,_,_,_⟩:=hw;obtain ⟨rw',rl,rfl,rz,_,_,_⟩:=hr
  obtain ⟨rw2,rl2,rfl,alT,_,_,_⟩:=mB;obtain ⟨tw,tl,rfl,htw,_,_,_⟩:=ht;obtain ⟨sw,sl,rfl,mH,_,_,_⟩:=hs;have hb:¬(q1=true/\q2=true):=hq;unfold aj at e3 e4 e5 e52 e6 e7 e8 ⊢;rw [aI h.alN]
  cases q1 with
  | false=>
   simp only [go_sem,ya,yb,Ki,bj,e1,e2,e3,e4,eJ.pu,eJ.an,eJ.one,eK.pu,eK.an,eK.one,oO.pu,oO.an,oO.one,oP.pu,oP.an,oP.one,rz.an,alT.an,htw.an,mH.an,cF,bX,AX,gO,Fx,e5,e52,e8,e6,e7]
  | true=>
   cases q2 with
   | true=>exact absurd ⟨rfl,rfl⟩ hb
   | false=>
    simp only [go_sem,ya,yb,Ki,bj,e1,e2,e3,e4,eJ.pu,eJ.an,eJ.one,eK.pu,eK.an,eK.one,oO.pu,oO.an,oO.one,oP.pu,oP.an,oP.one,rz.an,alT.an,htw.an,mH.an,cF,bX,AX,gO,Fx,e5,e52,e8,e6,e7]
def aAZ (h:Rp P L) {a b:Rat} {K M:Nat} (ka:Hq K a) (kb:Hq M b) (hK:K+M+1<=8000000000):aj P L 271 [.str (RT a),.str (RT b)] (.str (RT (a-b))):=by
 have e1:=ajH h kb (by omega);have e2:=ajJ h ka kb.neg hK;rw [<-Rat.sub_eq_add_neg] at e2;unfold aj at e1 e2 ⊢;rw [aI h.aCS];simp only [go_sem,ya,Uy,e1,e2]
def inv_divInt (a:Rat) (h:a≠0):a⁻¹=wm (a.den:Int) a.num:=by
 rw [Rat.inv_def]
def aA0 (h:Rn P L) (Zq:Has P L 283 OD) {a:Rat} {K:Nat} (ka:Hq K a) (hK:K<=8000000000) (h0:a≠0):aj P L 283 [.str (RT a)] (.str (RT a⁻¹)):=by
 obtain ⟨x,y,e3,hx,hy⟩:=JR h.toRm ka hK;have hn:a.num≠0:=fun e=>h0 (yaT.1 e)
 have e7:=TZ h.toRm hK hy hx ka.2 ka.1 hn;rw [<-inv_divInt a h0] at e7;obtain ⟨xw,xl,rfl,eJ,_,_,_⟩:=hx;obtain ⟨yw,yl,rfl,eK,_,_,_⟩:=hy;unfold aj at e3 e7 ⊢;rw [aI Zq];simp only [go_sem,ya,yb,OD,bj,e3,eJ.pu,eJ.an,eJ.one,eK.pu,eK.an,eK.one,cF,AX,gO,Fx,e7]
end
end
section
open Go (IntKind)
def adg {P:aM} {L:Lib} (a b c d:VC) (s:St):D P L (.seq a (.seq b (.seq c d))) s=jL P L (D P L (.seq a (.seq b c)) s) d:=by
 have e:=CL (P:=P) (L:=L) b c d;rw [j8,j8]
 cases D P L a s with
 | none=>rfl
 | some q=>
  obtain ⟨ex,st⟩:=q
  cases ex with
  | normal=>rw [fK,fK];exact e st
  | ret=>rfl
  | exit id=>rfl
def nU {a b:List Nat} (h:a≠b):db a b=false:=by
 cases hb:db a b with
 | false=>rfl
 | true=>exact absurd (Sw hb) h
def aem:∀a:List Nat,db a a=true
 | []=>rfl
 | x::a=>by simp [db,aem a]
def TC {a b:List Nat} (h:a=b):db a b=true:=h▸aem a
def arh {s:List Nat} {i:Nat} (h:i<s.length):dn (s.drop i)=(yG 48 s[i]&&yG s[i] 57&&dn (s.drop (i+1))):=by
 rw [yS h];rfl
section
variable {P:aM} {L:Lib}
def aC5 (h:Has P L 287 Ko) {s:List Nat} (hl:s.length<9223372036854775808):aj P L 287 [.str s] (.bool (dn s)):=by
 have key:=eP (P:=P) (L:=L) (live:=[0,3]) (a:=C5)
  (I:=fun k st=>∃i:Nat,st=⟨[(0,.str s),(3,ab i)],[],0,0⟩/\i+k=s.length/\dn (s.drop i)=dn s)
  (Q:=fun ex st=>∃tm ct,st=⟨tm,[],ct,0⟩/\((ex= .ret/\af tm 2= .bool false/\dn s=false)\/(ex= .exit 0/\dn s=true))) ?_
 ·unfold aj;rw [aI h];simp only [go_sem,Ko];generalize hq:D P L (.loop [0,3] C5) _=q;obtain ⟨ex,st,rfl,tm,ct,rfl,h2⟩:=bq hq (key s.length) ⟨0,by simp only [go_sem,ya,av]<;>rfl,by omega,by simp⟩
  rcases h2 with ⟨rfl,h2,h3⟩ | ⟨rfl,h3⟩
  ·simp only [go_sem,h2,h3]
  ·simp only [go_sem,av,h3]
 ·rintro k st ⟨i,rfl,hk,hs⟩;by_cases hi:i<s.length
  ·rw [arh hi] at hs;by_cases h1:s[i]<48
   ·right
    have e:yG 48 s[i]=false:=by
     cases hb:yG 48 s[i] with
     | false=>rfl
     | true=>have:=yz hb;omega
    rw [e,xP,xP] at hs;simp only [go_sem,ya,C5,show (i:Int)<s.length by omega,qO hi,show ((s[i]:Nat):Int)<48 by omega,yr];exact ⟨_,_,rfl,by simp,_,_,rfl,.inl ⟨rfl,by simp only [go_sem],hs.symm⟩⟩
   ·by_cases h2:57<s[i]
    ·right
     have e:yG s[i] 57=false:=by
      cases hb:yG s[i] 57 with
      | false=>rfl
      | true=>have:=yz hb;omega
     rw [e,Bool.and_false,xP] at hs;simp only [go_sem,ya,C5,show (i:Int)<s.length by omega,qO hi,show ¬((s[i]:Nat):Int)<48 by omega,ym,show (57:Int)<((s[i]:Nat):Int) by omega];exact ⟨_,_,rfl,by simp,_,_,rfl,.inl ⟨rfl,by simp only [go_sem],hs.symm⟩⟩
    ·left
     rw [yu (show 48<=s[i] by omega),yu (show s[i]<=57 by omega),xY,xY] at hs;simp only [go_sem,ya,C5,show (i:Int)<s.length by omega,qO hi,show ¬((s[i]:Nat):Int)<48 by omega,ym,show ¬(57:Int)<((s[i]:Nat):Int) by omega];refine ⟨_,k-1,rfl,by omega,i+1,?_,by omega,hs⟩;rw [wrap64 (by omega) (by omega)];simp only [go_sem,ya,av]<;>rfl
  ·right
   simp only [go_sem,ya,C5,show ¬(i:Int)<s.length by omega];refine ⟨_,_,rfl,by simp,_,_,rfl,.inr ⟨rfl,?_⟩⟩;rw [<-hs,xh (by omega)];rfl
def PU (h:Has P L 273 DA) (Gr:Has P L 287 Ko) {s:List Nat} (hl:s.length<9223372036854775808):aj P L 273 [.str s] (.bool (dW s)):=by
 have e:=aC5 Gr hl;unfold aj at e ⊢;rw [aI h]
 match s,hl,e with
 | [],_,_=>
  simp only [go_sem,ya,DA,yP,show ((0:Nat):Int)=0 from rfl,yr];rfl
 | [b],_,e=>
  have:dW [b]=dn [b]:=by simp [dW]
  rw [this];simp only [go_sem,ya,DA,yI,yP,ye,show ¬((1:Nat):Int)=0 by decide,show ¬(1:Int)<((1:Nat):Int) by decide,ym,e]
 | b::c::r,hl,e=>
  have hd:dW (b::c::r)=(dn (b::c::r)&& !(yx b 48)):=by simp [dW]
  rw [hd];have DZ:r.length+2<9223372036854775808:=by simpa using hl
  by_cases hb:b=48
  ·subst hb;simp only [go_sem,ya,DA,yI,show ¬((r.length+1+1:Nat):Int)=0 by omega,ym,show (1:Int)<((r.length+1+1:Nat):Int) by omega,show mU 0 (.str (48::c::r))=some (.int .u8 48) from rfl,yr]
   simp
  ·have:yx b 48=false:=hX hb
   rw [this,yM,vj];simp only [go_sem,ya,DA,yI,show ¬((r.length+1+1:Nat):Int)=0 by omega,ym,show (1:Int)<((r.length+1+1:Nat):Int) by omega,show mU 0 (.str (b::c::r))=some (.int .u8 (b:Nat)) from rfl,show ¬((b:Nat):Int)=48 by omega,e]
def aen {s:List Nat} {k:Nat} (h:k<=s.length):iB s (some 0) (some k)=some (.str (s.take k)):=by
 rw [lz (by omega) h,yK]
def M5 {s:List Nat} {k:Nat} (h:k<=s.length):iB s (some k) (some s.length)=some (.str (s.drop k)):=by
 rw [lz h (yv _),xB]
def azg (h:Rm P L) {t:List Nat} {k:Nat} (hk:k=b6 t) (hl:t.length<9223372036854775808) (hp:dW (t.take k)=true) {tm:Env} (t3:af tm 3= .str t) (t4:af tm 4=ab k):
  gS [.t 2] (D P L (aC (aC (aC (aC (aC dw.body))))) ⟨tm,[],0,0⟩)=some (ab (
   if k<t.length/\(dW (t.drop (k+1))=false\/t.drop (k+1)=[48]\/t.drop (k+1)=[49]) then 1
   else if 600<k\/600<t.length-k-1 then 4
   else if k<t.length/\wG (fU (t.take k)) (fU (t.drop (k+1)))≠1 then 1
   else 0)):=by
 have hkl:k<=t.length:=by rw [hk];exact Ix t
 have e3:=PU h.PT h.Gr (s:=t.drop (k+1)) (by rw [xN];omega);unfold aj at e3;have Cx:(k:Int)+1=((k+1:Nat):Int):=rfl;by_cases hs:k<t.length
 ·have c2:=M5 (s:=t) (k:=k+1) (by omega);have jZ:=abl t (by omega);rw [<-hk] at jZ;have LR:(t.drop (k+1)).length=t.length-k-1:=by rw [xN];omega
  have hlp:(t.take k).length=k:=by rw [yy];omega
  generalize hqe:t.drop (k+1)=q at*
  generalize hpe:t.take k=p at*
  cases hd:dW q with
  | false=>
   rw [yT ⟨hs,.inl rfl⟩];rw [hd] at e3
   simp only [go_sem,ya,dw,aC,t3,t4,show (k:Int)<(t.length:Int) by omega,yr,Cx,wrapN (n:=k+1) (by omega),eQ,ff,dJ,c2,e3,yM]
  | true=>
   rw [hd] at e3;by_cases jF:q=[48]
   ·rw [yT ⟨hs,.inr (.inl jF)⟩]
    simp only [go_sem,ya,dw,aC,t3,t4,show (k:Int)<(t.length:Int) by omega,yr,Cx,wrapN (n:=k+1) (by omega),eQ,ff,dJ,c2,e3,yO,lC,TC jF]
   ·by_cases oM:q=[49]
    ·rw [yT ⟨hs,.inr (.inr oM)⟩]
     simp only [go_sem,ya,dw,aC,t3,t4,show (k:Int)<(t.length:Int) by omega,yr,Cx,wrapN (n:=k+1) (by omega),eQ,ff,dJ,c2,e3,yO,lC,nU jF,TC oM]
    ·rw [yD (by simp only [hs,tj,yax,yby];exact fun e=>e.elim jF oM)]
     by_cases DV:600<k
     ·rw [yT (.inl DV)]
      simp only [go_sem,ya,dw,aC,t3,t4,show (k:Int)<(t.length:Int) by omega,yr,Cx,wrapN (n:=k+1) (by omega),eQ,ff,dJ,c2,e3,yO,lC,nU jF,nU oM,show (600:Int)<(k:Int) by omega]
     ·by_cases aC6:600<t.length-k-1
      ·rw [yT (.inr aC6)]
       simp only [go_sem,ya,dw,aC,t3,t4,show (k:Int)<(t.length:Int) by omega,yr,Cx,wrapN (n:=k+1) (by omega),eQ,ff,dJ,c2,e3,yO,lC,nU jF,nU oM,show ¬(600:Int)<(k:Int) by omega,ym,show (t.length:Int)-(k:Int)=((t.length-k:Nat):Int) by omega,wrapN (n:=t.length-k) (by omega),show ((t.length-k:Nat):Int)-1=((t.length-k-1:Nat):Int) by omega,wrapN (n:=t.length-k-1) (by omega),show (600:Int)<((t.length-k-1:Nat):Int) by omega]
      ·rw [yD (by omega)];have rH:=EL _ rfl hp;have oN:=EL _ rfl hd;have iG:fU q≠0:=fun e=>jF (by rw [<-oN,e];rfl)
       have jd:fU q≠1:=fun e=>oM (by rw [<-oN,e];rfl)
       generalize fU p=n at*
       generalize fU q=d at*
       have hT:TT (n:Int) d=t:=by
        unfold TT;rw [ll,yD jd,rH,oN];exact jZ.symm
       obtain ⟨x,y,e4,hx,hy⟩:=alS h.toRb (n:=(n:Int)) (d:=d) (by rw [vh,rH];omega) (by rw [oN];omega);rw [hT] at e4;obtain ⟨xw,xl,rfl,eJ,dx,nx,vx⟩:=hx;obtain ⟨yw,yl,rfl,eK,dy,ny,vy⟩:=hy;rw [vh] at vx vy;have p0:n<10^p.length:=by rw [<-rH];exact IV n
       have hdb:d<10^q.length:=by rw [<-oN];exact IV d
       obtain ⟨K,hK⟩:∃K:Nat,K=600:=⟨_,rfl⟩;have QB:∀{m j:Nat},m<10^j->j<=K->m<1000000000^K:=fun {m j} h1 h2=>
        yU h1 (xj (yY (by decide) h2) (vW (by decide) K))
       have lxl:=ju dx nx (by rw [vx];exact QB p0 (by omega))
       have lyl:=ju dy ny (by rw [vy];exact QB hdb (by omega))
       obtain ⟨g,lg,e5,hg,dgg,ngg,vg⟩:=ajC h.alJ h.KX h.kU h.oh h.pP h.cZ h.ri eJ eK dx dy nx ny (by omega) (by omega);rw [vx,vy] at vg;have Lj:0<wG n d:=Nat.gcd_pos_of_pos_right _ (by omega);unfold aj at e4 e5;by_cases Zr:lg.length=1
       ·obtain ⟨z,rfl⟩:∃z,lg=[z]:=by
         cases lg with
         | nil=>simp at Zr
         | cons z r=>cases r with
          | nil=>exact ⟨z,rfl⟩
          | cons y r=>simp at Zr
        have gz:=lD.1 dgg;have LX:z=(wG n d:Nat):=by simp [dv] at vg;omega
        have e8:=hg.aU (i:=0) (by simp);simp only [wI] at e8;by_cases iF:wG n d=1
        ·rw [yD (by simp [iF])]
         simp only [go_sem,ya,yb,dw,aC,t3,t4,show (k:Int)<(t.length:Int) by omega,yr,Cx,wrapN (n:=k+1) (by omega),eQ,ff,dJ,c2,e3,yO,lC,nU jF,nU oM,show ¬(600:Int)<(k:Int) by omega,ym,show (t.length:Int)-(k:Int)=((t.length-k:Nat):Int) by omega,wrapN (n:=t.length-k) (by omega),show ((t.length-k:Nat):Int)-1=((t.length-k-1:Nat):Int) by omega,wrapN (n:=t.length-k-1) (by omega),show ¬(600:Int)<((t.length-k-1:Nat):Int) by omega,e4,bj,eJ.pu,eJ.an,eJ.one,eK.pu,eK.an,eK.one,gO,cd,ye,dh,e5,hg.len,hg.shut,yI,yP,show ((1:Nat):Int)=(1:Int) from rfl,yO,e8,LX,iF]
        ·rw [yT ⟨hs,iF⟩]
         simp only [go_sem,ya,yb,dw,aC,t3,t4,show (k:Int)<(t.length:Int) by omega,yr,Cx,wrapN (n:=k+1) (by omega),eQ,ff,dJ,c2,e3,yO,lC,nU jF,nU oM,show ¬(600:Int)<(k:Int) by omega,ym,show (t.length:Int)-(k:Int)=((t.length-k:Nat):Int) by omega,wrapN (n:=t.length-k) (by omega),show ((t.length-k:Nat):Int)-1=((t.length-k-1:Nat):Int) by omega,wrapN (n:=t.length-k-1) (by omega),show ¬(600:Int)<((t.length-k-1:Nat):Int) by omega,e4,bj,eJ.pu,eJ.an,eJ.one,eK.pu,eK.an,eK.one,gO,cd,ye,dh,e5,hg.len,hg.shut,yI,yP,show ((1:Nat):Int)=(1:Int) from rfl,yO,e8,LX,show ¬((wG n d:Nat):Int)=1 by omega,yM]
       ·have iF:wG n d≠1:=fun e=>Zr (by
         have h1:lg.length<=1:=ahA dgg ngg (by omega);have h2:0<lg.length:=by
          rcases xq lg.length with h0 | h0
          ·rw [yo h0] at vg;simp [dv] at vg;omega
          ·exact h0
         omega)
        rw [yT ⟨hs,iF⟩]
        simp only [go_sem,ya,yb,dw,aC,t3,t4,show (k:Int)<(t.length:Int) by omega,yr,Cx,wrapN (n:=k+1) (by omega),eQ,ff,dJ,c2,e3,yO,lC,nU jF,nU oM,show ¬(600:Int)<(k:Int) by omega,ym,show (t.length:Int)-(k:Int)=((t.length-k:Nat):Int) by omega,wrapN (n:=t.length-k) (by omega),show ((t.length-k:Nat):Int)-1=((t.length-k-1:Nat):Int) by omega,wrapN (n:=t.length-k-1) (by omega),show ¬(600:Int)<((t.length-k-1:Nat):Int) by omega,e4,bj,eJ.pu,eJ.an,eJ.one,eK.pu,eK.an,eK.one,gO,cd,ye,dh,e5,hg.len,hg.shut,show ¬(lg.length:Int)=1 by omega,yM]
 ·have hkt:k=t.length:=by omega
  rw [yD (by omega)];by_cases DV:600<k
  ·rw [yT (.inl DV)];simp only [go_sem,ya,dw,aC,t3,t4,show ¬(k:Int)<(t.length:Int) by omega,ym,show (600:Int)<(k:Int) by omega,yr]
  ·rw [yD (by omega),yD (by omega)]
   simp only [go_sem,ya,dw,aC,t3,t4,show ¬(k:Int)<(t.length:Int) by omega,ym,show ¬(600:Int)<(k:Int) by omega,show (t.length:Int)-(k:Int)=((t.length-k:Nat):Int) by omega,wrapN (n:=t.length-k) (by omega),show ((t.length-k:Nat):Int)-1= -1 by omega,show IntKind.wrap .i64 (-1)= -1 by rfl,show ¬(600:Int)<(-1:Int) by omega]
def aiV (h:Rm P L) {b:Nat} {r:List Nat} {t:List Nat} {neg:Bool} (iO:decide (((b:Nat):Int)=45)=neg) (hl:t.length<9223372036854775808) {tm:Env} (t0:af tm 0= .str (b::r)) (t3:af tm 3= .str t):
  gS [.t 2] (D P L (aC (aC (aC dw.body))) ⟨tm,[],0,0⟩)=some (ab (Al neg t)):=by
 obtain ⟨k,hk⟩:∃k,k=b6 t:=⟨_,rfl⟩;have hkl:k<=t.length:=by rw [hk];exact Ix t
 have e1:=Gj h.BN (s:=t) (by omega);have e2:=PU h.PT h.Gr (s:=t.take k) (by rw [yy];omega);have e3:=PU h.PT h.Gr (s:=t.drop (k+1)) (by rw [xN];omega);unfold Al;rw [<-hk] at e1 ⊢;have c1:=aen hkl;have hI:mU 0 (.str (b::r))=some (.int .u8 (b:Nat)):=rfl;unfold aj at e1 e2 e3;generalize hp:t.take k=p at*
 generalize hq:t.drop (k+1)=q at*
 cases hd:dW p with
 | false=>
  rw [yT (.inl rfl)];rw [hd] at e2;simp only [go_sem,ya,dw,aC,t3,e1,eQ,ff,dJ,c1,e2,yM]
 | true=>
  rw [hd] at e2;by_cases hz:neg=true/\p=[48]
  ·rw [yT (.inr hz)];obtain ⟨z1,z2⟩:=hz;rw [z1] at iO;have hb:=of_decide_eq_true iO;subst z2;simp only [go_sem,ya,dw,aC,t0,t3,e1,eQ,ff,dJ,c1,e2,yO,hI,hb,yr,lC,show db [48] [48]=true from rfl]
  ·rw [yD (by simp only [yax,yby];exact hz)]
   have fin:∀tm',af tm' 3= .str t->af tm' 4=ab k->D P L (.seq (bF (aC (aC (aC dw.body)))) (bF (aC (aC (aC (aC dw.body)))))) ⟨tm,[],0,0⟩=some (.normal,⟨tm',[],0,0⟩)->gS [.t 2] (D P L (aC (aC (aC dw.body))) ⟨tm,[],0,0⟩)=some (ab (
     if k<t.length/\(dW q=false\/q=[48]\/q=[49]) then 1
     else if 600<k\/600<t.length-k-1 then 4
     else if k<t.length/\wG (fU p) (fU q)≠1 then 1
     else 0)):=fun tm' f3 f4 e=>by
    show gS [.t 2] (D P L (.seq (bF (aC (aC (aC dw.body)))) (.seq (bF (aC (aC (aC (aC dw.body))))) (aC (aC (aC (aC (aC dw.body))))))) ⟨tm,[],0,0⟩)=_
    rw [CL,e,fK,<-hp,<-hq];exact azg h hk hl (by rw [hp];exact hd) f3 f4
   by_cases hb:((b:Nat):Int)=45
   ·have aC7:p≠[48]:=fun e=>hz ⟨by rw [<-iO];exact xx hb,e⟩
    refine fin _ ?_ ?_ (by simp only [go_sem,ya,dw,bF,aC,t0,t3,e1,eQ,ff,dJ,c1,e2,yO,hI,hb,yr,lC,nU aC7]<;>rfl)<;>simp only [go_sem,ya,t3]
   ·refine fin _ ?_ ?_ (by simp only [go_sem,ya,dw,bF,aC,t0,t3,e1,eQ,ff,dJ,c1,e2,yO,hI,hb,ym]<;>rfl)<;>simp only [go_sem,ya,t3]
def aC8 (h:Rm P L) {s:List Nat} (hl:s.length<9223372036854775808):aj P L 263 [.str s] (ab (dc s)):=by
 unfold aj;rw [aI h.aCY]
 cases s with
 | nil=>
  have e1:=Gj h.BN (s:=[]) (by simp);have e2:=PU h.PT h.Gr (s:=[]) (by simp);unfold aj at e1 e2;have hc:iB [] (some 0) (some 0)=some (.str []):=rfl;simp only [go_sem,ya,dw,yP,show ¬(0:Int)<((0:Nat):Int) by decide,ym,e1,b6,eQ,ff,dJ,hc,e2,show dW []=false from rfl,yM];rfl
 | cons b t=>
  have DZ:t.length+1<9223372036854775808:=by simpa using hl
  have hI:mU 0 (.str (b::t))=some (.int .u8 (b:Nat)):=rfl;by_cases hb:b=45
  ·subst hb;have fin:∀tm',af tm' 0= .str (45::t)->af tm' 3= .str t->D P L (.seq (bF dw.body) (.seq (bF (aC dw.body)) (bF (aC (aC dw.body))))) ⟨[(0,.str (45::t))],[],0,0⟩=some (.normal,⟨tm',[],0,0⟩)->gS [.t 2] (D P L dw.body ⟨[(0,.str (45::t))],[],0,0⟩)=some (ab (dc (45::t))):=fun tm' f0 f3 e=>by
    show gS [.t 2] (D P L (.seq (bF dw.body) (.seq (bF (aC dw.body)) (.seq (bF (aC (aC dw.body))) (aC (aC (aC dw.body)))))) ⟨[(0,.str (45::t))],[],0,0⟩)=_
    rw [adg,e,fK]
    exact aiV h (b:=45) rfl (by omega) f0 f3
   have hc:iB (45::t) (some 1) (some (t.length+1))=some (.str t):=by
    have:=M5 (s:=45::t) (k:=1) (by simp)
    simpa using this
   refine fin _ ?_ ?_ (by simp only [go_sem,ya,dw,bF,aC,yI,show (0:Int)<((t.length+1:Nat):Int) by omega,yr,DH,eQ,ff,dJ,hc]<;>rfl)<;>simp only [go_sem,ya]
  ·have fin:∀tm',af tm' 0= .str (b::t)->af tm' 3= .str (b::t)->D P L (.seq (bF dw.body) (.seq (bF (aC dw.body)) (bF (aC (aC dw.body))))) ⟨[(0,.str (b::t))],[],0,0⟩=some (.normal,⟨tm',[],0,0⟩)->gS [.t 2] (D P L dw.body ⟨[(0,.str (b::t))],[],0,0⟩)=some (ab (dc (b::t))):=fun tm' f0 f3 e=>by
    show gS [.t 2] (D P L (.seq (bF dw.body) (.seq (bF (aC dw.body)) (.seq (bF (aC (aC dw.body))) (aC (aC (aC dw.body)))))) ⟨[(0,.str (b::t))],[],0,0⟩)=_
    rw [adg,e,fK]
    have:=aiV h (b:=b) (neg:=false) (xa (by omega)) (by simpa using hl) f0 f3
    rw [this];simp only [dc,yD hb]
   refine fin _ ?_ ?_ (by simp only [go_sem,ya,dw,bF,aC,yI,show (0:Int)<((t.length+1:Nat):Int) by omega,yr,hI,show ¬((b:Nat):Int)=45 by omega]<;>rfl)<;>simp only [go_sem,ya]
end
end
section
open Go (IntKind)
def bm (v:AV) (l:List (List Nat)):Prop:=cW v (l.map AV.str)
section
variable {v:AV} {l:List (List Nat)}
def bm.len (h:bm v l) {hp:Hp}:fE hp 1 v=some (.int .i64 (l.length:Nat)):=by
 have:=cW.len (hp:=hp) h
 grind
def bm.pu (h:bm v l):a7 v=true:=cW.pu h
def bm.an (h:bm v l) (n:Nat) {hp:Hp}:freeze (n+1) hp v=some (v,hp):=cW.an h n
def bm.one (h:bm v l):dt v=true:=cW.one h
def bm.cells (h:bm v l):cellsOf v=[v]:=cW.cells h
def bm.aU (h:bm v l) {i:Nat} (hi:i<l.length):j0 1 i v=some (.cg (.str l[i]::(l.map AV.str).drop (i+1))):=by
 have:=cW.aU h (i:=i) (by simpa using hi)
 grind
def IX (e:Bool) (l:List (List Nat)):bm (.aB e l.length (l.map AV.str)) l:=by
 have:=ET e (l.map AV.str)
 rwa [yj] at this
end
section
variable {P:aM} {L:Lib}
def avA (h:Rm P L) {a:Rat} {K:Nat} (ka:Hq K a) (hK:K<=4000000000):bP P L (D P L) 284 [.str (RT a)]=some (.str (aX a.num))/\bP P L (D P L) 285 [.str (aX a.num)]=some (.str (aD a.num.natAbs))/\bP P L (D P L) 286 [.str (RT a)]=some (.str (aD a.den)):=by
 have hl:=Jy ka;have e0:=Gj h.BN (s:=RT a) (by omega);have kj:b6 (RT a)=(aX a.num).length/\(RT a).take (aX a.num).length=aX a.num:=by
  unfold RT;by_cases hd:a.den=1
  ·rw [yT hd,wo]
   have:=Mk a.num []
   rw [wo] at this;exact ⟨by rw [this];simp [b6],xB⟩
  ·rw [yD hd];exact ⟨by rw [Mk];simp [b6],uM⟩
 obtain ⟨eC,sZ⟩:=kj;rw [eC] at e0;have hlen:(aX a.num).length<=(RT a).length:=by unfold RT;simp
 have e1:bP P L (D P L) 284 [.str (RT a)]=some (.str (aX a.num)):=by
  rw [aI h.aCZ]
  have:=aen (s:=RT a) hlen
  simp only [go_sem,ya,UA,e0,eQ,ff,dJ,this,sZ]
 have hT:aX a.num=TT a.num 1:=by unfold TT;simp
 have e2:bP P L (D P L) 285 [.str (aX a.num)]=some (.str (aD a.num.natAbs)):=by
  have e:=ajG h (n:=a.num) (d:=1) (by rw [<-hT];omega) (fun _=>rfl);rw [<-hT] at e;rw [aI h.aC0];by_cases h0:a.num<0
  ·have es:cX a.num= -1:=by unfold cX;rw [yT h0]
   rw [es] at e;rw [mP h0] at e ⊢;have hc:=M5 (s:=45::aD a.num.natAbs) (k:=1) (by simp);simp only [List.drop_succ_cons,yK,yI] at hc;simp only [go_sem,ya,OE,e,show (-1:Int)<0 by decide,eQ,ff,dJ,hc]
  ·have es:¬cX a.num<0:=by unfold cX;rw [yD h0];split<;>decide
   have hi:aX a.num=aD a.num.natAbs:=by
    obtain ⟨m,hm⟩:∃m:Nat,a.num=m:=⟨a.num.toNat,by omega⟩;rw [hm,ll,vh]
   simp only [go_sem,ya,OE,e,es];rw [hi]
 have e3:bP P L (D P L) 286 [.str (RT a)]=some (.str (aD a.den)):=by
  rw [aI h.aC1];by_cases hd:a.den=1
  ·have hR:(RT a).length=(aX a.num).length:=by unfold RT;rw [yT hd];simp
   rw [hd,show aD 1=[49] by decide];simp only [go_sem,ya,OF,e0,show ((aX a.num).length:Int)=((RT a).length:Int) by omega,yr]
  ·have hR:RT a=(aX a.num++[47])++aD a.den:=by unfold RT;rw [yD hd];simp
   have hRl:(RT a).length=(aX a.num).length+1+(aD a.den).length:=by rw [hR];simp;omega
   have hc:=M5 (s:=RT a) (k:=(aX a.num).length+1) (by omega);have jj:(RT a).drop ((aX a.num).length+1)=aD a.den:=by
    rw [hR,show (aX a.num).length+1=(aX a.num++[47]).length by simp,uN]
   rw [jj] at hc
   simp only [go_sem,ya,OF,e0,show ¬((aX a.num).length:Int)=((RT a).length:Int) by omega,show ((aX a.num).length:Int)+1=(((aX a.num).length+1:Nat):Int) from rfl,wrapN (n:=(aX a.num).length+1) (by omega),eQ,ff,dJ,hc]
 exact ⟨e1,e2,e3⟩
def aA1 (h:Rl P L) {a:Rat} {K:Nat} (ka:Hq K a) (hK:K<=4000000000):aj P L 269 [.str (RT a)] (ab (if LG a=true then 4 else 0)):=by
 obtain ⟨e1,e2,e3⟩:=avA h.toRm ka hK;unfold aj;rw [aI h.aC2];unfold LG LN;rw [vh];by_cases h1:600<(aD a.num.natAbs).length
 ·rw [xx h1,yaJ,yT rfl];simp only [go_sem,ya,Kl,e1,e2,show (600:Int)<((aD a.num.natAbs).length:Int) by omega,yr]
 ·by_cases h2:600<(aD a.den).length
  ·rw [xx h2,Bool.or_true,yT rfl];simp only [go_sem,ya,Kl,e1,e2,show ¬(600:Int)<((aD a.num.natAbs).length:Int) by omega,ym,e3,show (600:Int)<((aD a.den).length:Int) by omega]
  ·rw [xa h1,xa h2,Bool.or_self,yD (by decide)];simp only [go_sem,ya,Kl,e1,e2,show ¬(600:Int)<((aD a.num.natAbs).length:Int) by omega,ym,e3,show ¬(600:Int)<((aD a.den).length:Int) by omega]
def su (l:List (List Nat)):Bool:=l.all fun s=>decide (s.length<=40)
def apF {l:List (List Nat)} {i:Nat} (h:i<l.length):su (l.drop i)=(decide (l[i].length<=40)&&su (l.drop (i+1))):=by
 rw [yS h];rfl
def adh {l:List (List Nat)} {i:Nat} (h:i<l.length):cf ((l.drop i).map dc)=if dc l[i]=0 then cf ((l.drop (i+1)).map dc) else dc l[i]:=by
 rw [yS h];rfl
def aA2 (h:Rm P L) (Gt:Has P L 261 Kg) {v:AV} {l:List (List Nat)} (hv:bm v l) (hl:l.length<=1000000) (hs:∀s,s∈l->s.length<9223372036854775808):aj P L 261 [v] (ab (cf (l.map dc))):=by
 have key:=eP (P:=P) (L:=L) (live:=[0,3]) (a:=Fh)
  (I:=fun k st=>∃i:Nat,st=⟨[(0,v),(3,ab i)],[],0,0⟩/\i+k=l.length/\cf ((l.drop i).map dc)=cf (l.map dc))
  (Q:=fun ex st=>∃tm ct,st=⟨tm,[],ct,0⟩/\((ex= .ret/\af tm 2=ab (cf (l.map dc)))\/(ex= .exit 0/\cf (l.map dc)=0))) ?_
 ·unfold aj;rw [aI Gt];simp only [go_sem,Kg];generalize hq:D P L (.loop [0,3] Fh) _=q;obtain ⟨ex,st,rfl,tm,ct,rfl,h2⟩:=bq hq (key l.length) ⟨0,by simp only [go_sem,ya,av,aq hv.pu,au _ hv.pu]<;>rfl,by omega,by simp⟩
  rcases h2 with ⟨rfl,h2⟩ | ⟨rfl,h3⟩
  ·simp only [go_sem,h2]
  ·simp only [go_sem,av,h3]
 ·rintro k st ⟨i,rfl,hk,hd⟩;by_cases hi:i<l.length
  ·rw [adh hi] at hd;have e1:=aC8 h (hs l[i] (yE hi));have ev:=hv.aU hi;unfold aj at e1;by_cases h1:dc l[i]=0
   ·left
    rw [yT h1] at hd;rw [h1] at e1;simp only [go_sem,ya,Fh,hv.len,show (i:Int)<l.length by omega,ev,e1,yr,yO];refine ⟨_,k-1,rfl,by omega,i+1,?_,by omega,hd⟩;rw [wrap64 (by omega) (by omega)];simp only [go_sem,ya,av,aq hv.pu,au _ hv.pu]<;>rfl
   ·right
    rw [yD h1] at hd;simp only [go_sem,ya,Fh,hv.len,show (i:Int)<l.length by omega,ev,e1,h1,ym,yM];refine ⟨_,_,rfl,by simp,_,_,rfl,.inl ⟨rfl,?_⟩⟩;rw [<-hd];simp only [go_sem]
  ·right
   simp only [go_sem,ya,Fh,hv.len,show ¬(i:Int)<l.length by omega];refine ⟨_,_,rfl,by simp,_,_,rfl,.inr ⟨rfl,?_⟩⟩;rw [<-hd,xh (by omega)];rfl
def apG {l:List Rat} {i:Nat} (h:i<l.length):(l.drop i).any LG=(LG l[i]||(l.drop (i+1)).any LG):=by
 rw [yS h];rfl
def aA3 (h:Rl P L) (pQ:Has P L 316 DC) {v:AV} {l:List Rat} (hv:bm v (l.map RT)) (hl:l.length<=1000000) {K:Nat} (hs:∀r,r∈l->Hq K r) (hK:K<=4000000000):aj P L 316 [v] (ab (if l.any LG=true then 4 else 0)):=by
 have hlen:(l.map RT).length=l.length:=by simp
 have key:=eP (P:=P) (L:=L) (live:=[0,3]) (a:=Fk)
  (I:=fun k st=>∃i:Nat,st=⟨[(0,v),(3,ab i)],[],0,0⟩/\i+k=l.length/\(l.drop i).any LG=l.any LG)
  (Q:=fun ex st=>∃tm ct,st=⟨tm,[],ct,0⟩/\((ex= .ret/\af tm 2=ab 4/\l.any LG=true)\/(ex= .exit 0/\l.any LG=false))) ?_
 ·unfold aj;rw [aI pQ];simp only [go_sem,DC];generalize hq:D P L (.loop [0,3] Fk) _=q;obtain ⟨ex,st,rfl,tm,ct,rfl,h2⟩:=bq hq (key l.length) ⟨0,by simp only [go_sem,ya,av,aq hv.pu,au _ hv.pu]<;>rfl,by omega,by simp⟩
  rcases h2 with ⟨rfl,h2,h3⟩ | ⟨rfl,h3⟩
  ·simp only [go_sem,h2,h3,xD]
  ·simp only [go_sem,av,h3];rfl
 ·rintro k st ⟨i,rfl,hk,hd⟩;by_cases hi:i<l.length
  ·rw [apG hi] at hd;have e1:=aA1 h (hs l[i] (yE hi)) hK;have ev:=hv.aU (i:=i) (by simpa using hi);rw [List.getElem_map] at ev
   cases hb:LG l[i] with
   | false=>
    left
    rw [hb,Bool.false_or] at hd;rw [hb] at e1;simp only [yL,xi] at e1;simp only [go_sem,ya,Fk,hv.len,hlen,show (i:Int)<l.length by omega,ev,e1,yr,yO];refine ⟨_,k-1,rfl,by omega,i+1,?_,by omega,hd⟩;rw [wrap64 (by omega) (by omega)];simp only [go_sem,ya,av,aq hv.pu,au _ hv.pu]<;>rfl
   | true=>
    right
    rw [hb,yaJ] at hd;rw [hb] at e1;simp only [xD] at e1;simp only [go_sem,ya,Fk,hv.len,hlen,show (i:Int)<l.length by omega,ev,e1,show ¬(4:Int)=0 by decide,ym,yM];exact ⟨_,_,rfl,by simp,_,_,rfl,.inl ⟨rfl,by simp only [go_sem],hd.symm⟩⟩
  ·right
   simp only [go_sem,ya,Fk,hv.len,hlen,show ¬(i:Int)<l.length by omega];refine ⟨_,_,rfl,by simp,_,_,rfl,.inr ⟨rfl,?_⟩⟩;rw [<-hd,xh (by omega)];rfl
end
end
section
open Go (IntKind)
open Classical in
noncomputable def fZ (s:List Nat):Rat:=if h:dc s=0 then Classical.choose (ay1 h) else 0
def IK {s:List Nat} (h:dc s=0):s=RT (fZ s)/\(aD (fZ s).num.natAbs).length<=600/\(aD (fZ s).den).length<=600:=by
 unfold fZ
 grind
def MM {z:Int} {k M:Nat} (h:(aD z.natAbs).length<=k) (hM:4*k<=M):Bd M z:=by
 have h1:=IV z.natAbs;have h2:=IW (aD z.natAbs).length;have h3:(2:Nat)^(4*(aD z.natAbs).length)<=2^M:=yY (by decide) (by omega);exact yU h1 (xj h2 h3)
def avB {s:List Nat} (h:dc s=0) {M:Nat} (hM:2400<=M):Hq M (fZ s):=by
 obtain ⟨_,h1,h2⟩:=IK h
 exact ⟨MM h1 (by omega),MM (z:=((fZ s).den:Int)) (by rw [vh];exact h2) (by omega)⟩
noncomputable def alU (s:List Nat) (least:Int):Int:=if dc s=0 then (if cX (fZ s).num<least then 3 else 0) else dc s
instance (k:Nat) (z:Int):Decidable (Bd k z):=inferInstanceAs (Decidable (z.natAbs<2^k))
def Zs:RT 0=[48]:=by decide
def aC9:RT 1=[49]:=by decide
def Gu:Hq 2 0:=⟨by decide,by decide⟩
def alV:Hq 2 1:=⟨by decide,by decide⟩
def avC {a:Rat} (h:RT a=[48]):a=0:=by
 unfold RT at h;have hp:=zx a.den;by_cases hd:a.den=1
 ·rw [yT hd,wo] at h;by_cases h0:a.num<0
  ·rw [mP h0] at h;simp at h
  ·obtain ⟨m,hm⟩:∃m:Nat,a.num=m:=⟨a.num.toNat,by omega⟩;rw [hm,ll] at h;have hv:=CI m;rw [h] at hv;have hv:some 0=some m:=hv
   have:m=0:=by simp_all
   simp_all
 ·rw [yD hd] at h;have hl:=congrArg tD h
  grind
def azh (a:Rat):db (RT a) [48]=decide (a=0):=by
 by_cases h:a=0
 ·subst h;exact TC Zs
 ·rw [xa h];exact nU (fun e=>h (avC e))
end
section
open Go (IntKind)
def azi (hs h:Rat):Bool:=decide (hs=0)||decide (h<hs)
end
section
open Go (IntKind)
section
variable {s1 s2 s3 s4:Int} {w1 w2 w3 w4:AV} {l1 l2 l3 l4:List Nat}
def qU (a b c d:AV) (r:List AV):iC 4 true (a::b::c::d::r)=some (.agg [a,b,c,d]):=rfl
end
section
variable {P:aM} {L:Lib}
def ari (a:List Nat):db a a=true:=Nw rfl
end
end
section
open Go (IntKind)
structure F4 (c1 c2 c3 c4:AV):Prop where
 an:∀(n:Nat) (hp:Hp),freeze (n+20) hp (.agg [c1,c2,c3,c4])=some (.agg [c1,c2,c3,c4],hp)
 fO:∀hp:Hp,result hp (.agg [c1,c2,c3,c4])=some (.agg [c1,c2,c3,c4])
 st:∀(hp:Hp) (ct id:Nat) (a b c d:AV),im hp ct id 0 4 [c1,c2,c3,c4] (some (.cells true true true 4 [a,b,c,d]))=some (.ae [],a6 hp id (.cells true true true 4 [c1,c2,c3,c4]),ct)
 bx:∀ct:Nat,Gi ct 4 [c1,c2,c3,c4]=some (.ptr ct 0,.cells true true true 4 [c1,c2,c3,c4])
 o1:dt c1=true
 o2:dt c2=true
 o3:dt c3=true
 o4:dt c4=true
 pu:a7 (.agg [c1,c2,c3,c4])=true
 z1:∀(n:Nat) (hp:Hp),freeze (n+1) hp c1=some (c1,hp)
 z2:∀(n:Nat) (hp:Hp),freeze (n+1) hp c2=some (c2,hp)
 z3:∀(n:Nat) (hp:Hp),freeze (n+1) hp c3=some (c3,hp)
 z4:∀(n:Nat) (hp:Hp),freeze (n+1) hp c4=some (c4,hp)
def dI.gen {v:AV} {a:Rat} (h:dI v a):∃c1 c2 c3 c4,v= .agg [c1,c2,c3,c4]/\F4 c1 c2 c3 c4:=by
 obtain ⟨s1,w1,s2,w2,rfl,h1,h2⟩:=h;obtain ⟨l1,u1⟩:=h1.aY;obtain ⟨l2,u2⟩:=h2.aY;refine ⟨_,_,_,_,rfl,fun n hp=>?_,nc u1 u2,fun hp ct id a b c d=>mZ u1 u2 hp ct id a b c d,fun ct=>by simp only [go_sem,yb,bj,u1.pu,u1.one,u2.pu,u2.one],rfl,u1.one,rfl,u2.one,by simp [a7,aK,u1.pu,u2.pu],fun _ _=>rfl,fun n _=>u1.an n,fun _ _=>rfl,fun n _=>u2.an n⟩;exact cF _ _ (by simp only [go_sem,u1.an,u2.an])
end
section
open Go (IntKind)
def QL:List AV->List Rat->Prop
 | [],[]=>True
 | a::b::c::d::r,x::l=>dI (.agg [a,b,c,d]) x/\QL r l
 | _,_=>False
def QL.inv {cs:List AV} {x:Rat} {l:List Rat} (h:QL cs (x::l)):∃a b c d r,cs=a::b::c::d::r/\dI (.agg [a,b,c,d]) x/\QL r l:=by
 match cs,h with
 | a::b::c::d::r,h=>exact ⟨a,b,c,d,r,rfl,h.1,h.2⟩
def QL.alW {cs:List AV} (h:QL cs []):cs=[]:=by
 match cs,h with
 | [],_=>rfl
 | [_],h=>exact h.elim
 | [_,_],h=>exact h.elim
 | [_,_,_],h=>exact h.elim
 | _::_::_::_::_,h=>exact h.elim
def QL.len:∀{l:List Rat} {cs:List AV},QL cs l->cs.length=l.length*4
 | [],_,h=>by rw [h.alW];rfl
 | x::l,cs,h=>by
  obtain ⟨a,b,c,d,r,rfl,_,h2⟩:=h.inv
  have:=h2.len
  grind
def F4.LY {c1 c2 c3 c4:AV} (g:F4 c1 c2 c3 c4):a7 c1=true/\a7 c2=true/\a7 c3=true/\a7 c4=true:=by
 have:=g.pu
 simpa only [a7,aK,vj,yh] using this
def dI.f4 {a b c d:AV} {x:Rat} (h:dI (.agg [a,b,c,d]) x):F4 a b c d:=by
 obtain ⟨_,_,_,_,e,g⟩:=h.gen
 grind
def QL.aR:∀{l m:List Rat} {cs ds:List AV},QL cs l->QL ds m->QL (cs++ds) (l++m)
 | [],m,cs,ds,h,k=>by rw [h.alW];exact k
 | x::l,m,cs,ds,h,k=>by
  obtain ⟨a,b,c,d,r,rfl,h1,h2⟩:=h.inv;exact ⟨h1,h2.aR k⟩
def QL.snoc {l:List Rat} {x:Rat} {cs:List AV} {a b c d:AV} (h:QL cs l) (k:dI (.agg [a,b,c,d]) x):QL (cs++[a,b,c,d]) (l++[x]):=h.aR ⟨k,trivial⟩
def QL.get:∀{l:List Rat} {cs:List AV} {i:Nat},QL cs l->∀(hi:i<l.length),∃a b c d r,cs.drop (i*4)=a::b::c::d::r/\dI (.agg [a,b,c,d]) l[i]
 | [],_,i,_,hi=>absurd hi (Nat.not_lt_zero i)
 | x::l,cs,0,h,hi=>by
  obtain ⟨a,b,c,d,r,rfl,h1,_⟩:=h.inv
  grind
 | x::l,cs,i+1,h,hi=>by
  obtain ⟨a,b,c,d,r,rfl,_,h2⟩:=h.inv;obtain ⟨a',b',c',d',r',e,k⟩:=h2.get (i:=i) (by simpa using hi)
  grind
def cI (v:AV) (l:List Rat):Prop:=(v= .aa/\l=[])\/∃e cs,v= .aB e l.length cs/\QL cs l
section
variable {v:AV} {l:List Rat} {hp:Hp}
def cI.len (h:cI v l) {hp:Hp}:fE hp 1 v=some (.int .i64 (l.length:Nat)):=by
 rcases h with ⟨rfl,rfl⟩ | ⟨e,cs,rfl,h⟩<;>rfl
def cI.pu (h:cI v l):a7 v=true:=by
 rcases h with ⟨rfl,rfl⟩ | ⟨e,cs,rfl,h⟩<;>rfl
def cI.an (h:cI v l) (n:Nat) {hp:Hp}:freeze (n+1) hp v=some (v,hp):=by
 rcases h with ⟨rfl,rfl⟩ | ⟨e,cs,rfl,h⟩<;>rfl
def cI.one (h:cI v l):dt v=true:=by
 rcases h with ⟨rfl,rfl⟩ | ⟨e,cs,rfl,h⟩<;>rfl
def cI.cells (h:cI v l):cellsOf v=[v]:=by
 rcases h with ⟨rfl,rfl⟩ | ⟨e,cs,rfl,h⟩<;>rfl
def cI.aU (h:cI v l) {i:Nat} (hi:i<l.length):∃a b c d r,j0 4 i v=some (.cg (a::b::c::d::r))/\dI (.agg [a,b,c,d]) l[i]:=by
 rcases h with ⟨rfl,rfl⟩ | ⟨e,cs,rfl,h⟩
 ·grind
 ·obtain ⟨a,b,c,d,r,e1,e2⟩:=h.get hi;refine ⟨a,b,c,d,r,?_,e2⟩;rw [SK e _ hi,e1]
def arj:cI .aa []:= .inl ⟨rfl,rfl⟩
def M6 {cs:List AV} (e:Bool) (h:QL cs l):cI (.aB e l.length cs) l:= .inr ⟨e,cs,rfl,h⟩
end
def aiW {tm:Env} {a b c d x0 x1 x2 x3:AV} {r:List (Nat×Nat×X)} (h1:dt a=true) (h2:dt b=true) (h3:dt c=true) (h4:dt d=true):qX tm [x0,x1,x2,x3] 0 4 [a,b,c,d] r=fill tm [a,b,c,d] r:=by
 rw [SM (by rfl) (by simp) (by simp [cu,h1,h2,h3,h4])];rfl
def Oa (rw' pu ex:Bool) (a b c d:AV):atC 0 1 4 (some (.cells rw' pu ex 4 [a,b,c,d]))=some (1,[a,b,c,d]):=rfl
def ol (hp:Hp) (cs:List AV):jb hp 4 true (.cg cs)=iC 4 true cs:=rfl
end
section
abbrev Mx:=List (List Rat)
def de (a b:List Rat) (x y:Rat):List Rat:=List.zipWith (fun p q=>p*x+q*y) a b
def A8 {a b:List Rat} {x y:Rat} (h:a.length=b.length):(de a b x y).length=a.length:=by
 simp [de,h]
def Ny {a b:List Rat} {x y:Rat} {i:Nat} (ha:i<a.length) (hb:i<b.length) (h:i<(de a b x y).length):(de a b x y)[i]=a[i]*x+b[i]*y:=by
 simp [de]
def gR (m:Mx) (i:Nat):List Rat:=m.getD i []
def cE (r:List Rat) (c:Nat):Rat:=r.getD c 0
def eS {m:Mx} {i:Nat} (h:i<m.length):gR m i=m[i]:=by
 simp [gR,xf,xS h]
def jH {r:List Rat} {i:Nat} (h:i<r.length):cE r i=r[i]:=by
 simp [cE,xf,xS h]
def nV (m:Mx) (i j:Nat) (r:List Rat):gR (m.set i r) j=if i=j/\j<m.length then r else gR m j:=by
 simp only [gR,xf,List.getElem?_set]
 grind
def kF (m:Mx) (c:Nat):Nat->Nat->Nat
 | 0,p=>p
 | d+1,p=>if cE (gR m p) c=0 then kF m c d (p+1) else p
def aiX (m:Mx) (c:Nat):∀d p,p<=kF m c d p/\kF m c d p<=p+d
 | 0,p=>⟨yv _,yv _⟩
 | d+1,p=>by
  have:=aiX m c d (p+1)
  simp only [kF];split<;>omega
def S4 (m:Mx) (c:Nat):∀d p,kF m c d p<p+d->cE (gR m (kF m c d p)) c≠0
 | 0,p,h=>by simp only [kF] at h;omega
 | d+1,p,h=>by
  simp only [kF] at h ⊢
  split
  ·rename_i h0;rw [yT h0] at h;exact S4 m c d (p+1) (by omega)
  ·grind
def cz (m:Mx) (i j:Nat):Mx:=(m.set i (gR m j)).set j (gR m i)
def AL (m:Mx) (a c:Nat):Mx:=m.set a (de (gR m a) (gR m a) (cE (gR m a) c)⁻¹ 0)
def qw (m:Mx) (a c i:Nat):Mx:=if i≠a/\cE (gR m i) c≠0 then m.set i (de (gR m i) (gR m a) 1 (-(cE (gR m i) c))) else m
def b8 (m:Mx) (a c:Nat):Nat->Mx
 | 0=>m
 | i+1=>qw (b8 m a c i) a c i
def bg (s:Mx×List Nat) (c:Nat):Nat:=kF s.1 c (s.1.length-s.2.length) s.2.length
def et (s:Mx×List Nat) (c:Nat):Mx:=AL (cz s.1 s.2.length (bg s c)) s.2.length c
def kG (s:Mx×List Nat) (c:Nat):Mx×List Nat:=
 if bg s c<s.1.length then (b8 (et s c) s.2.length c s.1.length,s.2++[c]) else s
def ax (m:Mx):Nat->Mx×List Nat
 | 0=>(m,[])
 | c+1=>kG (ax m c) c
def zA (m:Mx) (i j:Nat):(cz m i j).length=m.length:=by simp [cz]
def avD (m:Mx) (a c:Nat):(AL m a c).length=m.length:=by simp [AL]
def avE (m:Mx) (a c i:Nat):(qw m a c i).length=m.length:=by unfold qw;split<;>simp
def rY (m:Mx) (a c:Nat):∀i,(b8 m a c i).length=m.length
 | 0=>rfl
 | i+1=>by rw [b8,avE,rY m a c i]
def zF (s:Mx×List Nat) (c:Nat):(et s c).length=s.1.length:=by rw [et,avD,zA]
def avF (s:Mx×List Nat) (c:Nat):(kG s c).1.length=s.1.length:=by
 unfold kG;split
 ·simp only [rY,zF]
 ·rfl
def qP (m:Mx):∀c,(ax m c).1.length=m.length
 | 0=>rfl
 | c+1=>by rw [ax,avF,qP m c]
def wid (w:Nat) (m:Mx):Prop:=∀i,i<m.length->(gR m i).length=w
def wid.set {w:Nat} {m:Mx} {r:List Rat} (h:wid w m) (i:Nat) (hr:r.length=w):wid w (m.set i r):=fun j hj=>by
 rw [ve] at hj;rw [nV];split
 ·grind
 ·exact h j hj
def wid.cz {w:Nat} {m:Mx} (h:wid w m) {i j:Nat} (hi:i<m.length) (hj:j<m.length):wid w (cz m i j):=(h.set i (h j hj)).set j (h i hi)
def wid.AL {w:Nat} {m:Mx} (h:wid w m) {a:Nat} (ha:a<m.length) (c:Nat):wid w (AL m a c):=h.set a (by rw [A8 rfl];exact h a ha)
def wid.qw {w:Nat} {m:Mx} (h:wid w m) {a i:Nat} (ha:a<m.length) (hi:i<m.length) (c:Nat):wid w (qw m a c i):=by
 unfold VE.qw;split
 ·exact h.set i (by rw [A8 ((h i hi).trans (h a ha).symm)];exact h i hi)
 ·exact h
def wid.b8 {w:Nat} {m:Mx} (h:wid w m) {a:Nat} (ha:a<m.length) (c:Nat):∀i,i<=m.length->wid w (b8 m a c i)
 | 0,_=>h
 | i+1,hi=>by
  have ih:=wid.b8 h ha c i (by omega);exact ih.qw (by rw [rY];exact ha) (by rw [rY];omega) c
structure Pv (m:Mx) (w c:Nat) (s:Mx×List Nat):Prop where
 len:s.1.length=m.length
 wid:wid w s.1
 pv:s.2.length<=m.length
 lt:∀p,p∈s.2->p<c
def Pv.bg {m:Mx} {w c:Nat} {s:Mx×List Nat} (h:Pv m w c s) (c':Nat):s.2.length<=bg s c'/\bg s c'<=m.length:=by
 have:=aiX s.1 c' (s.1.length-s.2.length) s.2.length
 have h1:=h.len;have h2:=h.pv;unfold VE.bg;omega
def Pv.et {m:Mx} {w c:Nat} {s:Mx×List Nat} (h:Pv m w c s) {c':Nat} (hp:VE.bg s c'<s.1.length):VE.wid w (et s c'):=by
 have h1:=(h.bg c').1;exact (h.wid.cz (by omega) hp).AL (by rw [zA];omega) c'
def Pv.step {m:Mx} {w c:Nat} {s:Mx×List Nat} (h:Pv m w c s):Pv m w (c+1) (kG s c):=by
 have h1:=(h.bg c).1;have h2:=h.len;unfold kG;split
 ·rename_i hp;refine ⟨by simp only [rY,zF,h2],(h.et hp).b8 (by rw [zF];omega) c _ (by rw [zF];omega),by simp only [yN,yI,yP];omega,fun p hp=>?_⟩;rcases List.mem_append.1 hp with hp | hp
  ·have:=h.lt p hp;omega
  ·grind
 ·exact ⟨h2,h.wid,h.pv,fun p hp=>by have:=h.lt p hp;omega⟩
def pq {m:Mx} {w:Nat} (h:wid w m):∀c,Pv m w c (ax m c)
 | 0=>⟨rfl,h,ue _,fun p hp=>by cases hp⟩
 | c+1=>(pq h c).step
def atm {s:Mx×List Nat} (h:s.2.length=s.1.length) (c:Nat):kG s c=s:=by
 have:¬bg s c<s.1.length:=by
  unfold bg;rw [h,ybF];simp [kF]
 unfold kG;rw [yD this]
def aeo {m:Mx} {c:Nat} (h:(ax m c).2.length=m.length):∀d,ax m (c+d)=ax m c
 | 0=>rfl
 | d+1=>by
  have ih:=aeo h d;rw [<-Nat.add_assoc,ax,ih];exact atm (by rw [h,qP]) _
def ahE {m:Mx} {a c:Nat}:∀{n:Nat},n<=m.length->∀j,gR (b8 m a c n) j=if j<n/\j≠a/\cE (gR m j) c≠0 then de (gR m j) (gR m a) 1 (-(cE (gR m j) c)) else gR m j
 | 0,_,j=>by rw [yD (by omega)];rfl
 | n+1,hn,j=>by
  have ih:=ahE (m:=m) (a:=a) (c:=c) (n:=n) (by omega);have en:gR (b8 m a c n) n=gR m n:=by simp_all
  have ea:gR (b8 m a c n) a=gR m a:=by simp_all
  rw [b8];unfold qw;rw [en,ea];by_cases h:n≠a/\cE (gR m n) c≠0
  ·rw [yT h,nV];by_cases hj:n=j
   ·subst hj;rw [yT ⟨rfl,by rw [rY];omega⟩,yT ⟨by omega,h⟩]
   ·grind
  ·grind
def cx (K:Nat) (m:Mx):Prop:=∀i,i<m.length->∀x,x∈gR m i->Hq K x
def cx.mono {K J:Nat} {m:Mx} (h:cx K m) (hK:K<=J):cx J m:=fun i hi x hx=>(h i hi x hx).mono hK
def cx.set {K:Nat} {m:Mx} {r:List Rat} (h:cx K m) (i:Nat) (hr:∀x,x∈r->Hq K x):cx K (m.set i r):=fun j hj x hx=>by
 rw [ve] at hj;rw [nV] at hx;split at hx
 ·grind
 ·exact h j hj x hx
def CS {r:List Rat} {c:Nat} (h:c<r.length):cE r c∈r:=by rw [jH h];exact yE h
def ahF {a b:List Rat} {x y:Rat} (h:a.length=b.length) {z:Rat} (hz:z∈de a b x y):∃p q,p∈a/\q∈b/\z=p*x+q*y:=by
 obtain ⟨i,hi,rfl⟩:=List.mem_iff_getElem.1 hz;have dS:=hi;rw [A8 h] at dS;exact ⟨_,_,yE dS,yE (h▸dS),Ny dS (h▸dS) hi⟩
def ark {r:List Rat} {t:Rat} {k:Nat} (hr:∀x,x∈r->Hq k x) (ht:Hq k t):∀z,z∈de r r t 0->Hq (2*k) z:=fun z hz=>by
 obtain ⟨p,q,hp,_,rfl⟩:=ahF rfl hz;rw [show p*t+q*0=p*t by grind];exact ((hr p hp).mul ht).mono (by omega)
def atn {r p:List Rat} {t:Rat} {k:Nat} (hl:r.length=p.length) (hr:∀x,x∈r->Hq k x) (hp:∀x,x∈p->Hq (2*k) x) (ht:Hq k t):∀z,z∈de r p 1 (-t)->Hq (4*k+1) z:=fun z hz=>by
 obtain ⟨x,y,hx,hy,rfl⟩:=ahF hl hz;rw [show x*1+y* -t=x+y* -t by grind];exact ((hr x hx).add ((hp y hy).mul ht.neg)).mono (by omega)
def cx.cz {K:Nat} {m:Mx} (h:cx K m) {i j:Nat} (hi:i<m.length) (hj:j<m.length):cx K (cz m i j):=(h.set i (h j hj)).set j (h i hi)
def cx.et {m:Mx} {w c:Nat} {s:Mx×List Nat} (h:Pv m w c s) {k:Nat} (hk:cx k s.1) (hc:c<w) (hp:bg s c<s.1.length):(∀x,x∈gR (et s c) s.2.length->Hq (2*k) x)/\∀i,i<s.1.length->i≠s.2.length->∀x,x∈gR (VE.et s c) i->Hq k x:=by
 have h1:=(h.bg c).1;have hs:=hk.cz (i:=s.2.length) (by omega) hp;have hw:=h.wid.cz (i:=s.2.length) (by omega) hp;unfold VE.et AL;refine ⟨fun x hx=>?_,fun i hi dH x hx=>?_⟩
 ·rw [nV,yT ⟨rfl,by rw [zA];omega⟩] at hx;have hr:=hs s.2.length (by rw [zA];omega);refine ark hr (hr _ (CS ?_)).inv x hx;rw [hw _ (by rw [zA];omega)];exact hc
 ·rw [nV,yD (fun q=>dH q.1.symm)] at hx;exact hs i (by rw [zA];exact hi) x hx
def S5 {m:Mx} {w c a k:Nat} (hw:wid w m) (hc:c<w) (ha:a<m.length) (g1:∀x,x∈gR m a->Hq (2*k) x) (g2:∀i,i<m.length->i≠a->∀x,x∈gR m i->Hq k x) {n:Nat} (hn:n<=m.length):cx (4*k+1) (b8 m a c n):=fun i hi x hx=>by
 rw [rY] at hi;rw [ahE hn] at hx;have wi:=hw i hi;have wa:=hw a ha
 split at hx
 ·rename_i q;exact atn (wi.trans wa.symm) (g2 i hi q.2.1) g1 (g2 i hi q.2.1 _ (CS (by rw [wi];exact hc))) x hx
 ·by_cases rI:i=a
  ·subst rI;exact (g1 x hx).mono (by omega)
  ·exact (g2 i hi rI x hx).mono (by omega)
def cx.step {m:Mx} {w c:Nat} {s:Mx×List Nat} (h:Pv m w c s) {k:Nat} (hk:cx k s.1) (hc:c<w) (sU:1<=k):cx (4*k+1) (kG s c).1:=by
 unfold kG;split
 ·rename_i hp;have h1:=(h.bg c).1;obtain ⟨g1,g2⟩:=hk.et h hc hp;exact S5 (h.et hp) hc (by rw [zF];omega) g1 (fun i hi=>g2 i (by rw [zF] at hi;exact hi)) (by rw [zF];omega)
 ·exact hk.mono (by omega)
def Sx {s:Mx×List Nat} {c:Nat} (h:¬bg s c<s.1.length):kG s c=s:=yD h
def Bv {m:Mx} {w K:Nat} (hw:wid w m) (hk:cx K m) (hK:1<=K):∀c,c<=w->∃k,1<=k/\k+1<=4^(ax m c).2.length*(K+1)/\cx k (ax m c).1
 | 0,_=>⟨K,hK,by simp [ax],hk⟩
 | c+1,hc=>by
  obtain ⟨k,k0,k1,k2⟩:=Bv hw hk hK c (by omega);have hP:=pq hw c;rw [ax];by_cases hp:bg (ax m c) c<(ax m c).1.length
  ·refine ⟨4*k+1,by omega,?_,k2.step hP (by omega) k0⟩
   have:(kG (ax m c) c).2.length=(ax m c).2.length+1:=by unfold kG;rw [yT hp];simp
   rw [this,xd,Nat.mul_right_comm];omega
  ·rw [Sx hp];exact ⟨k,k0,k1,k2⟩
end
section
open Go (IntKind)
section
variable {P:aM} {L:Lib}
def aDa (h:Ck P L) {s:List Nat} (h0:dc s=0):∃r,aj P L 62 [.str s] r/\dI r (fZ s):=by
 obtain ⟨hR,_⟩:=IK h0;have kr:=avB h0 (yv 2400);have hl:=Jy kr;obtain ⟨r,e,hr⟩:=m62 h.toTx (a:=fZ s) (by omega);rw [<-hR] at e;exact ⟨r,e,hr⟩
end
end
section
open Go (IntKind)
def nF:du (.int .i64 0)=some 0:=rfl
def B0:du (.int .i64 1)=some 1:=rfl
def adi:∀{ps:List (List AV)},(∀p,p∈ps->p.length=4)->ps.flatten.length=ps.length*4
 | [],_=>by simp
 | p::ps,h=>by
  have:=adi (ps:=ps) (fun q hq=>h q (List.mem_cons_of_mem _ hq))
  rw [vm,yN,this,h p List.mem_cons_self,yI,Nat.add_mul];omega
def DO (v:AV) (l:List Rat):Prop:=∃cs,v= .aB true l.length cs/\QL cs l
def DO.fs {v:AV} {l:List Rat} (h:DO v l):cI v l:=by
 obtain ⟨cs,rfl,h⟩:=h;exact M6 true h
section
variable {P:aM} {L:Lib}
def aDb (h:Ck P L) (rk:Has P L 161 FP) {v:AV} {l:List (List Nat)} (hv:bm v l) (hl:l.length<=1000000) (hs:∀s,s∈l->s.length<=1000000000):aj P L 161 [v] (ab (cf (l.map dc))):=by
 unfold aj;rw [aI rk];simp only [go_sem,ya,FP,hv.len];have key:=eP (P:=P) (L:=L) (live:=[6,7,8]) (a:=NF)
  (I:=fun k s=>∃i:Nat,s=⟨[(6,v),(7,ab l.length),(8,ab i)],[],0,0⟩/\i+k=l.length/\cf ((l.drop i).map dc)=cf (l.map dc))
  (Q:=fun ex s=>∃tm ct,s=⟨tm,[],ct,0⟩/\((ex= .ret/\af tm 2=ab (cf (l.map dc)))\/(ex= .exit 0/\cf (l.map dc)=0))) ?_
 ·generalize hq:D P L (.loop [6,7,8] NF) _=q;obtain ⟨ex,s,rfl,tm,ct,rfl,h2⟩:=bq hq (key l.length) ⟨0,by simp only [go_sem,ya,av,aq hv.pu,au _ hv.pu]<;>rfl,by omega,by simp⟩
  rcases h2 with ⟨rfl,h2⟩ | ⟨rfl,h2⟩
  ·simp only [go_sem,h2]
  ·rw [h2];simp only [go_sem,av]
 ·rintro k s ⟨i,rfl,hk,hf⟩;simp only [go_sem,ya,NF];by_cases hi:i<l.length
  ·have dS:(i:Int)<l.length:=by omega
   have e1:=m86 h (hs l[i] (yE hi));unfold aj at e1;rw [adh hi] at hf;by_cases hz:dc l[i]=0
   ·left
    rw [hz] at e1;simp only [go_sem,ya,dS,hv.aU hi,e1];refine ⟨_,k-1,rfl,by omega,i+1,?_,by omega,by rw [yT hz] at hf;exact hf⟩
    rw [wrap64 (by omega) (by omega)];simp only [go_sem,ya,av,aq hv.pu,au _ hv.pu]<;>rfl
   ·right
    simp only [go_sem,ya,dS,hv.aU hi,e1,hz];rw [yD hz] at hf;refine ⟨_,_,rfl,by simp,_,_,rfl,.inl ⟨rfl,?_⟩⟩;simp only [go_sem,hf]
  ·right
   have dS:¬(i:Int)<l.length:=by omega
   simp only [go_sem,dS];refine ⟨_,_,rfl,by simp,_,_,rfl,.inr ⟨rfl,?_⟩⟩;rw [<-hf,xh (by omega)];rfl
def aDc (h:Ck P L) (zj:Has P L 88 jf) {v:AV} {l:List (List Nat)} (hv:bm v l) (hl:l.length<=1000000) (hc:∀s,s∈l->dc s=0):∃r,aj P L 88 [v] r/\DO (shut r) (l.map fZ):=by
 have zf:∀n,(yk (n+1) [AV.int .i64 0,.aa,.int .i64 0,.aa]).flatten= .int .i64 0:: .aa:: .int .i64 0:: .aa::(yk n [AV.int .i64 0,.aa,.int .i64 0,.aa]).flatten:=fun n=>by rw [wO,vm];rfl
 have zl:∀n,(yk n [AV.int .i64 0,.aa,.int .i64 0,.aa]).flatten.length=n*4:=fun n=>by
  rw [adi (fun p hp=>by rw [List.eq_of_mem_replicate hp];rfl),List.length_replicate]
 have key:=eP (P:=P) (L:=L) (live:=[3,9,10,11]) (a:=JL)
  (I:=fun k st=>∃(i:Nat) (qs:List AV),i+k=l.length/\QL qs ((l.take i).map fZ)/\st=⟨[(3,.aw 0 0 l.length),(9,v),(10,ab l.length),(11,ab i)],[(0,.cells true true true 4 (qs++(yk (l.length-i) [AV.int .i64 0,.aa,.int .i64 0,.aa]).flatten))],1,0⟩)
  (Q:=fun ex st=>∃tm hp ct qs,QL qs (l.map fZ)/\st=⟨tm,hp,ct,0⟩/\ex= .exit 0/\af tm 3= .aw 0 0 l.length/\ay hp 0=some (.cells true true true 4 qs)) ?_
 ·unfold aj;rw [aI zj];have mk:pL 0 4 64 [AV.int .i64 0,.aa,.int .i64 0,.aa] (some l.length) (some l.length)=some (.aw 0 0 l.length,.cells true true true 4 (yk l.length [AV.int .i64 0,.aa,.int .i64 0,.aa]).flatten):=Bh (by omega) (by omega) (by rfl) (by rfl);simp only [go_sem,ya,yb,jf,hv.len,ML (show (0:Int)<=l.length by omega),xU,mk];generalize hq:D P L (.loop [3,9,10,11] JL) _=q;obtain ⟨ex,st,rfl,tm,hp,ct,qs,lh,rfl,rfl,t3,g0⟩:=bq hq (key l.length) ⟨0,[],by omega,trivial,by simp only [go_sem,ya,yb,av,aq hv.pu,au _ hv.pu]<;>rfl⟩
  have oA:=lh.len;rw [yj] at oA;refine ⟨.bw true 4 l.length qs,?_,?_⟩
  ·simp only [go_sem,yb,av,t3,g0];exact rO (gZ _ _ _) oA (by decide)
  ·exact ⟨qs,by rw [yj];rfl,lh⟩
 ·rintro k st ⟨i,qs,nt,lh,rfl⟩;by_cases hi:i<l.length
  ·left
   obtain ⟨r,e2,hr⟩:=aDa h (hc _ (yE hi));have bJ:=hr;obtain ⟨r1,r2,r3,r4,rfl,gr⟩:=hr.gen;have lq:qs.length=i*4:=by rw [lh.len,yj,yy,xm (by omega)]
   have pr:=gr.LY;have aO:∀(hp:Hp) (ct:Nat),im hp ct 0 (i*4) 4 [r1,r2,r3,r4] (some (.cells true true true 4 (qs++(yk (l.length-i) [AV.int .i64 0,.aa,.int .i64 0,.aa]).flatten)))=some (.ae [],a6 hp 0 (.cells true true true 4 ((qs++[r1,r2,r3,r4])++(yk (l.length-(i+1)) [AV.int .i64 0,.aa,.int .i64 0,.aa]).flatten)),ct):=fun hp ct=>by
    rw [qW (by rfl) (by rw [yN,lq,zl];omega) (by simp [cu,gr.o1,gr.o2,gr.o3,gr.o4])];have hov:over (i*4) [r1,r2,r3,r4] (qs++(yk (l.length-i) [AV.int .i64 0,.aa,.int .i64 0,.aa]).flatten)=(qs++[r1,r2,r3,r4])++(yk (l.length-(i+1)) [AV.int .i64 0,.aa,.int .i64 0,.aa]).flatten:=by
     rw [show l.length-i=(l.length-(i+1))+1 by omega,zf];unfold over;rw [<-lq,uM,show qs.length+[r1,r2,r3,r4].length=qs.length+4 from rfl,<-List.drop_drop,uN];rfl
    rw [hov];simp [aK,pr.1,pr.2.1,pr.2.2.1,pr.2.2.2]
   unfold aj at e2;simp only [go_sem,ya,JL,show (i:Int)<l.length by omega,hv.aU hi,e2,bX,ML (show (0:Int)<=i by omega),xU,bN 0 0 hi,ye,aO];refine ⟨_,k-1,rfl,by omega,i+1,qs++[r1,r2,r3,r4],by omega,?_,?_⟩
   ·rw [yW hi,xg];exact lh.snoc bJ
   ·rw [wrap64 (by omega) (by omega)];simp only [go_sem,ya,yb,av,aq hv.pu,au _ hv.pu]<;>rfl
  ·right
   have:i=l.length:=by omega
   subst this;rw [yC (yv _)] at lh;simp only [go_sem,ya,JL,show ¬(l.length:Int)<l.length by omega,ybF];exact ⟨_,_,rfl,by simp,_,_,_,qs,lh,rfl,rfl,by simp only [go_sem,ya],by simp only [go_sem];simp⟩
end
end
section
open Go (IntKind)
def lyT (w:AV) (hh sc st ox oy wx wy:List Nat):AV:= .agg [w,.str hh,.str sc,.str st,.str ox,.str oy,.str wx,.str wy]
noncomputable def aDd (s:List (List Int)) (hh sc st ox oy wx wy:List Nat):Int:=cf [aqm s,alU hh 0,alU sc 1,dc st,cf [dc ox,dc oy],cf [dc wx,dc wy]]
def Ii {a:Int} {l:List Int}:cf (a::l)=0↔a=0/\cf l=0:=by
 simp only [cf]
 grind
end
section
open Go (IntKind)
structure Lay where
 w:AV
 s:List (List Int)
 hh:List Nat
 sc:List Nat
 st:List Nat
 ox:List Nat
 oy:List Nat
 wx:List Nat
 wy:List Nat
def Lay.cs (a:Lay):List AV:=[a.w,.str a.hh,.str a.sc,.str a.st,.str a.ox,.str a.oy,.str a.wx,.str a.wy]
def Lay.T (a:Lay):AV:=lyT a.w a.hh a.sc a.st a.ox a.oy a.wx a.wy
noncomputable def Lay.E (a:Lay):Int:=aDd a.s a.hh a.sc a.st a.ox a.oy a.wx a.wy
end
section
open Go (IntKind)
def take_set {α:Type} {l:List α} {i:Nat} {a:α} (h:i<l.length):(l.set i a).take (i+1)=l.take i++[a]:=by
 rw [yW (by simpa using h),List.getElem_set_self,List.take_set_of_le (yv i)]
def stS {hp:Hp} {ct id o:Nat} {v:List Nat} {ex:Bool} {l:List (List Nat)} (h:o<l.length):im hp ct id o 1 [.str v] (some (.cells true true ex 1 (l.map .str)))=some (.ae [],a6 hp id (.cells true true ex 1 ((l.set o v).map .str)),ct):=by
 rw [qW (by rfl) (by simp;omega) (by rfl)]
 have:over o [.str v] (l.map .str)=(l.set o v).map .str:=by
  simp only [over,yI,yP,ye];rw [List.map_set,vL,yT (by simpa using h)]
  simp
 rw [this];rfl
def aDe (ct:Nat) {n:Nat} (h:n<=10000000000):pL ct 1 16 [.str []] (some n) (some n)=some (.aw ct 0 n,.cells true true true 1 ((yk n []).map .str)):=by
 rw [Bh (sz:=1) (by omega) (by omega) (by rfl) (by rfl)]
 have:∀n,(yk n [AV.str []]).flatten=(yk n []).map .str:=fun n=>by
  induction n with
  | zero=>rfl
  | succ n ih=>rw [wO,vm,ih,wO,xc];rfl
 rw [this];rfl
def avG (l:List (List Nat)):bm (.aB true l.length (l.map .str)) l:=IX true l
section
variable {P:aM} {L:Lib}
def aDf (h:Has P L 123 J6) (hT:Tx P L) {v:AV} {l:List Rat} {K:Nat} (hv:cI v l) (hl:l.length<=1000000) (hk:∀x,x∈l->Hq K x) (hK:K<=4000000000):∃r,aj P L 123 [v] r/\bm (shut r) (l.map RT):=by
 have key:=eP (P:=P) (L:=L) (live:=[3,9,10,11]) (a:=I7)
  (I:=fun k st=>∃(i:Nat) (out:List (List Nat)),i+k=l.length/\out.length=l.length/\out.take i=(l.take i).map RT/\st=⟨[(3,.aw 0 0 l.length),(9,v),(10,ab l.length),(11,ab i)],[(0,.cells true true true 1 (out.map .str))],1,0⟩)
  (Q:=fun ex st=>∃tm hp ct,st=⟨tm,hp,ct,0⟩/\ex= .exit 0/\af tm 3= .aw 0 0 l.length/\ay hp 0=some (.cells true true true 1 ((l.map RT).map .str))) ?_
 ·unfold aj;rw [aI h];simp only [go_sem,ya,yb,J6,hv.len,ML (show (0:Int)<=l.length by omega),xU,aDe 0 (show l.length<=10000000000 by omega)];generalize hq:D P L (.loop [3,9,10,11] I7) _=q;obtain ⟨ex,st,rfl,tm,hp,ct,rfl,rfl,t3,g0⟩:=bq hq (key l.length) ⟨0,yk l.length [],by omega,by simp,by simp,by simp only [go_sem,ya,yb,av,aq hv.pu,au _ hv.pu]<;>rfl⟩
  refine ⟨.bw true 1 l.length ((l.map RT).map .str),?_,?_⟩
  ·simp only [go_sem,yb,av,t3,g0];exact rO (gZ _ _ _) (by simp) (by decide)
  ·have:=avG (l.map RT)
   rwa [yj] at this
 ·rintro k st ⟨i,out,nt,hlen,FJ,rfl⟩;by_cases hi:i<l.length
  ·left
   obtain ⟨a,b,c,d,r,e1,hx⟩:=hv.aU hi;have e2:=m46 hT hx (hk _ (yE hi)) hK;have gx:=hx.f4;unfold aj at e2
   simp only [go_sem,ya,yb,yf,I7,show (i:Int)<l.length by omega,e1,ol,bj,gx.st,qU,gx.an,yK,e2,ML (show (0:Int)<=i by omega),xU,bN 0 0 hi,ye,stS (l:=out) (o:=i) (by omega)];refine ⟨_,k-1,rfl,by omega,i+1,out.set i (RT l[i]),by omega,by simpa using hlen,?_,?_⟩
   ·rw [take_set (by omega),FJ,yW hi,xg];rfl
   ·rw [wrap64 (by omega) (by omega)];simp only [go_sem,ya,yb,av,aq hv.pu,au _ hv.pu]<;>rfl
  ·right
   have:i=l.length:=by omega
   subst this;rw [yC (by omega),yC (yv _)] at FJ;subst FJ;simp only [go_sem,ya,I7,show ¬(l.length:Int)<l.length by omega];exact ⟨_,_,rfl,by simp,_,_,_,rfl,rfl,by simp only [go_sem,ya],by simp only [go_sem]⟩
end
end
section
open Go (IntKind)
noncomputable def Lay.low (sh:List Nat) (a:Lay):Bool:=azi (fZ sh) (fZ a.hh)
def RJ {α:Type} {f:α->Int}:∀{l:List α},cf (l.map f)=0->∀a,a∈l->f a=0
 | [],_,_,h=>by cases h
 | x::l,h,a,ha=>by
  rw [xc,Ii] at h;rcases List.mem_cons.1 ha with rfl | ha
  ·grind
  ·exact RJ h.2 a ha
end
section
open Go (IntKind)
def b7.snoc {α β:Type} {p:α->β->Prop}:∀{l:List α} {m:List β} {a:α} {b:β},b7 p l m->p a b->b7 p (l++[a]) (m++[b])
 | [],[],_,_,_,h=>⟨h,trivial⟩
 | _::_,_::_,_,_,h,k=>⟨h.1,b7.snoc h.2 k⟩
end
section
open Go (IntKind)
def bB {β:Type} (p:AV->β->Prop) (v:AV) (M:List β):Prop:=∃rows,cW v rows/\b7 p rows M
section
variable {β:Type} {p:AV->β->Prop} {v:AV} {s:List β}
def bB.len (h:bB p v s) {hp:Hp}:fE hp 1 v=some (.int .i64 (s.length:Nat)):=by
 obtain ⟨rows,h1,h2⟩:=h;rw [<-h2.len];exact h1.len
def bB.pu (h:bB p v s):a7 v=true:=by obtain ⟨rows,h1,h2⟩:=h;exact h1.pu
def bB.an (h:bB p v s) (n:Nat) {hp:Hp}:freeze (n+1) hp v=some (v,hp):=by obtain ⟨rows,h1,h2⟩:=h;exact h1.an n
def bB.shut (h:bB p v s):VE.shut v=v:=by obtain ⟨rows,h1,h2⟩:=h;exact h1.shut
def bB.bQ (h:bB p v s):VE.bQ v=v:=by obtain ⟨rows,h1,h2⟩:=h;exact h1.bQ
def bB.fO (h:bB p v s) {hp:Hp}:result hp v=some v:=by obtain ⟨rows,h1,h2⟩:=h;exact h1.fO
def bB.one (h:bB p v s):dt v=true:=by obtain ⟨rows,h1,h2⟩:=h;exact h1.one
def bB.cells (h:bB p v s):cellsOf v=[v]:=by obtain ⟨rows,h1,h2⟩:=h;exact h1.cells
def bB.aU (h:bB p v s) {i:Nat} (hi:i<s.length):∃r rest,p r s[i]/\j0 1 i v=some (.cg (r::rest)):=by
 obtain ⟨rows,h1,h2⟩:=h;have dS:i<rows.length:=by rw [h2.len];exact hi
 exact ⟨_,_,h2.get dS hi,h1.aU dS⟩
def rT:bB p .aa []:=⟨[],oW,trivial⟩
def rV (e:Bool) {rows:List AV} (h:b7 p rows s):bB p (.aB e s.length rows) s:=by
 have:=ET e rows
 rw [h.len] at this;exact ⟨rows,this,h⟩
end
noncomputable def mJ (w:Nat) (r:List (List Nat)):Int:=cf [if r.length=0 then 12 else 0,if 64<r.length then 5 else 0,if r.length=w then 0 else 2,cf (r.map dc)]
noncomputable def fe (M:List (List (List Nat))):Int:=if M.length=0 then 12 else if 64<M.length then 5 else cf (M.map (mJ (M.getD 0 []).length))
def JT {β:Type} {M:List (List β)} (h:0<M.length):M.getD 0 []=M[0]:=by simp_all
def oV (id:Nat):Nat->AV
 | 0=> .aa
 | n+1=> .aw id 0 (n+1)
def oH (id z:Nat) (cs:List AV) (r:Hp):Nat->Hp
 | 0=>r
 | _+1=>(id,.cells true true false z cs)::r
def oC (id:Nat):Nat->Nat
 | 0=>id
 | _+1=>id+1
section
variable {P:aM} {L:Lib}
def aDg (h:Ck P L) (rk:Has P L 161 FP) (Am:Has P L 126 J7) {v r:AV} {M:List (List (List Nat))} {l:List (List Nat)} (hv:bB bm v M) (hM:0<M.length) (hr:bm r l) (hl:l.length<=1000000) (hs:∀s,s∈l->s.length<=1000000000):aj P L 126 [r,.cg [v]] (ab (mJ (M.getD 0 []).length l)):=by
 obtain ⟨r0,rest,h0,e0⟩:=hv.aU (i:=0) hM;rw [JT hM];have e1:=nl h.pO (decide ((l.length:Int)=0)) 12;have e2:=nl h.pO (decide ((64:Int)<l.length)) 5;have e3:=nl h.pO (!decide ((l.length:Int)=(M[0].length:Nat))) 2;have e4:=aDb h rk hr hl hs;have q1:(if decide ((l.length:Int)=0)=true then (12:Int) else 0)=if l.length=0 then 12 else 0:=by
  simp only [xW];split<;>omega
 have q2:(if decide ((64:Int)<l.length)=true then (5:Int) else 0)=if 64<l.length then 5 else 0:=by
  simp only [xW];split<;>omega
 have q3:(if (!decide ((l.length:Int)=(M[0].length:Nat)))=true then (2:Int) else 0)=if l.length=M[0].length then 0 else 2:=by
  simp only [Bool.not_eq_true',vQ];split<;>omega
 rw [q1] at e1;rw [q2] at e2;rw [q3] at e3;have e5:aj P L 125 _ _:=Nd.PQ h.PR (ma true [if l.length=0 then (12:Int) else 0,if 64<l.length then 5 else 0,if l.length=M[0].length then 0 else 2,cf (l.map dc)]) (by simp);unfold mJ;simp only [yI,yP,xc,vv] at e5;unfold aj at e1 e2 e3 e4 e5 ⊢;rw [aI Am];simp only [go_sem,ya,yb,yF,yp,yf,J7,hr.len,hr.an,e1,e2,nF,e0,h0.len,e3,e4,e5]
def aDh (An:Has P L 127 J8) {v:AV} {M:List (List (List Nat))} (hv:bB bm v M) (hl:M.length<=1000000) {g:Nat} {cap:List AV} (hc:aK cap=true) (hz:∀(n:Nat) (hp:Hp),cO (n+900) hp cap=some (cap,hp)) {f:List (List Nat)->Int} (hg:∀w a,a∈M->bm w a->aj P L g (w::cap) (ab (f a))):aj P L 127 [v,.fn (.f g) [] cap] (ab (cf (M.map f))):=by
 have pf:a7 (.fn (.f g) [] cap)=true:=by simp [a7,aK,hc]
 have key:=eP (P:=P) (L:=L) (live:=[1,8,9,10]) (a:=NE)
  (I:=fun k s=>∃i:Nat,s=⟨[(1,.fn (.f g) [] cap),(8,v),(9,ab M.length),(10,ab i)],[],0,0⟩/\i+k=M.length/\cf ((M.drop i).map f)=cf (M.map f))
  (Q:=fun ex s=>∃tm ct,s=⟨tm,[],ct,0⟩/\((ex= .ret/\af tm 4=ab (cf (M.map f)))\/(ex= .exit 0/\cf (M.map f)=0))) ?_
 ·unfold aj;rw [aI An];simp only [go_sem,ya,J8,hv.len];generalize hq:D P L (.loop [1,8,9,10] NE) _=q;obtain ⟨ex,s,rfl,tm,ct,rfl,h2⟩:=bq hq (key M.length) ⟨0,by simp only [go_sem,ya,av,aq hv.pu,au _ hv.pu,aq pf,au _ pf]<;>rfl,by omega,by simp⟩
  rcases h2 with ⟨rfl,h2⟩ | ⟨rfl,h2⟩
  ·simp only [go_sem,h2]
  ·rw [h2];simp only [go_sem,av]
 ·rintro k s ⟨i,rfl,hk,hf⟩;simp only [go_sem,ya,NE];by_cases hi:i<M.length
  ·have dS:(i:Int)<M.length:=by omega
   obtain ⟨r,rest,hr,e0⟩:=hv.aU hi;have e1:=hg r _ (yE hi) hr;rw [yS hi,xc] at hf;simp only [cf] at hf;by_cases fq:f M[i]=0
   ·left
    rw [fq] at e1;simp only [go_sem,ya,dS,e0,hr.an,hz,e1];refine ⟨_,k-1,rfl,by omega,i+1,?_,by omega,by rw [yT fq] at hf;exact hf⟩
    rw [wrap64 (by omega) (by omega)];simp only [go_sem,ya,av,aq hv.pu,au _ hv.pu,aq pf,au _ pf]<;>rfl
   ·right
    simp only [go_sem,ya,dS,e0,hr.an,hz,e1,fq];rw [yD fq] at hf;refine ⟨_,_,rfl,by simp,_,_,rfl,.inl ⟨rfl,?_⟩⟩;simp only [go_sem,hf]
  ·right
   have dS:¬(i:Int)<M.length:=by omega
   simp only [go_sem,dS];refine ⟨_,_,rfl,by simp,_,_,rfl,.inr ⟨rfl,?_⟩⟩;rw [<-hf,xh (by omega)];rfl
def LZ (h:Ck P L) (rk:Has P L 161 FP) (Am:Has P L 126 J7) (An:Has P L 127 J8) (Ep:Has P L 84 p6) {v:AV} {M:List (List (List Nat))} (hv:bB bm v M) (hl:M.length<=1000000) (hr:∀r,r∈M->r.length<=1000000/\∀s,s∈r->s.length<=1000000000):aj P L 84 [v] (ab (fe M)):=by
 have e1:=nl h.pO (decide ((M.length:Int)=0)) 12;have e2:=nl h.pO (decide ((64:Int)<M.length)) 5;have e3:∀a b:Int,aj P L 125 _ _:=fun a b=>Nd.PQ h.PR (ma true [a,b]) (by simp)
 unfold fe;unfold aj at e1 e2 e3 ⊢;rw [aI Ep];by_cases h0:M.length=0
 ·rw [yT h0];rw [show decide ((M.length:Int)=0)=true by simp only [xW];omega] at e1;rw [show decide ((64:Int)<M.length)=false by simp only [vQ];omega] at e2;have e4:bP P L (D P L) 125 [.aB true 2 [ab 12,ab 0]]=some (ab 12):=e3 12 0;simp only [xD,yL,xi] at e1 e2;simp only [go_sem,ya,yb,yF,yp,yf,p6,hv.len,hv.pu,hv.one,hv.cells,N4,show (M.length:Int)=0 by omega,yr,show ¬(64:Int)<0 by omega,ym,e1,e2,e4,vP,yM]
 rw [yD h0];rw [show decide ((M.length:Int)=0)=false by simp only [vQ];omega] at e1;by_cases Ej:64<M.length
 ·rw [yT Ej];rw [show decide ((64:Int)<M.length)=true by simp only [xW];omega] at e2;have e4:bP P L (D P L) 125 [.aB true 2 [ab 0,ab 5]]=some (ab 5):=e3 0 5;simp only [xD,yL,xi] at e1 e2;simp only [go_sem,ya,yb,yF,yp,yf,p6,hv.len,hv.pu,hv.one,hv.cells,N4,show ¬(M.length:Int)=0 by omega,yr,show (64:Int)<(M.length:Int) by omega,ym,e1,e2,e4,vP,yM]
 ·rw [yD Ej];rw [show decide ((64:Int)<M.length)=false by simp only [vQ];omega] at e2;have e4:bP P L (D P L) 125 [.aB true 2 [ab 0,ab 0]]=some (ab 0):=e3 0 0;have e5:=aDh An hv hl (g:=126) (cap:=[.cg [v]]) rfl (fun _ _=>rfl) (fun w a ha hw=>aDg h rk Am hv (by omega) hw (hr a ha).1 (hr a ha).2);simp only [yL,xi] at e1 e2;simp only [go_sem,ya,yb,yF,yp,yf,p6,hv.len,hv.pu,hv.an,hv.one,hv.cells,N4,show ¬(M.length:Int)=0 by omega,show ¬(64:Int)<(M.length:Int) by omega,ym,e1,e2,e4,e5,yr,yO]
end
end
section
open Go (IntKind)
def b7.take {α β:Type} {p:α->β->Prop}:∀{l:List α} {m:List β} (i:Nat),b7 p l m->b7 p (l.take i) (m.take i)
 | [],[],i,_=>by simp [b7]
 | _::_,_::_,0,_=>trivial
 | _::_,_::_,i+1,h=>⟨h.1,b7.take i h.2⟩
def b7.set {α β:Type} {p:α->β->Prop}:∀{l:List α} {m:List β} (i:Nat) {a:α} {b:β},b7 p l m->p a b->b7 p (l.set i a) (m.set i b)
 | [],[],i,_,_,_,_=>by simp [b7]
 | _::_,_::_,0,_,_,h,k=>⟨k,h.2⟩
 | _::_,_::_,i+1,_,_,h,k=>⟨h.1,b7.set i h.2 k⟩
section
variable {P:aM} {L:Lib}
def aA4 (h:Ck P L) (zj:Has P L 88 jf) (BY:Has P L 225 Kf) {v:AV} {M:List (List (List Nat))} (hv:bB bm v M) (hl:M.length<=1000000) (hr:∀r,r∈M->r.length<=1000000/\∀s,s∈r->dc s=0):∃r,aj P L 225 [v] r/\bB DO (shut r) (M.map (xv fZ)):=by
 have key:=eP (P:=P) (L:=L) (live:=[3,6,7,8]) (a:=Fc)
  (I:=fun k st=>∃(i:Nat) (rows:List AV),i+k=M.length/\b7 DO rows ((M.take i).map (xv fZ))/\st=⟨[(3,oV 0 i),(6,v),(7,ab M.length),(8,ab i)],oH 0 1 rows [] i,oC 0 i,0⟩)
  (Q:=fun ex st=>∃tm ct rows,st=⟨tm,oH 0 1 rows [] M.length,ct,0⟩/\ex= .exit 0/\af tm 3=oV 0 M.length/\b7 DO rows (M.map (xv fZ))) ?_
 ·unfold aj;rw [aI BY];simp only [go_sem,ya,Kf,hv.len];generalize hq:D P L (.loop [3,6,7,8] Fc) _=q;obtain ⟨ex,st,rfl,tm,ct,rows,rfl,rfl,t3,hR⟩:=bq hq (key M.length) ⟨0,[],by omega,trivial,by simp only [go_sem,ya,av,aq hv.pu,au _ hv.pu]<;>rfl⟩
  have hlen:=hR.len;rw [yj] at hlen
  cases hn:M.length with
  | zero=>
   rw [hn] at t3;refine ⟨.aa,by simp only [go_sem,av,t3,oV,oH],?_⟩;rw [yo hn];exact rT
  | succ n=>
   rw [hn] at t3 hlen;refine ⟨.bw false 1 (n+1) rows,?_,?_⟩
   ·simp only [go_sem,yb,av,t3,oV,oH];exact rO (gZ _ _ _) (by rw [hlen,yf]) (by decide)
   ·have:=rV false hR
    rwa [yj,hn] at this
 ·rintro k st ⟨i,rows,hk,hR,rfl⟩;by_cases hi:i<M.length
  ·left
   obtain ⟨r,rest,eN,e0⟩:=hv.aU hi;have hm:=hr _ (yE hi);obtain ⟨q,e1,hq⟩:=aDc h zj eN hm.1 hm.2;have lh:=hq.fs;have Cy:b7 DO (rows++[shut q]) ((M.take (i+1)).map (xv fZ)):=by
    rw [yW hi,xg];exact hR.snoc hq
   have hlen:=hR.len;rw [yj,yy,xm (by omega)] at hlen
   cases i with
   | zero=>
    have:rows=[]:=yo hlen
    subst this;simp only [go_sem,ya,yb,xn,yF,yp,yf,Fc,oV,oH,oC,show ((0:Nat):Int)<M.length by omega,e0,eN.an,e1,lh.pu,lh.one,lh.cells,fQ];refine ⟨_,k-1,rfl,by omega,1,_,by omega,Cy,?_⟩;simp only [go_sem,ya,yb,av,aq hv.pu,au _ hv.pu]<;>rfl
   | succ i=>
    simp only [go_sem,ya,yb,yp,yf,Fc,oV,oH,oC,show ((i+1:Nat):Int)<M.length by omega,e0,eN.an,e1,lh.pu,lh.one,lh.cells]
    rw [fC (ex:=false) (pu:=true) (cs:=rows) (by simp only [go_sem,ya]) (by rw [hlen,yf]) (by omega) (by omega) (by decide) (by simp only [go_sem,lh.one])];simp only [go_sem,ya,yb,lh.pu];refine ⟨_,k-1,rfl,by omega,i+1+1,_,by omega,Cy,?_⟩;rw [wrap64 (by omega) (by omega)];simp only [go_sem,ya,yb,av,aq hv.pu,au _ hv.pu]<;>rfl
  ·right
   have:i=M.length:=by omega
   subst this;rw [xB] at hR;simp only [go_sem,ya,Fc,show ¬(M.length:Int)<M.length by omega];exact ⟨_,_,rfl,by simp,_,_,rows,rfl,rfl,by simp only [go_sem,ya],hR⟩
def b7.imp {α β:Type} {p q:α->β->Prop} (h:∀a b,p a b->q a b):∀{l:List α} {m:List β},b7 p l m->b7 q l m
 | [],[],_=>trivial
 | _::_,_::_,⟨h1,h2⟩=>⟨h _ _ h1,b7.imp h h2⟩
def bB.imp {β:Type} {p q:AV->β->Prop} (h:∀a b,p a b->q a b) {v:AV} {s:List β} (hv:bB p v s):bB q v s:=by
 obtain ⟨rows,h1,h2⟩:=hv;exact ⟨rows,h1,h2.imp h⟩
def PV (h:Ck P L) (zj:Has P L 88 jf) (BY:Has P L 225 Kf) {v:AV} {M:List (List (List Nat))} (hv:bB bm v M) (hl:M.length<=1000000) (hr:∀r,r∈M->r.length<=1000000/\∀s,s∈r->dc s=0):∃r,aj P L 225 [v] r/\bB cI (shut r) (M.map (xv fZ)):=by
 obtain ⟨r,h1,h2⟩:=aA4 h zj BY hv hl hr;exact ⟨r,h1,h2.imp fun _ _ h=>h.fs⟩
def alX (h:Fr' P L) (pR:Has P L 240 Dz) {u v vx vy:AV} {a b:List Rat} {x y:Rat} {K:Nat} (hu:cI u a) (hv:cI v b) (hx:dI vx x) (hy:dI vy y) (hl:a.length=b.length) (hn:a.length<=1000000) (ka:∀z,z∈a->Hq K z) (kb:∀z,z∈b->Hq K z) (kx:Hq K x) (ky:Hq K y) (hK:K<=2000000000):∃r,aj P L 240 [u,v,vx,vy] r/\cI (shut r) (de a b x y):=by
 have lc:=A8 (x:=x) (y:=y) hl;obtain ⟨x1,x2,x3,x4,rfl,gx⟩:=hx.gen;obtain ⟨y1,y2,y3,y4,rfl,gy⟩:=hy.gen;have key:=eP (P:=P) (L:=L) (live:=[0,1,6,7,9,12,13]) (a:=Fg)
  (I:=fun k st=>∃(i:Nat) (cs:List AV),i+k=a.length/\QL cs ((de a b x y).take i)/\st=⟨[(0,u),(1,v),(6,.ptr 0 0),(7,.ptr 1 0),(9,oV 2 i),(12,ab a.length),(13,ab i)],oH 2 4 cs [(1,.cells true true true 4 [y1,y2,y3,y4]),(0,.cells true true true 4 [x1,x2,x3,x4])] i,oC 2 i,0⟩)
  (Q:=fun ex st=>∃tm ct cs,st=⟨tm,oH 2 4 cs [(1,.cells true true true 4 [y1,y2,y3,y4]),(0,.cells true true true 4 [x1,x2,x3,x4])] a.length,ct,0⟩/\ex= .exit 0/\af tm 9=oV 2 a.length/\QL cs (de a b x y)) ?_
 ·unfold aj;rw [aI pR];simp only [go_sem,ya,yb,Dz,hu.len,gx.bx,gy.bx];generalize hq:D P L (.loop [0,1,6,7,9,12,13] Fg) _=q;obtain ⟨ex,st,rfl,tm,ct,cs,rfl,rfl,t9,hQ⟩:=bq hq (key a.length) ⟨0,[],by omega,trivial,by simp only [go_sem,ya,yb,av,aq hu.pu,au _ hu.pu,aq hv.pu,au _ hv.pu]<;>rfl⟩
  have hlen:=hQ.len;rw [lc] at hlen
  cases hn:a.length with
  | zero=>
   rw [hn] at t9;refine ⟨.aa,by simp only [go_sem,av,t9,oV,oH],?_⟩;rw [yo (lc.trans hn)];exact arj
  | succ n=>
   rw [hn] at t9 hlen;refine ⟨.bw false 4 (n+1) cs,?_,?_⟩
   ·simp only [go_sem,yb,av,t9,oV,oH];exact rO (gZ _ _ _) hlen (by decide)
   ·have:=M6 false hQ
    rwa [lc,hn] at this
 ·rintro k st ⟨i,cs,hk,hQ,rfl⟩;by_cases hi:i<a.length
  ·left
   obtain ⟨p1,p2,p3,p4,pr,e1,hp⟩:=hu.aU hi;obtain ⟨q1,q2,q3,q4,qr,e2,hq⟩:=hv.aU (i:=i) (by omega);have kp:=ka _ (yE hi);have kq:=kb _ (yE (show i<b.length by omega));obtain ⟨s,e3,hs⟩:=m49 h hp hx kp kx (by omega);obtain ⟨t,e4,ht⟩:=m49 h hq hy kq ky (by omega);obtain ⟨z,e5,hz⟩:=m74 h hs ht ((kp.mul kx).mono (show K+K<=2*K by omega)) ((kq.mul ky).mono (show K+K<=2*K by omega)) (by omega);have fq:=hz;obtain ⟨s1,s2,s3,s4,rfl,gs⟩:=hs.gen;obtain ⟨t1,t2,t3,t4,rfl,gt⟩:=ht.gen;obtain ⟨z1,z2,z3,z4,rfl,gz⟩:=hz.gen;have gp:=hp.f4;have gq:=hq.f4;have bz:∀q,qX q [AV.int .i64 0,.aa,.int .i64 0,.aa] 0 4 [z1,z2,z3,z4] []=fill q [z1,z2,z3,z4] []:=fun q=>aiW gz.o1 gz.o2 gz.o3 gz.o4
   obtain ⟨py1,py2,py3,py4⟩:=gz.LY;have pY:aK [z1,z2,z3,z4]=true:=by simp only [aK,py1,py2,py3,py4,wT]
   unfold aj at e3 e4 e5;have rJ:QL (cs++[z1,z2,z3,z4]) ((de a b x y).take (i+1)):=by
    rw [yW (by omega),Ny hi (by omega)];exact hQ.snoc fq
   have hlen:=hQ.len;rw [yy,lc,xm (by omega)] at hlen
   cases i with
   | zero=>
    have:cs=[]:=yo (by omega)
    subst this;simp only [go_sem,ya,yb,xn,yF,yp,Fg,oV,oH,oC,show ((0:Nat):Int)<a.length by omega,e1,e2,ol,qU,gx.an,gy.an,gp.an,gq.an,e3,e4,bX,gs.an,gt.an,e5,bz,py1,py2,py3,py4,wT,Oa,fQ];refine ⟨_,k-1,rfl,by omega,1,_,by omega,rJ,?_⟩;rw [wrap64 (by omega) (by omega)];simp only [go_sem,ya,yb,av,aq hu.pu,au _ hu.pu,aq hv.pu,au _ hv.pu]<;>rfl
   | succ i=>
    simp only [go_sem,ya,yb,xn,Fg,oV,oH,oC,show ((i+1:Nat):Int)<a.length by omega,e1,e2,ol,qU,gx.an,gy.an,gp.an,gq.an,e3,e4,bX,gs.an,gt.an,e5,bz,py1,py2,py3,py4,wT,Oa]
    rw [fC (ex:=false) (pu:=true) (cs:=cs) (by simp only [go_sem,ya]) hlen (by omega) (by omega) (by decide) (by simp only [go_sem,gz.o1,gz.o2,gz.o3,gz.o4])];simp only [go_sem,ya,yb,pY];refine ⟨_,k-1,rfl,by omega,i+1+1,_,by omega,rJ,?_⟩;rw [wrap64 (by omega) (by omega)];simp only [go_sem,ya,yb,av,aq hu.pu,au _ hu.pu,aq hv.pu,au _ hv.pu]<;>rfl
  ·right
   have:i=a.length:=by omega
   subst this;rw [yC (by omega)] at hQ;simp only [go_sem,ya,Fg,show ¬(a.length:Int)<a.length by omega];exact ⟨_,_,rfl,by simp,_,_,cs,rfl,rfl,by simp only [go_sem,ya],hQ⟩
end
end
section
open Go (IntKind)
def alY (a:Rat):decide (cX a.num=0)=decide (a=0):=by
 have:cX a.num=0↔a=0:=by
  rw [<-yaT];unfold cX
  grind
 grind
def Bw {rows:List AV} {p:Nat} (h:p<rows.length):vT p rows=rows[p]::vT (p+1) rows:=by simp_all
def Bx {hp:Hp} {ct id at_:Nat} {ex:Bool} {r:AV} {rows:List AV} (h:at_<rows.length) (h1:dt r=true) (h2:a7 r=true):im hp ct id at_ 1 [r] (some (.cells true true ex 1 rows))=some (.ae [],a6 hp id (.cells true true ex 1 (rows.set at_ r)),ct):=by
 rw [qW (by rfl) (by omega) (by simp [cu,h1])]
 have:over at_ [r] rows=rows.set at_ r:=by
  simp only [over,yI,yP,ye];rw [vL,yT h]
  simp
 rw [this];simp [aK,h2]
def adj {hp:Hp} {id n h:Nat} {rw' pu ex:Bool} {cs:List AV} {tm:Env} {y:X} (hg:ay hp id=some (.cells rw' pu ex 1 cs)) (hy:du (aF tm y)=some h) (h2:h<=n):
  fg hp (.sl 1) (.aw id 0 n) tm none (some y)=some (.aw id 0 h):=by
 have e1:df tm 0 none=some 0:=rfl;have e2:df tm n (some y)=some h:=hy;have e3:(yx 0 h&& !true)=false:=by simp_all
 simp only [fg,hg,e1,e2,yu (ue h),yu h2,wP,wT,yA,e3,yV,tQ,y5,Nat.sub_zero]
def PW (hp:Hp) (ct sz:Nat) (q:Option (Nat×List AV)) (d:AV):gF:=
 match q,d with
 | some (m,new),.aw id o n=>
  match ay hp id with
  | some (.cells true pu ex z cs)=>
   bif yx z sz&&(yG (o+n*sz) cs.length&&cu new) then
    some (.int .i64 (min m n:Nat),a6 hp id (.cells true (pu&&aK new) ex z (over o (new.take (min m n*sz)) cs)),ct)
   else none
  | _=>none
 | _,_=>none
def azj {P:aM} {L:Lib} {f:cD} {tm:Env} {hp:Hp} {ct:Nat} (sz:Nat) (d s:X):bf P L f tm hp ct (.mz sz d s)=PW hp ct sz (kJ hp sz (aF tm s)) (aF tm d):=by
 show cP tm hp ct (.mz sz d s)=_
 simp only [cP,PW]
 cases kJ hp sz (aF tm s) with
 | none=>rfl
 | some q=>obtain ⟨m,new⟩:=q;cases aF tm d<;>rfl
def avH {hp:Hp} {ct id n:Nat} {ex:Bool} {cs new:List AV} (hg:ay hp id=some (.cells true true ex 1 cs)) (hl:cs.length=n) (hn:new.length=n) (ho:cu new=true) (ak:aK new=true):PW hp ct 1 (some (n,new)) (.aw id 0 n)=some (.int .i64 n,a6 hp id (.cells true true ex 1 new),ct):=by
 have e:over 0 (new.take (min n n*1)) cs=new:=by
  simp only [over,uK,xC,ye]
  grind
 simp only [PW,hg,wP,ye,yf,hl,yu (yv n),ho,wT,yA,ak,Nat.min_self]
 grind
def arl {rows:List AV} {m:Mx} (h:b7 cI rows m):cu rows=true/\aK rows=true:=by
 induction rows generalizing m with
 | nil=>exact ⟨rfl,rfl⟩
 | cons a r ih=>
  cases m with
  | nil=>exact h.elim
  | cons b s=>
   obtain ⟨h1,h2⟩:=ih h.2;exact ⟨by simp [cu,h1,h.1.one],by simp [aK,h2,h.1.pu]⟩
def apH {rows pvs:List AV} {n k:Nat} (hl:rows.length=n) (hk:k<=n) (hp:pvs.length=k):result [(1,.cells true true false 1 pvs),(0,.cells true true true 1 rows)] (.ae [.aw 0 0 k,.aw 1 0 k])=some (.ae [.bw (yx k n) 1 k (rows.take k),.bw false 1 k pvs]):=by
 have h1:A9 [.aw 0 0 k,.aw 1 0 k]=some [0,1]:=rfl;have e2:yR 0 1=true:=rfl;have g0:ay [(1,Obj.cells true true false 1 pvs),(0,.cells true true true 1 rows)] 0=some (.cells true true true 1 rows):=rfl;have g1:ay (dK [(1,Obj.cells true true false 1 pvs),(0,.cells true true true 1 rows)] 0) 1=some (.cells true true false 1 pvs):=rfl;simp only [result,h1,qM,jY,g0,g1,ye,yf,hl,hp,yu hk,yu (yv k),yA,e2,vj,xY,xP,slice,yK]
 grind
def aoR {rows:List AV} {n:Nat} (hl:rows.length=n) (hn:0<n):result [(0,.cells true true true 1 rows)] (.ae [.aw 0 0 0,.aa])=some (.ae [.bw false 1 0 [],.aa]):=by
 have h1:A9 [.aw 0 0 0,.aa]=some [0]:=rfl;have e2:yR 0 1=true:=rfl;have g0:ay [(0,Obj.cells true true true 1 rows)] 0=some (.cells true true true 1 rows):=rfl;have e3:yx 0 n=false:=hX (by omega);have e4:∀ak,jY deep ak AV.aa=some (.aa,ak):=fun _=>rfl
 simp only [result,h1,qM,e4];simp only [jY,g0,ye,yf,hl,yu (ue n),yA,e2,vj,xY,slice,yK,e3,uK]
def b3 (rows o z:List AV):Hp:=[(2,.cells true true true 4 z),(1,.cells true true true 4 o),(0,.cells true true true 1 rows)]
section
variable {P:aM} {L:Lib}
def azk (h:Fr' P L) {rows o z pv:List AV} {m:Mx} (hR:b7 cI rows m) {w:Nat} (hw:wid w m) {c:Nat} (hc:c<w) {n:Nat} (hn:m.length=n) (e9:n<=1000) {k a W F:Nat}:
  ∀(d:Nat) (st:St),(∃p:Nat,aJ [4,5,6,7,8,9,10,11,24,25] st=⟨[(4,.aw 0 0 n),(5,.fn (.f 240) [] []),(6,.ptr 1 0),(7,.ptr 2 0),(8,oV 3 k),(9,ab c),(10,ab a),(11,ab p),(24,ab W),(25,ab c)],oH 3 1 pv (b3 rows o z) k,oC 3 k,0⟩/\p+d=n/\kF m c d p=F)->
   ∃ex s',D P L (.loop [4,5,6,7,8,9,10,11,24,25] C3) st=some (ex,s')/\∃tm ct,s'=⟨tm,oH 3 1 pv (b3 rows o z) k,ct,0⟩/\ex= .exit 2/\af tm 4= .aw 0 0 n/\af tm 5= .fn (.f 240) [] []/\af tm 6= .ptr 1 0/\af tm 7= .ptr 2 0/\af tm 8=oV 3 k/\af tm 9=ab c/\af tm 10=ab a/\af tm 11=ab F/\af tm 24=ab W/\af tm 25=ab c:=by
 intro dq sq;generalize a8:aJ [4,5,6,7,8,9,10,11,24,25] sq=s0;revert a8 s0 sq dq;apply cY;rintro d st ⟨p,rfl,hpd,hF⟩;have lr:=hR.len;by_cases hp:p<m.length
 ·have fk:p<rows.length:=by omega
  have kD:p<n:=by omega
  have h0:=hR.get fk hp;have wp:=hw p hp;rw [eS hp] at wp;obtain ⟨a1,a2,a3,a4,r,e1,hx⟩:=h0.aU (i:=c) (by omega);have e2:=alr h hx;have gx:=hx.f4;obtain ⟨d,rfl⟩:∃d',d=d'+1:=⟨d-1,by omega⟩;simp only [kF,eS hp,jH (show c<m[p].length by omega)] at hF;have e3:=alY (m[p][c]'(by omega));unfold aj at e2;by_cases hz:m[p][c]'(by omega)=0
  ·left
   rw [yT hz] at hF;rw [xx hz] at e3;cases k
   all_goals
    simp only [oV,oH,oC,b3];simp only [go_sem,ya,yb,yf,C3,show (p:Int)<n by omega,yr,bN 0 0 kD,ye,Bw fk,Dq,e1,ol,qU,gx.an,e2,e3];refine ⟨_,d,rfl,by omega,p+1,?_,by omega,hF⟩;rw [wrap64 (by omega) (by omega)];simp only [go_sem,ya,yb,av]<;>rfl
  ·right
   rw [yD hz] at hF;subst hF;rw [xa hz] at e3;cases k
   all_goals
    simp only [oV,oH,oC,b3];simp only [go_sem,ya,yb,yf,C3,show (p:Int)<n by omega,yr,bN 0 0 kD,ye,Bw fk,Dq,e1,ol,qU,gx.an,e2,e3];exact ⟨_,_,rfl,by simp,_,_,rfl,rfl,by simp only [go_sem,ya],by simp only [go_sem,ya],by simp only [go_sem,ya],by simp only [go_sem,ya],by simp only [go_sem,ya],by simp only [go_sem,ya],by simp only [go_sem,ya],by simp only [go_sem,ya],by simp only [go_sem,ya],by simp only [go_sem,ya]⟩
 ·right
  have:d=0:=by omega
  subst this;simp only [kF] at hF;subst hF;cases k
  all_goals
   simp only [oV,oH,oC,b3];simp only [go_sem,ya,yb,C3,show ¬(p:Int)<n by omega,ym];exact ⟨_,_,rfl,by simp,_,_,rfl,rfl,by simp only [go_sem,ya],by simp only [go_sem,ya],by simp only [go_sem,ya],by simp only [go_sem,ya],by simp only [go_sem,ya],by simp only [go_sem,ya],by simp only [go_sem,ya],by simp only [go_sem,ya],by simp only [go_sem,ya],by simp only [go_sem,ya]⟩
def azl (h:Fr' P L) (pR:Has P L 240 Dz) {o1 o2 o3 o4:AV} {z pv:List AV} {m:Mx} {w:Nat} (hw:wid w m) {c:Nat} (hc:c<w) (mF:w<=1000) {n:Nat} (hn:m.length=n) (e9:n<=1000) {a:Nat} (ha:a<m.length) {K:Nat} (hk:∀i,i<=m.length->cx K (b8 m a c i)) (jV:2<=K) (hK:K<=2000000000) (ho:dI (.agg [o1,o2,o3,o4]) 1) {k W:Nat}:
  ∀(d:Nat) (st:St),(∃(i:Nat) (rows:List AV),aJ [4,5,6,7,8,9,10,24,25,89,90] st=⟨[(4,.aw 0 0 n),(5,.fn (.f 240) [] []),(6,.ptr 1 0),(7,.ptr 2 0),(8,oV 3 k),(9,ab c),(10,ab a),(24,ab W),(25,ab c),(89,ab n),(90,ab i)],oH 3 1 pv (b3 rows [o1,o2,o3,o4] z) k,oC 3 k,0⟩/\i+d=n/\b7 cI rows (b8 m a c i))->
   ∃ex s',D P L (.loop [4,5,6,7,8,9,10,24,25,89,90] C4) st=some (ex,s')/\∃tm ct rows,s'=⟨tm,oH 3 1 pv (b3 rows [o1,o2,o3,o4] z) k,ct,0⟩/\ex= .exit 4/\af tm 4= .aw 0 0 n/\af tm 5= .fn (.f 240) [] []/\af tm 6= .ptr 1 0/\af tm 7= .ptr 2 0/\af tm 8=oV 3 k/\af tm 9=ab c/\af tm 24=ab W/\af tm 25=ab c/\b7 cI rows (b8 m a c n):=by
 intro dq sq;generalize a8:aJ [4,5,6,7,8,9,10,24,25,89,90] sq=s0;revert a8 s0 sq dq;apply cY;rintro d st ⟨i,rows,rfl,hid,hR⟩;have lr:=hR.len;have le:=rY m a c i;have go:=ho.f4;by_cases hi:i<m.length
 ·left
  have QV:i<rows.length:=by omega
  have gI:i<n:=by omega
  have han:a<n:=by omega
  have zk:i<(b8 m a c i).length:=by omega
  have har:a<rows.length:=by omega
  have H7:a<(b8 m a c i).length:=by omega
  have h0:=hR.get QV zk;have hA:=hR.get har H7;have wi:=hw.b8 ha c i (by omega) i zk;have wa:=hw.b8 ha c i (by omega) a H7;have ki:=hk i (by omega) i zk;have kA:=hk i (by omega) a H7;have kH:b8 m a c (i+1)=qw (b8 m a c i) a c i:=rfl;unfold qw at kH;rw [eS zk] at wi ki kH;rw [eS H7] at wa kA kH;obtain ⟨a1,a2,a3,a4,r,e1,hx⟩:=h0.aU (i:=c) (by omega);have e2:=alr h hx;have gx:=hx.f4;have e3:=alY ((b8 m a c i)[i][c]'(by omega));rw [jH (show c<(b8 m a c i)[i].length by omega)] at kH;have kx:=ki _ (yE (show c<(b8 m a c i)[i].length by omega));have w90:IntKind.wrap .i64 ((i:Int)+1)=((i+1:Nat):Int):=wrap64 (by omega) (by omega);unfold aj at e2;by_cases rI:i=a
  ·subst rI;rw [yD (fun q=>q.1 rfl)] at kH;rw [<-kH] at hR;cases k
   all_goals
    simp only [oV,oH,oC,b3];simp only [go_sem,ya,yb,C4,show (i:Int)<n by omega,yr,yO];refine ⟨_,d-1,rfl,by omega,i+1,rows,?_,by omega,hR⟩;rw [w90];simp only [go_sem,ya,yb,av]<;>rfl
  ·by_cases hz:(b8 m a c i)[i][c]'(by omega)=0
   ·rw [yD (fun q=>q.2 hz)] at kH;rw [<-kH] at hR;rw [xx hz] at e3;cases k
    all_goals
     simp only [oV,oH,oC,b3];simp only [go_sem,ya,yb,yf,C4,show (i:Int)<n by omega,yr,show ¬(i:Int)=a by omega,ym,yM,bN 0 0 gI,ye,Bw QV,Dq,e1,ol,qU,gx.an,e2,e3,yO];refine ⟨_,d-1,rfl,by omega,i+1,rows,?_,by omega,hR⟩;rw [w90];simp only [go_sem,ya,yb,av]<;>rfl
   ·rw [yT ⟨rI,hz⟩] at kH;rw [xa hz] at e3;obtain ⟨ng,e4,hng⟩:=als h hx kx (by omega);obtain ⟨y,e5,hy⟩:=alX h pR h0 hA ho hng (by omega) (by omega) ki kA (alV.mono (by omega)) kx.neg hK;obtain ⟨n1,n2,n3,n4,rfl,gn⟩:=hng.gen;have Cy:b7 cI (rows.set i (shut y)) (b8 m a c (i+1)):=by rw [kH];exact hR.set i hy
    unfold aj at e4 e5;cases k
    all_goals
     simp only [oV,oH,oC,b3];simp only [go_sem,ya,yb,yf,C4,show (i:Int)<n by omega,yr,show ¬(i:Int)=a by omega,ym,yM,bN 0 0 gI,bN 0 0 han,ye,Bw QV,Bw har,Dq,e1,ol,iK,yK,gx.an,e2,e3,e4,bX,h0.an,hA.an,go.an,gn.an,e5,hy.cells,Bx QV hy.one hy.pu];refine ⟨_,d-1,rfl,by omega,i+1,_,?_,by omega,Cy⟩;rw [w90];simp only [go_sem,ya,yb,av]<;>rfl
 ·right
  have:i=n:=by omega
  subst this;cases k
  all_goals
   simp only [oV,oH,oC,b3];simp only [go_sem,ya,yb,C4,show ¬(i:Int)<i by omega,ym];exact ⟨_,_,rfl,by simp,_,_,rows,rfl,rfl,by simp only [go_sem,ya],by simp only [go_sem,ya],by simp only [go_sem,ya],by simp only [go_sem,ya],by simp only [go_sem,ya],by simp only [go_sem,ya],by simp only [go_sem,ya],by simp only [go_sem,ya],hR⟩
end
end
end VE
