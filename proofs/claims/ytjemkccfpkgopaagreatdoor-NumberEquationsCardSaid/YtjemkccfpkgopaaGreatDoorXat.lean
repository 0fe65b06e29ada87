import Derived.Test.YtjemkccfpkgopaaGreatDoorXas
import Derived.Test.YtjemkccfpkgopaaGreatDoorXaq
import Derived.Test.YtjemkccfpkgopaaGreatDoorXao
import Derived.Test.YtjemkccfpkgopaaGreatDoorXah
import Derived.Test.YtjemkccfpkgopaaGreatDoorXap
set_option linter.all false
set_option maxRecDepth 100000
open Bool renaming and_eq_true→ye,and_self→xM,and_true→vt,false_and→xX,false_eq_true→yN,not_false→yP,not_true→yM,true_and→xQ,true_eq_false→yas
open Int renaming gcd→vc,natAbs_ediv_of_dvd→uj,natAbs_natCast→wK,reduceEq→uy,tdiv_eq_ediv_of_nonneg→wq,toNat_natCast→xY
open List renaming append_nil→wD,cons_append→xm,drop→ui,drop_eq_getElem_cons→yU,drop_eq_nil_of_le→xe,drop_left→ug,drop_zero→yK,eq_nil_of_length_eq_zero→yx,flatten_cons→vA,getD_eq_getElem?_getD→y7,getElem?_eq_getElem→xU,getElem_cons_zero→xS,getElem_mem→yF,length_append→yL,length_cons→yz,length_drop→xP,length_map→yt,length_nil→yO,length_pos_iff→tg,length_set→yaL,length_take→yI,map→xH,map_append→xu,map_cons→xc,map_nil→vD,nil_append→xG,replicate→ym,replicate_succ→wC,set_eq_take_append_cons_drop→vO,take_left→uf,take_length→xx,take_of_length_le→yG,take_succ_eq_append_getElem→yY,take_zero→tZ
open List.cons renaming injEq→uW
open Nat renaming add_comm→yaO,add_zero→y8,beq→yu,beq_refl→wV,ble→yE,ble_eq_true_of_le→yo,blt→yR,div_eq_of_lt→wS,eq_of_beq_eq_true→yj,eq_zero_or_pos→xk,gcd→wI,gcd_comm→uV,le_of_ble_eq_true→yv,le_refl→yr,le_trans→xi,lt_of_lt_of_le→yT,min_eq_left→xn,mod_eq_of_lt→yW,mul_add→xA,mul_assoc→xj,mul_comm→xE,mul_le_mul_left→yZ,mul_lt_mul''→tS,mul_lt_mul_of_pos_right→wM,mul_one→yh,mul_pos→tW,mul_zero→xB,not_lt_zero→yaR,pow_le_pow_left→vU,pow_le_pow_right→xh,pow_lt_pow_iff_right→tP,pow_succ→xd,reduceAdd→yb,reduceEqDiff→ya,reduceLT→yD,reduceLeDiff→yp,reduceMul→xg,zero_add→yf,zero_le→ud,zero_mul→tN
open Option.some renaming inj→uQ
open Rat renaming divInt→wJ
namespace VE
section
open Go (IntKind)
section
variable {P:aI} {L:Lib}
def ayE (h:Has P L 292 zI) {n:Nat} (hn:n<1000000000):aj P L 292 [ab n,ab 9] (.str (iz 9 n)):=by
 have key:=fM (P:=P) (L:=L) (live:=[0,1,5]) (a:=nP)
  (I:=fun k st=>∃(m:Nat) (s:List Nat),st=⟨[(0,ab m),(1,ab 9),(5,.str s)],[],0,0⟩/\s.length+k=9/\m<10^k/\iz 9 n=iz k m++s)
  (Q:=fun ex st=>∃tm ct,st=⟨tm,[],ct,0⟩/\ex= .exit 0/\ai tm 5= .str (iz 9 n)) ?_
 ·unfold aj;rw [aH h];simp only [go_sem,zI];generalize hq:D P L (.loop [0,1,5] nP) _=q;obtain ⟨ex,st,rfl,tm,ct,rfl,rfl,h2⟩:=bQ hq (key 9) ⟨n,[],by simp only [go_sem,ya,ax]<;>rfl,rfl,by omega,by simp⟩
  simp only [go_sem,ax,h2]
 ·rintro k st ⟨m,s,rfl,hk,hm,hs⟩
  cases k with
  | zero=>
   right
   have hm0:m=0:=by simpa using hm
   subst hm0;simp only [go_sem,ya,nP,show ¬(0:Int)<((0:Nat):Int) by omega,show ¬((s.length:Nat):Int)<9 by omega];refine ⟨_,_,rfl,by simp,_,_,rfl,rfl,?_⟩;rw [hs];rfl
  | succ k=>
   left
   have hr:((m:Int)).tmod 10=((m%10:Nat):Int):=by rw [Int.tmod_eq_emod_of_nonneg (by omega)];rfl
   have hq:((m:Int)).tdiv 10=((m/10:Nat):Int):=by rw [wq (by omega)];rfl
   have hd:=abd (r:=m%10) (by omega);have Kw:m<10000000000:=yT hm (by simpa using xh (show 0<10 by decide) (show k+1<=10 by omega));have fin:∃s',D P L nP ⟨[(0,ab m),(1,ab 9),(5,.str s)],[],0,0⟩=some (.normal,s')/\aS [0,1,5] s'=⟨[(0,ab (m/10:Nat)),(1,ab 9),(5,.str ([48+m%10]++s))],[],0,0⟩:=by
    by_cases hc:(0:Int)<m
    ·simp only [go_sem,ya,yb,nP,hc,iK _ _ _ (show (10:Int)≠0 by decide),fX _ _ _ (show (10:Int)≠0 by decide),hr,hq,wrapN (n:=m%10+1) (by omega),wrap64 (n:=((m/10:Nat):Int)) (by omega) (by omega),eI,dO,show ((m%10:Nat):Int)+1=((m%10+1:Nat):Int) from rfl,hd,gD (a:=[48+m%10]) (b:=s) (by simp;omega)];exact ⟨_,rfl,by simp only [go_sem,ya,ax]⟩
    ·simp only [go_sem,ya,yb,nP,hc,show ((s.length:Nat):Int)<9 by omega,iK _ _ _ (show (10:Int)≠0 by decide),fX _ _ _ (show (10:Int)≠0 by decide),hr,hq,wrapN (n:=m%10+1) (by omega),wrap64 (n:=((m/10:Nat):Int)) (by omega) (by omega),eI,dO,show ((m%10:Nat):Int)+1=((m%10+1:Nat):Int) from rfl,hd,gD (a:=[48+m%10]) (b:=s) (by simp;omega)];exact ⟨_,rfl,by simp only [go_sem,ya,ax]⟩
   obtain ⟨s',f1,f2⟩:=fin;exact ⟨s',k,f1,by omega,m/10,_,f2,by simp;omega,by rw [xd] at hm;omega,by rw [hs];simp [iz]⟩
end
end
section
open Go (IntKind)
def last_pos {l:List Int} (hd:dg l) (hn:nz l) (h:0<l.length):0<l.getD (l.length-1) 0:=by
 rcases snoc l with rfl | ⟨m,a,rfl⟩
 ·grind
 ·have e:(m++[a]).getD ((m++[a]).length-1) 0=a:=by simp_all
  have ha:=lF.1 (gW.1 hd).2;by_cases h0:a=0
  ·subst h0
   have:=LV m
   have e:=congrArg List.length hn;rw [HF] at e
   grind
  ·omega
section
variable {P:aI} {L:Lib}
def ayF (qI:Has P L 292 zI) {neg:Bool} {w:AV} {l:List Int} (hw:bE w l) (hd:dg l) (hn:nz l) (hl:l.length<=20000000000):
  ∀k s,(∃(j:Nat) (t:List Nat),aS [1,3,4] s=⟨[(1,.ptr 0 0),(3,.str t),(4,ab ((j:Int)-1))],[(0,.cells true true true 2 [.bool neg,w])],1,0⟩/\j=k/\j<l.length/\0<dv (l.drop j)/\t=aw (dv (l.drop j))/\t.length<=9*(l.length-j))->
   ∃ex s',D P L (.loop [1,3,4] IC) s=some (ex,s')/\∃tm,s'=⟨tm,[(0,.cells true true true 2 [.bool neg,w])],1,0⟩/\ex= .exit 0/\ai tm 1= .ptr 0 0/\ai tm 3= .str (aw (dv l))/\(aw (dv l)).length<=180000000000:=by
 intro dq sq;generalize bB:aS [1,3,4] sq=s0;revert bB s0 sq dq;apply dI;rintro k s ⟨j,t,rfl,rfl,hj,By,ht,ZR⟩
 cases j with
 | zero=>
  right
  rw [yK] at ht;simp only [go_sem,ya,IC,show ¬(0:Int)<=((0:Nat):Int)-1 by omega];exact ⟨_,_,rfl,by simp,_,rfl,rfl,by simp only [go_sem,ya],by rw [<-ht];simp only [go_sem,ya],by rw [<-ht];omega⟩
 | succ i=>
  left
  have hi:i<l.length:=by omega
  obtain ⟨x,hx⟩:∃x,x=l.getD i 0:=⟨_,rfl⟩;have e1:=qD hw hi;have gx:=gY hd i;rw [<-hx] at e1 gx;obtain ⟨m,rfl⟩:∃m:Nat,x=m:=⟨x.toNat,by omega⟩;have e2:=ayE qI (n:=m) (by omega);unfold aj at e2;have hlp:=Rw 9 m;have ik:dv (l.drop i)=dv (l.drop (i+1))*10^9+m:=by
   have:l.drop i=(m:Int)::l.drop (i+1):=by
    rw [yU hi,hx];simp [y7,xU hi]
   rw [this];simp only [dv,xY];omega
  have aB9:aw (dv (l.drop i))=t++iz 9 m:=by
   rw [ik,Mf 9 _ m By (by omega),ht]
  simp only [go_sem,ya,IC,show ((i+1:Nat):Int)-1=(i:Int) by omega,show (0:Int)<=(i:Int) by omega,b8,yf,db,e1,e2,gD (a:=t) (b:=iz 9 m) (by omega)];refine ⟨_,i,rfl,by omega,i,t++iz 9 m,?_,rfl,by omega,by omega,aB9.symm,by simp;omega⟩;rw [wrap64 (by omega) (by omega)];simp only [go_sem,ya,yb,ax]<;>rfl
def ak5 (h:Has P L 282 Jz) (qI:Has P L 292 zI) {v:AV} {n:Int} {K:Nat} (hK:K<=18000000000) (hv:kz v n) (hn:n.natAbs<1000000000^K):aj P L 282 [v] (.str (aV n))/\(aV n).length<=180000000001:=by
 obtain ⟨w,l,rfl,hw,hd,hz,p0⟩:=hv;have hl:=xi (ju hd hz (by rw [p0];exact hn)) hK
 by_cases h0:l=[]
 ·subst h0;have BL:n=0:=by simp [dv] at p0;omega
  subst BL;refine ⟨?_,by decide⟩;unfold aj;rw [aH h];simp only [go_sem,ya,yb,Jz,bh,hw.len,hw.pu,hw.one,b8,yf,db,yO,show ((0:Nat):Int)=(0:Int) from rfl,yq];rfl
 ·have By:0<l.length:=tg.2 h0;obtain ⟨x,hx⟩:∃x,x=l.getD (l.length-1) 0:=⟨_,rfl⟩;have e1:=qD hw (show l.length-1<l.length by omega);have gx:=gY hd (l.length-1);have gp:=last_pos hd hz By;rw [<-hx] at e1 gx gp;obtain ⟨m,rfl⟩:∃m:Nat,x=m:=⟨x.toNat,by omega⟩;have e2:=XY qI (n:=m) (by omega);have ik:dv (l.drop (l.length-1))=m:=by
   rw [yU (show l.length-1<l.length by omega),xe (by omega)]
   have:l[l.length-1]=(m:Int):=by rw [hx];simp [y7,xU (show l.length-1<l.length by omega)]
   simp [dv,this]
  have h9:(aw m).length<=9:=ru (k:=8) (by omega);have fin:∀neg:Bool,bO P L (D P L) 282 [.agg [.bool neg,w]]=some (.str ((if neg=true then [45] else [])++aw (dv l)))/\(aw (dv l)).length<=180000000000:=fun neg=>by
   rw [aH h]
   simp only [go_sem,ya,yb,Jz,bh,hw.len,hw.pu,hw.one,b8,yf,db,show ¬(l.length:Int)=0 by omega,show (l.length:Int)-1=((l.length-1:Nat):Int) by omega,wrapN (n:=l.length-1) (by omega),e1,e2];generalize hq:D P L (.loop [1,3,4] IC) _=q;obtain ⟨ex,s,rfl,tm,rfl,rfl,t1,t3,hlen⟩:=bQ hq (ayF (P:=P) (L:=L) qI (neg:=neg) hw hd hz (by omega) (l.length-1)) ⟨l.length-1,aw m,by
    rw [show (l.length:Int)-2=((l.length-1:Nat):Int)-1 by omega,wrap64 (by omega) (by omega)]
    simp only [go_sem,ya,yb,ax]<;>rfl,rfl,by omega,by rw [ik];omega,by rw [ik],by omega⟩
   refine ⟨?_,hlen⟩
   cases neg with
   | true=>
    simp only [go_sem,ya,ax,t1,t3,b8,yf,gD (a:=[45]) (b:=aw (dv l)) (by simp;omega),xC]
   | false=>
    simp only [go_sem,ya,ax,t1,t3,b8,yf];rfl
  obtain ⟨f1,f2⟩:=fin (decide (n<0));rw [p0] at f1 f2;simp only [xI] at f1;rw [nI] at f1;refine ⟨f1,?_⟩;rw [<-nI]
  split<;>simp<;>omega
structure Rb (P:aI) (L:Lib):Prop where
 aCa:Has P L 262 Jv
 Bp:Has P L 272 Jy
 ak6:Has P L 274 NR
 ak7:Has P L 275 NS
 aCb:Has P L 277 C7
 aCc:Has P L 280 nW
 aCd:Has P L 281 Tt
 ak8:Has P L 282 Jz
 ak9:Has P L 288 NW
 Kf:Has P L 289 rT
 zQ:Has P L 290 Fe
 XZ:Has P L 291 JB
 qI:Has P L 292 zI
 kQ:Has P L 293 Bi
 jz:Has P L 294 Bj
 Ys:Has P L 295 JC
 od:Has P L 296 rU
 ala:Has P L 298 NX
 pG:Has P L 299 Bk
 cS:Has P L 300 lP
 nm:Has P L 302 rV
structure Ras (P:aI) (L:Lib):Prop extends Rb P L where
 alb:Has P L 264 Jw
 aH1:Has P L 268 ajt
 aH2:Has P L 271 ajv
 aCe:Has P L 276 pz
 Kg:Has P L 278 NT
 aCf:Has P L 279 Fc
 O6:Has P L 297 JD
structure Ra (P:aI) (L:Lib):Prop extends Ras P L where
 alc:Has P L 267 Jx
end
end
section
open Go (IntKind)
section
variable {P:aI} {L:Lib}
def auQ {v w:AV} {a vs:List Int} {f:Int} (hv:bE v a) (hw:bE w vs) {n:Nat} (la:a.length<=9000000000) {A:Nat}:
  ∀k st,(∃us:List Int,aS [0,8,9,10,11] st=⟨[(0,v),(8,.aB 0 0 1),(9,w),(10,ab n),(11,.aB 1 0 us.length)],[(1,.cells true true false 1 (us.map ab)),(0,.cells false true true 1 [ab f])],2,0⟩/\us.length+k=a.length+1/\dg us/\dv us=A)->
   ∃ex st',D P L (.loop [0,8,9,10,11] ID) st=some (ex,st')/\∃tm us,st'=⟨tm,[(1,.cells true true false 1 (us.map ab)),(0,.cells false true true 1 [ab f])],2,0⟩/\ex= .exit 0/\ai tm 8= .aB 0 0 1/\ai tm 9=w/\ai tm 10=ab n/\ai tm 11= .aB 1 0 (a.length+1)/\us.length=a.length+1/\dg us/\dv us=A:=by
 intro dq sq;generalize bB:aS [0,8,9,10,11] sq=s0;revert bB s0 sq dq;apply dI;rintro k st ⟨us,rfl,hk,gu,aP⟩;have ea:((a.length:Nat):Int)+1=((a.length+1:Nat):Int):=rfl;by_cases hi:us.length<a.length+1
 ·left
  simp only [go_sem,ya,yb,yp,yh,ID,hv.len,ea,wrapN (n:=a.length+1) (by omega),show ((us.length:Nat):Int)<((a.length+1:Nat):Int) by omega]
  rw [fY (ex:=false) (pu:=true) (cs:=us.map ab) (by simp only [go_sem,ya]) (by simp) (by omega) (by omega) (by decide) (by simp only [go_sem])];refine ⟨_,k-1,rfl,by omega,us++[0],?_,by simp;omega,gW.2 ⟨gu,lF.2 (by decide)⟩,by rw [mU];simp [dv,aP]⟩;rw [xu,yL];simp only [go_sem,ya,yb,ax,au hv.pu,ay _ hv.pu,au hw.pu,ay _ hw.pu]<;>rfl
 ·right
  have hl:us.length=a.length+1:=by omega
  rw [hl]
  simp only [go_sem,ya,ID,hv.len,ea,wrapN (n:=a.length+1) (by omega),show ¬((a.length+1:Nat):Int)<((a.length+1:Nat):Int) by omega];exact ⟨_,_,rfl,by simp,_,us,rfl,rfl,by simp only [go_sem,ya],by simp only [go_sem,ya],by simp only [go_sem,ya],by simp only [go_sem,ya],hl,gu,aP⟩
end
def aie:∀l:List Int,cy (l.map ab)=true
 | []=>rfl
 | a::r=>by rw [xc,ab4,aie r];rfl
def aif:∀l:List Int,aG (l.map ab)=true
 | []=>rfl
 | a::r=>by rw [xc,aG,aif r];rfl
def auR {hp:Hp} {ct:Nat} {e:Bool} {us:List Int} {o:Obj} (h:us.length<=100000000000):
  rY ((1,.cells true true true 1 [])::(0,o)::hp) ct 1 8 (.aB 1 0 0) (jD ((1,.cells true true true 1 [])::(0,o)::hp) 1 (.aA e us.length (us.map ab)))=some (.aB ct 0 us.length,(ct,.cells true true false 1 (us.map ab))::dP ((1,.cells true true true 1 [])::(0,o)::hp) 1,ct+1):=by
 have h1:jD ((1,.cells true true true 1 [])::(0,o)::hp) 1 (.aA e us.length (us.map ab))=some (us.length,us.map ab):=by
  simp [jD]
 rw [h1,fY (cs:=[]) (pu:=true) (ex:=true) rfl (by simp) (by omega) (by omega) (by decide) (aie us),aif,yf];rfl
def ayG {l:List Int} (hd:dg l) (hn:nz l) (h:0<l.length):1000000000^(l.length-1)<=dv l:=Na hn hd (fun e=>by subst e;simp at h)
def asF {n top f V:Nat} (hf:f=1000000000/(top+1)) (ht0:0<top) (ht:top<1000000000) (h1:V<1000000000^(n-1)*(top+1)) (hn:0<n):0<f/\f<1000000000/\V*f<1000000000^n:=by
 have h2:f*(top+1)<=1000000000:=by rw [hf];exact Nat.div_mul_le_self _ _
 have h3:0<f:=by rw [hf];exact Nat.div_pos (by omega) (by omega)
 refine ⟨h3,?_,?_⟩
 ·have:=yZ f (show 2<=top+1 by omega)
  omega
 ·have e1:=wM h1 h3;have e2:=yZ (1000000000^(n-1)) h2;rw [<-xd,show (n-1).succ=n by omega] at e2
  grind
section
variable {P:aI} {L:Lib}
def ayH (h:Has P L 289 rT) (kQ:Has P L 293 Bi) (pG:Has P L 299 Bk) (cS:Has P L 300 lP) (qJ:Has P L 301 zJ) {v w:AV} {a b:List Int} (hv:bE v a) (hw:bE w b) (ha:dg a) (hb:dg b) (na:nz a) (nb:nz b) (la:a.length<=8000000000) (lb:2<=b.length) (ec:aj P L 296 [v,w] (ab (dR (dv a) (dv b)))) (hc:dv b<=dv a):
  ∃q r lq lr,aj P L 289 [v,w] (.ae [q,r])/\bE q lq/\bE r lr/\dg lq/\nz lq/\dg lr/\nz lr/\dv lq=dv a/dv b/\dv lr=dv a%dv b:=by
 have ef:¬dR (dv a) (dv b)<0:=by unfold dR;rw [yB (by omega)];split<;>decide
 have aAk:=ayG hb nb (by omega);have hba:b.length<=a.length:=by
  have:=jG ha
  have h1:1000000000^(b.length-1)<1000000000^a.length:=by omega
  have:=(tP (show 1<1000000000 by decide)).1 h1
  omega
 obtain ⟨n,hn⟩:∃n,n=b.length:=⟨_,rfl⟩;have aCg:=gY hb (n-1);have qC:=last_pos hb nb (by omega);rw [<-hn] at qC;obtain ⟨top,n7⟩:∃v:Nat,b.getD (n-1) 0=v:=⟨(b.getD (n-1) 0).toNat,by omega⟩;have ald:=qD hw (i:=n-1) (by omega);rw [n7] at aCg qC ald;have hbt:=oX (l:=b) (n-1);rw [show n-1+1=n by omega,yG (by omega),n7,xY] at hbt;have aAl:=jG (Cp hb (n-1));rw [yI,xn (by omega)] at aAl;obtain ⟨f,hf⟩:∃f,f=1000000000/(top+1):=⟨_,rfl⟩;obtain ⟨DS,hfB,hfV⟩:=asF (n:=n) (V:=dv b) hf (by omega) (by omega) (by rw [xA,yh];omega) (by omega);have hIf:bE (.aA true 1 [ab f]) [(f:Int)]:=lE true [(f:Int)];have gf:dg [(f:Int)]:=lF.2 (by omega);have vf:dv [(f:Int)]=f:=by simp [dv]
 obtain ⟨v',vs,e1,eA,hsv,DL,K3,sJ⟩:=Yr kQ cS hw hIf hb gf (by omega) (by simp);obtain ⟨u',B6,e2,jl,DG,Gj,nus,Lf⟩:=Yr kQ cS hv hIf ha gf (by omega) (by simp);rw [vf] at sJ Lf;have nB:0<dv b:=by have:=Nat.pow_pos (n:=b.length-1) (show 0<1000000000 by decide);omega
 have Am:vs.length=n:=by
  have h1:vs.length<=n:=ju DL K3 (by rw [sJ];exact hfV)
  have h2:dv b<=dv vs:=by rw [sJ];exact Nat.le_mul_of_pos_right _ DS
  have h3:=jG DL;have h4:1000000000^(n-1)<1000000000^vs.length:=by rw [hn];omega
  have:=(tP (show 1<1000000000 by decide)).1 h4
  omega
 have PS:B6.length<=a.length+1:=by
  refine ju Gj nus ?_;rw [Lf,xd];exact tS (jG ha) hfB
 have ale:0<B6.length:=by
  rcases xk B6.length with e | e
  ·have h1:0<dv a*f:=tW (by omega) DS;rw [yx e] at Lf;simp only [dv] at Lf;omega
  ·exact e
 have eN:0<vs.getD (n-1) 0:=by
  have:=last_pos DL K3 (by omega)
  rwa [Am] at this
 obtain ⟨m,hm⟩:∃m,m=a.length+1-n:=⟨_,rfl⟩;have cL:∀ct:Nat,qH ct 1 8 [.int .i64 0] (some m) (some m)=some (.aB ct 0 m,.cells true true true 1 ((ym m (0:Int)).map ab)):=fun ct=>by
  rw [CL (sz:=1) (by omega) (by omega) (by rfl) (by rfl),QD];rfl
 obtain ⟨e,rfl⟩:∃e,u'= .aA e B6.length (B6.map ab):=by
  rcases jl with ⟨rfl,h0⟩ | ⟨e,rfl⟩
  ·rw [List.map_eq_nil_iff] at h0;rw [h0] at ale;simp at ale
  ·exact ⟨e,by rw [yt]⟩
 have SW:∀us:List Int,us.length=a.length+1->dv us=dv a*f->dv (us.drop m)<dv vs:=fun us hl hd=>by
  have e1:=RA us m (by omega);have e2:=jG ha;have e3:=wM e2 DS;have e4:1000000000^a.length=1000000000^m*1000000000^(n-1):=by rw [<-Nat.pow_add];congr 1;omega
  rw [<-hd,e4,xj] at e3;have e5:1000000000^m*dv (us.drop m)<1000000000^m*(1000000000^(n-1)*f):=by omega
  refine yT (Nat.lt_of_mul_lt_mul_left e5) ?_;rw [sJ,hn];exact Nat.mul_le_mul_right _ aAk
 have iY:∃us qs,(us.length=a.length+1/\qs.length=m/\dg us/\dg qs/\dv us+dv qs*dv vs=dv a*f/\dv us<dv vs)/\
   ∃q1 r1 lr,bE q1 (dV qs)/\bE r1 lr/\dg lr/\nz lr/\dv lr=dv (us.take n)/f/\aj P L 289 [v,w] (.ae [q1,r1]):=by
  unfold aj at ec e1 e2;unfold aj;rw [aH h];have J6:IntKind.wrap .i64 ((1000000000:Int).tdiv ((top+1:Nat):Int))=(f:Int):=by
   rw [wq (by decide),show (1000000000:Int)/((top+1:Nat):Int)=((1000000000/(top+1):Nat):Int) from rfl,<-hf,wrap64 (by omega) (by omega)]
  simp only [go_sem,ya,yb,yD,yp,yh,rT,hv.ak,hw.len,hw.ak,ec,ef,show ¬(n:Int)=1 by omega,<-hn,show (n:Int)-1=((n-1:Nat):Int) by omega,wrapN (n:=n-1) (by omega),ald,show ((top:Nat):Int)+1=((top+1:Nat):Int) from rfl,wrapN (n:=top+1) (by omega),fX _ _ _ (show ((top+1:Nat):Int)≠0 by omega),J6,e1,hsv,eA.len,Am,e2,DG,auR (us:=B6) (e:=e) (by omega)];generalize bB:D P L (.loop [0,8,9,10,11] ID) _=q0;obtain ⟨ex,st,rfl,tm,us,rfl,rfl,t8,t9,t10,t11,lu,gu,vu⟩:=bQ bB (auQ (P:=P) (L:=L) (f:=(f:Int)) (n:=n) (A:=dv a*f) hv eA (by omega) (a.length+1-B6.length)) ⟨B6,by
   simp only [go_sem,ya,yb,ax,au hv.pu,ay _ hv.pu,au eA.pu,ay _ eA.pu]<;>rfl,by omega,Gj,Lf⟩
  have em:((a.length+1:Nat):Int)-(n:Int)=(m:Int):=by omega
  have em1:(m:Int)-1=((m-1:Nat):Int):=by omega
  simp only [go_sem,ya,yb,ax,au eA.pu,ay _ eA.pu,t8,t9,t10,t11,em,wrapN (n:=m) (by omega),cL,em1,wrapN (n:=m-1) (by omega)];generalize fw:D P L (.loop [8,9,10,11,12,13] IF) _=q1;obtain ⟨ex,st,rfl,sd,B7,qs,rfl,rfl,t8,t10,t11,t12,lu1,K5,gu1,gq1,aP,aX⟩:=bQ fw (auP (P:=P) (L:=L) qJ (f:=(f:Int)) eA DL Am (by omega) (show n<a.length+1 by omega) (by omega) (by omega) eN (U0:=dv a*f) m) ⟨m,us,ym m 0,by
   rw [show ((m-1:Nat):Int)=(m:Int)-1 by omega]
   simp only [go_sem,ya,yb,ax,au eA.pu,ay _ eA.pu]<;>rfl,rfl,yr _,lu,by simp,gu,acV m,fun i _=>abn m i,by rw [acU,tN,y8,vu],SW us lu vu⟩
  have lU:∀(hp:Hp) tm (y:X),aq hp 1=some (.cells true true false 1 (B7.map ab))->cY tm (a.length+1) (some y)=some n->eV hp (.sl 1) (.aB 1 0 (a.length+1)) tm none (some y)=some (.aB 1 0 n):=fun hp tm y h1 h2=>ada h1 h2 (by omega) (by omega)
  obtain ⟨e',K4⟩:∃e',∀hp:Hp,iX 0 n (some (false,1,B7.map ab,hp))=some (.aA e' n ((B7.take n).map ab),hp):=by
   refine ⟨false&&yR 0 1&&yu n (B7.map ab).length,fun hp=>?_⟩;simp only [iX,yf,yh,slice,yK,<-List.map_take];rw [yo (by simp;omega)];rfl
  have ltk:(B7.take n).length=n:=by rw [yI];omega
  have jk:=lE e' (B7.take n);rw [ltk] at jk;obtain ⟨r0,f1,ew,aCh⟩:=Bq cS jk (by omega);obtain ⟨r1,lr,f2,cW,aH3,aAm,dr,nr,vr⟩:=ak1 pG cS ew (AE (Cp gu1 n)) (by have:=LV (B7.take n);omega) DS hfB;have BX:=lE true qs;rw [K5] at BX;obtain ⟨q1,f3,fw,aCi⟩:=Bq cS BX (by omega);rw [sW] at vr;unfold aj at f1 f2 f3;refine ⟨B7,qs,⟨lu1,K5,gu1,gq1,aP,aX⟩,q1,r1,lr,fw,cW,dr,nr,vr,?_⟩;have oA:iN 1 0 (AV.aB 0 0 1)=some (.ptr 0 0):=cM 0 0 (show 0<1 by omega)
  simp only [go_sem,ya,yb,ax,t8,t10,t11,t12,lU,dO,K4,f1,aCh,ew.ak,oA,f2,aAm,fun hp=>lC (hp:=hp) (k:=m) (sz:=1) (cs:=qs.map ab) true (by simp [K5]) (by decide),f3,aCi];rcases fw with ⟨rfl,_⟩ | ⟨_,rfl⟩<;>rcases cW with ⟨rfl,_⟩ | ⟨_,rfl⟩<;>rfl
 obtain ⟨us,qs,⟨lu,lq,gu,gq,aP,aX⟩,q1,r1,lr,fw,cW,dr,nr,vr,e⟩:=iY;rw [sJ] at aP aX;have J6:dv qs=dv a/dv b:=by
  rw [<-Nat.mul_div_mul_right _ _ DS,<-aP,yaO,xE,Nat.mul_add_div (tW nB DS),wS aX,y8]
 have PU:dv us=(dv a%dv b)*f:=by
  rw [<-Nat.mul_mod_mul_right,<-aP,yaO,xE (dv qs),Nat.mul_add_mod,yW aX]
 have jX:=RA us n (by omega);have gA:dv (us.drop n)=0:=by
  rcases xk (dv (us.drop n)) with h0 | h0
  ·exact h0
  ·have:=yZ (1000000000^n) h0
   omega
 rw [gA,xB,y8] at jX;rw [<-jX,PU,Nat.mul_div_cancel _ DS] at vr;exact ⟨q1,r1,_,lr,e,fw,cW,AE gq,Eg _,dr,nr,by rw [sW,J6],vr⟩
def ai0 (h:Has P L 289 rT) (kQ:Has P L 293 Bi) (od:Has P L 296 rU) (pG:Has P L 299 Bk) (cS:Has P L 300 lP) (qJ:Has P L 301 zJ) {v w:AV} {a b:List Int} (hv:bE v a) (hw:bE w b) (ha:dg a) (hb:dg b) (na:nz a) (nb:nz b) (la:a.length<=8000000000) (lb:b.length<=8000000000) (h0:0<dv b):
  ∃q r lq lr,aj P L 289 [v,w] (.ae [q,r])/\bE q lq/\bE r lr/\dg lq/\nz lq/\dg lr/\nz lr/\dv lq=dv a/dv b/\dv lr=dv a%dv b:=by
 by_cases hl:b.length<=1
 ·exact aB3 h od pG cS hv hw ha hb na nb (by omega) hl h0
 have ec:=Yq od hv hw ha hb na nb (by omega) (by omega);by_cases hc:dv a<dv b
 ·unfold aj at ec;have ef:dR (dv a) (dv b)= -1:=by unfold dR;rw [yQ hc]
  rw [ef] at ec;refine ⟨.aa,v,[],a,?_,rq,hv,rfl,rfl,ha,na,?_,?_⟩
  ·unfold aj;rw [aH h];simp only [go_sem,ya,rT,hv.ak,hw.ak,ec,show (-1:Int)<0 by decide];rcases hv with ⟨rfl,_⟩ | ⟨e,rfl⟩<;>rfl
  ·rw [wS hc];rfl
  ·rw [yW hc]
 ·exact ayH h kQ pG cS qJ hv hw ha hb na nb la (by omega) ec (by omega)
def ai1 (h:Has P L 275 NS) (Kf:Has P L 289 rT) (kQ:Has P L 293 Bi) (od:Has P L 296 rU) (pG:Has P L 299 Bk) (cS:Has P L 300 lP) (qJ:Has P L 301 zJ) {v w:AV} {a b:List Int} (hv:bE v a) (hw:bE w b) (ha:dg a) (hb:dg b) (na:nz a) (nb:nz b) (la:a.length<=8000000000) (lb:b.length<=8000000000):
  ∃r l,aj P L 275 [v,w] r/\bE r l/\dg l/\nz l/\dv l=wI (dv a) (dv b):=by
 have key:=fM (P:=P) (L:=L) (live:=[0,1]) (a:=IB)
  (I:=fun k st=>∃x y lx ly,st=⟨[(0,x),(1,y)],[],0,0⟩/\bE x lx/\bE y ly/\dg lx/\nz lx/\dg ly/\nz ly/\lx.length<=8000000000/\ly.length<=8000000000/\dv ly=k/\wI (dv lx) (dv ly)=wI (dv a) (dv b))
  (Q:=fun ex st=>∃tm ct,st=⟨tm,[],ct,0⟩/\ex= .exit 0/\∃x lx,ai tm 0=x/\bE x lx/\dg lx/\nz lx/\dv lx=wI (dv a) (dv b)) ?_
 ·unfold aj;rw [aH h];simp only [go_sem,NS];generalize hq:D P L (.loop [0,1] IB) _=q;obtain ⟨ex,st,rfl,tm,ct,rfl,rfl,x,lx,h2,hx,dx,nx,vx⟩:=bQ hq (key (dv b)) ⟨v,w,a,b,by simp only [go_sem,ya,ax,au hv.pu,ay _ hv.pu,au hw.pu,ay _ hw.pu]<;>rfl,hv,hw,ha,na,hb,nb,la,lb,rfl,rfl⟩
  refine ⟨x,lx,?_,hx,dx,nx,vx⟩;simp only [go_sem,ax,h2,hx.gk,au hx.pu,ay _ hx.pu]
 ·rintro k st ⟨x,y,lx,ly,rfl,hx,hy,dx,nx,dy,ny,llx,lly,rfl,hg⟩;by_cases h0:ly=[]
  ·right
   subst h0;simp only [go_sem,ya,IB,hy.len,yO,show ¬(0:Int)<((0:Nat):Int) by omega];refine ⟨_,_,rfl,by simp,_,_,rfl,rfl,x,lx,by simp only [go_sem,ya],hx,dx,nx,?_⟩;rw [<-hg];simp [dv]
  ·left
   have hp:0<dv ly:=by
    rcases xk (dv ly) with e | e
    ·exact absurd (agr ny dy e) h0
    ·exact e
   have hl:0<ly.length:=tg.2 h0;obtain ⟨q,r,lq,lr,e1,hq,hr,dq,nq,dr,nr,vq,vr⟩:=ai0 Kf kQ od pG cS qJ hx hy dx dy nx ny llx lly hp;have aX:dv lr<dv ly:=by rw [vr];exact Nat.mod_lt _ hp
   have hB:=jG dy;simp only [go_sem,ya,IB,hx.ak,hy.len,hy.ak,show (0:Int)<ly.length by omega,e1,hq.bH,hr.bH];refine ⟨_,dv lr,rfl,aX,y,r,ly,lr,?_,hy,hr,dy,ny,dr,nr,by omega,xi (ju dr nr (Nat.lt_trans aX hB)) lly,rfl,?_⟩
   ·simp only [go_sem,ya,ax,au hy.pu,ay _ hy.pu,au hr.pu,ay _ hr.pu]<;>rfl
   ·rw [<-hg,vr,uV (dv ly),<-Nat.gcd_rec,uV]
end
end
section
open Go (IntKind)
section
variable {P:aI} {L:Lib}
def ayI (zQ:Has P L 290 Fe) {neg:Bool} {N:Nat} (hN:(aw N).length<=180000000000):
  ∀k s,(∃(i m:Nat) (out:List Int),m=k/\out.length=i/\dg out/\dv out+1000000000^i*m=N/\(aw m).length+9*i<=180000000000/\
    ((i=0/\aS [0,2,3,4] s=⟨[(0,.str (aw m)),(2,.ptr 0 0),(3,.bool neg),(4,.aa)],[(0,.cells true true true 2 [.bool false,.aa])],1,0⟩)\/
    (0<i/\aS [0,2,3,4] s=⟨[(0,.str (aw m)),(2,.ptr 0 0),(3,.bool neg),(4,.aB 1 0 i)],[(1,.cells true true false 1 (out.map ab)),(0,.cells true true true 2 [.bool false,.aa])],2,0⟩)))->
   ∃ex s',D P L (.loop [0,2,3,4] zm) s=some (ex,s')/\∃tm i m out,ex= .exit 0/\m<1000000000/\out.length=i/\dg out/\dv out+1000000000^i*m=N/\i<20000000000/\ai tm 0= .str (aw m)/\ai tm 2= .ptr 0 0/\ai tm 3= .bool neg/\
    ((i=0/\ai tm 4= .aa/\s'=⟨tm,[(0,.cells true true true 2 [.bool false,.aa])],1,0⟩)\/(0<i/\ai tm 4= .aB 1 0 i/\s'=⟨tm,[(1,.cells true true false 1 (out.map ab)),(0,.cells true true true 2 [.bool false,.aa])],2,0⟩)):=by
 intro dq sq;generalize bB:aS [0,2,3,4] sq=s0;revert bB s0 sq dq;apply dI;rintro k s ⟨i,m,out,rfl,hlen,hd,aP,hl,hs⟩;by_cases hm:1000000000<=m
 ·left
  obtain ⟨q,hq⟩:∃q,q=m/1000000000:=⟨_,rfl⟩;obtain ⟨r,hr⟩:∃r,r=m%1000000000:=⟨_,rfl⟩;have lU:=asi hm;rw [<-hq,<-hr] at lU;have gQ:=Rw 9 r;have hqp:=rz q;have hlm:(aw m).length=(aw q).length+9:=by rw [lU,yL,gQ]
  have c1:iA (aw m) (some (aw q).length) (some (aw m).length)=some (.str (iz 9 r)):=by
   rw [mg (by omega) (yr _),xx,lU,ug]
  have c2:iA (aw m) (some 0) (some (aw q).length)=some (.str (aw q)):=by
   rw [mg (by omega) (by omega),yK,lU,uf]
  have e1:=JX zQ (s:=iz 9 r) (v:=r) (by omega) (by rw [ac7 9 r 0 (by omega)];simp)
  unfold aj at e1;have FK:dg (out++[(r:Int)]):=gW.2 ⟨hd,lF.2 (by omega)⟩;have ai2:dv (out++[(r:Int)])+1000000000^(i+1)*q=N:=by
   rw [mU,hlen,<-aP,xd];have e:=Nat.mod_add_div m 1000000000;rw [<-hr,<-hq] at e;rw [<-e];simp only [dv,xY,xB,y8,xA,xj];omega
  have Nx:((aw m).length:Int)-9=((aw q).length:Int):=by omega
  rcases hs with ⟨h0,rfl⟩ | ⟨h0,rfl⟩
  ·subst h0;have mI:out=[]:=yx hlen;subst mI
   simp only [go_sem,ya,yb,xg,yD,yp,yh,zm,show (9:Int)<((aw m).length:Int) by omega,Nx,wrapN (n:=(aw q).length) (by omega),eI,eU,dO,c1,c2,e1,gX];refine ⟨_,q,rfl,by omega,1,q,[]++[(r:Int)],rfl,rfl,FK,ai2,by omega,.inr ⟨by omega,?_⟩⟩;rfl
  ·simp only [go_sem,ya,yb,yp,yh,zm,show (9:Int)<((aw m).length:Int) by omega,Nx,wrapN (n:=(aw q).length) (by omega),eI,eU,dO,c1,e1]
   rw [fY (ex:=false) (pu:=true) (cs:=out.map ab) (by simp only [go_sem,ya]) (by rw [yt,hlen,yh]) (by omega) (by omega) (by decide) (by simp only [go_sem])]
   simp only [go_sem,ya,yb,eI,eU,dO,Nx,wrapN (n:=(aw q).length) (by omega),c2];refine ⟨_,q,rfl,by omega,i+1,q,out++[(r:Int)],rfl,by simp [hlen],FK,ai2,by omega,.inr ⟨by omega,?_⟩⟩;rw [xu];simp only [go_sem,ya,yb,ax]<;>rfl
 ·right
  have h9:(aw m).length<=9:=ru (k:=8) (by omega);have hp0:=rz m;rcases hs with ⟨h0,rfl⟩ | ⟨h0,rfl⟩
  ·simp only [go_sem,zm,show ¬(9:Int)<((aw m).length:Int) by omega];exact ⟨_,_,rfl,by simp,_,i,m,out,rfl,by omega,hlen,hd,aP,by omega,by simp only [go_sem,ya],by simp only [go_sem,ya],by simp only [go_sem,ya],.inl ⟨h0,by simp only [go_sem,ya],rfl⟩⟩
  ·simp only [go_sem,zm,show ¬(9:Int)<((aw m).length:Int) by omega];exact ⟨_,_,rfl,by simp,_,i,m,out,rfl,by omega,hlen,hd,aP,by omega,by simp only [go_sem,ya],by simp only [go_sem,ya],by simp only [go_sem,ya],.inr ⟨h0,by simp only [go_sem,ya],rfl⟩⟩
end
end
section
open Go (IntKind)
section
variable {P:aI} {L:Lib}
def alf (h:Rb P L) {n:Int} (hn:(aw n.natAbs).length<=180000000000):∃r,aj P L 288 [.str (aV n)] r/\kz r n:=by
 obtain ⟨u,hu⟩:∃u,u=aw n.natAbs:=⟨_,rfl⟩;obtain ⟨b,t,hb,jB,KT⟩:=D6 n.natAbs;have hs:aV n=(if n<0 then [45] else [])++u:=by rw [hu,nI]
 have BS:0<u.length:=by rw [hu];exact rz _
 have qU:u[0]=b:=by
  have:u=b::t:=by rw [hu,hb]
  simp [this]
 have key:∀(s:St),aS [0,2,3,4] s=⟨[(0,.str u),(2,.ptr 0 0),(3,.bool (decide (n<0))),(4,.aa)],[(0,.cells true true true 2 [.bool false,.aa])],1,0⟩->
   ∃ex s',D P L (.loop [0,2,3,4] zm) s=some (ex,s')/\∃tm i m out,ex= .exit 0/\m<1000000000/\out.length=i/\dg out/\dv out+1000000000^i*m=n.natAbs/\i<20000000000/\ai tm 0= .str (aw m)/\ai tm 2= .ptr 0 0/\ai tm 3= .bool (decide (n<0))/\
    ((i=0/\ai tm 4= .aa/\s'=⟨tm,[(0,.cells true true true 2 [.bool false,.aa])],1,0⟩)\/(0<i/\ai tm 4= .aB 1 0 i/\s'=⟨tm,[(1,.cells true true false 1 (out.map ab)),(0,.cells true true true 2 [.bool false,.aa])],2,0⟩)):=fun s hc=>
  ayI (P:=P) (L:=L) h.zQ (neg:=decide (n<0)) hn n.natAbs s ⟨0,n.natAbs,[],rfl,rfl,rfl,by simp [dv],by omega,.inl ⟨rfl,by rw [hc,hu]⟩⟩
 have fin:∀(i m:Nat) (out:List Int),m<1000000000->out.length=i->dg out->dv out+1000000000^i*m=n.natAbs->i<20000000000->∃w l,bO P L (D P L) 294 [.bool (decide (n<0)),.aA false (i+1) ((out++[(m:Int)]).map ab)]=some (.agg [.bool (decide (n<0)),w])/\bE w l/\dg l/\nz l/\dv l=n.natAbs:=fun i m out h1 h2 h3 h4 h5=>by
  have hv:=lE false (out++[(m:Int)]);have hd:dg (out++[(m:Int)]):=gW.2 ⟨h3,lF.2 (by omega)⟩;have aP:dv (out++[(m:Int)])=n.natAbs:=by rw [mU,h2];simp [dv];exact h4
  obtain ⟨r,e,hr⟩:=zR h.jz h.cS (decide (n<0)) hv hd (by simp;omega);have Gl:cD (decide (n<0)) (dv (out++[(m:Int)]))=n:=by
   rw [aP];unfold cD;by_cases h0:n<0
   ·simp only [h0,yq,xC];omega
   ·simp only [h0,yy,yN,xf];omega
  rw [Gl] at hr;obtain ⟨w,l,rfl,hw,fq,jN,dB⟩:=hr;simp only [yL,List.length_singleton,h2] at e;exact ⟨w,l,e,hw,fq,jN,dB⟩
 unfold aj;rw [hs];by_cases h0:n<0
 ·rw [yQ h0,aH h.ak9];have kV:iA (45::u) (some 1) (some (u.length+1))=some (.str u):=by rw [mg (s:=45::u) (l:=1) (h:=u.length+1) (by omega) (by simp)];simp
  simp only [h0,yq] at key fin ⊢;simp only [go_sem,ya,yb,NW,bh,show (0:Int)<((u.length+1:Nat):Int) by omega,xm,xG,Dc,yq,eI,eU,dO,kV];generalize hq:D P L (.loop [0,2,3,4] zm) _=q;obtain ⟨ex,s,rfl,tm,i,m,out,rfl,hm,hlen,hd,aP,hi,t0,t2,t3,CX⟩:=bQ hq key (by simp only [go_sem,ya,yb,ax]<;>rfl)
  have e1:=JX h.zQ (s:=aw m) (v:=m) (by have:=ru (k:=8) (n:=m) (by omega);omega) (sT m);have dT:i<20000000000:=hi;obtain ⟨w,l,e2,hw,fq,jN,dB⟩:=fin i m out hm hlen hd aP dT;refine ⟨_,?_,w,l,rfl,hw,fq,jN,dB⟩;unfold aj at e1;rcases CX with ⟨B0,t4,rfl⟩ | ⟨B0,t4,rfl⟩
  ·subst B0;have mI:out=[]:=yx hlen;subst mI;have jk:∀hp:Hp,iX 0 1 (some (false,1,[AV.int .i64 (m:Int)],hp))=some (.aA false 1 [AV.int .i64 (m:Int)],hp):=fun hp=>rfl
   simp only [xG,xc,vD,yf] at e2;simp only [go_sem,ya,yb,xg,yD,yp,yh,ax,t0,t2,t3,t4,e1,gX,jk,e2,b6,hw.pu,hw.one,gH];rcases hw with ⟨rfl,_⟩ | ⟨e,rfl⟩<;>simp only [h0,yq]<;>rfl
  ·simp only [go_sem,ya,yb,yp,yh,ax,t0,t2,t3,t4,e1]
   rw [fY (ex:=false) (pu:=true) (cs:=out.map ab) (by simp only [go_sem,ya]) (by rw [yt,hlen,yh]) (by omega) (by omega) (by decide) (by simp only [go_sem])];have jk:∀hp:Hp,iX 0 (i+1) (some (false,1,out.map ab++[AV.int .i64 (m:Int)],hp))=some (.aA false (i+1) (out.map ab++[AV.int .i64 (m:Int)]),hp):=fun hp=>lC false (by simp [hlen]) (by decide)
   simp only [xu,xc,vD] at e2;simp only [go_sem,ya,yb,jk,e2,b6,hw.pu,hw.one,gH,vt];rcases hw with ⟨rfl,_⟩ | ⟨e,rfl⟩<;>simp only [h0,yq]<;>rfl
 ·rw [yB h0,aH h.ak9,xG];simp only [h0,yy] at key fin ⊢;simp only [go_sem,ya,yb,NW,bh,show (0:Int)<(u.length:Int) by omega,qt BS,qU,show ¬((b:Nat):Int)=45 by omega];generalize hq:D P L (.loop [0,2,3,4] zm) _=q;obtain ⟨ex,s,rfl,tm,i,m,out,rfl,hm,hlen,hd,aP,hi,t0,t2,t3,CX⟩:=bQ hq key (by simp only [go_sem,ya,yb,ax]<;>rfl)
  have e1:=JX h.zQ (s:=aw m) (v:=m) (by have:=ru (k:=8) (n:=m) (by omega);omega) (sT m);have dT:i<20000000000:=hi;obtain ⟨w,l,e2,hw,fq,jN,dB⟩:=fin i m out hm hlen hd aP dT;refine ⟨_,?_,w,l,rfl,hw,fq,jN,dB⟩;rcases CX with ⟨B0,t4,rfl⟩ | ⟨B0,t4,rfl⟩
  ·subst B0;have mI:out=[]:=yx hlen;subst mI;have jk:∀hp:Hp,iX 0 1 (some (false,1,[AV.int .i64 (m:Int)],hp))=some (.aA false 1 [AV.int .i64 (m:Int)],hp):=fun hp=>rfl
   simp only [xG,xc,vD,yf] at e2;simp only [go_sem,ya,yb,xg,yD,yp,yh,ax,t0,t2,t3,t4,e1,gX,jk,e2,b6,hw.pu,hw.one,gH];rcases hw with ⟨rfl,_⟩ | ⟨e,rfl⟩<;>simp only [h0,yy]<;>rfl
  ·simp only [go_sem,ya,yb,yp,yh,ax,t0,t2,t3,t4,e1]
   rw [fY (ex:=false) (pu:=true) (cs:=out.map ab) (by simp only [go_sem,ya]) (by rw [yt,hlen,yh]) (by omega) (by omega) (by decide) (by simp only [go_sem])];have jk:∀hp:Hp,iX 0 (i+1) (some (false,1,out.map ab++[AV.int .i64 (m:Int)],hp))=some (.aA false (i+1) (out.map ab++[AV.int .i64 (m:Int)]),hp):=fun hp=>lC false (by simp [hlen]) (by decide)
   simp only [xu,xc,vD] at e2;simp only [go_sem,ya,yb,jk,e2,b6,hw.pu,hw.one,gH,vt];rcases hw with ⟨rfl,_⟩ | ⟨e,rfl⟩<;>simp only [h0,yy]<;>rfl
end
end
section
open Go (IntKind)
def Hz (n:Int) (r:List Nat):bX (aV n++r)=(aV n).length+bX r:=by
 rw [<-nI]
 split
 ·simp only [xm,xG,bX,yz];rw [yB (by decide),Hx r (sS _)];omega
 ·rw [xG];exact Hx r (sS _)
def RB:∀{a b:List Nat},cV a b=true->a=b
 | [],[],_=>rfl
 | [],_::_,h=>by simp [cV] at h
 | _::_,[],h=>by simp [cV] at h
 | x::a,y::b,h=>by
  simp only [cV,ye] at h;rw [yj h.1,RB h.2]
def ai3 {n:Int} {d:Nat} (h:n≠0):cV (TT n d) [48]=false:=by
 cases hb:cV (TT n d) [48] with
 | false=>rfl
 | true=>
  have e:=RB hb;unfold TT at e;by_cases h0:n<0
  ·rw [kD h0] at e;simp at e
  ·obtain ⟨m,rfl⟩:∃m:Nat,n=m:=⟨n.toNat,by omega⟩;rw [lD] at e;obtain ⟨b,r,cw,_,_⟩:=D6 m;rw [cw] at e;simp only [xm,uW,List.append_eq_nil_iff] at e;have hv:=sT m;rw [cw,e.1,e.2.1] at hv
   have:(some 0:Option Nat)=some m:=hv
   grind
section
variable {P:aI} {L:Lib}
def ayJ (h:Rb P L):∃r,aj P L 281 [ab 1] r/\kz r 1:=by
 obtain ⟨r,e,hr⟩:=zR h.jz h.cS false (lE false [(1:Int)]) (by decide) (by decide);obtain ⟨w,l,rfl,hw,hd,hz,hv⟩:=hr;refine ⟨_,?_,w,l,rfl,hw,hd,hz,hv⟩;simp only [xc,vD,yz,yO,yf] at e;have jk:∀hp:Hp,iX 0 1 (some (false,1,[AV.int .i64 1],hp))=some (.aA false 1 [AV.int .i64 1],hp):=fun hp=>rfl
 unfold aj at e ⊢;rw [aH h.aCd];simp only [go_sem,ya,yb,xg,yD,yp,yh,Tt,bh,Int.reduceLT,yy,MU,ax,ahf,uy,yP,yM,yq,iK _ _ _ (show (1000000000:Int)≠0 by decide),fX _ _ _ (show (1000000000:Int)≠0 by decide),show Int.tmod 1 1000000000=1 from rfl,show Int.tdiv 1 1000000000=0 from rfl,show IntKind.wrap .i64 0=0 from rfl,gX,jk,e,hw.pu,hw.one,b6,gH];rcases hw with ⟨rfl,_⟩ | ⟨e,rfl⟩<;>rfl
def alg (h:Rb P L) {n:Int} {d:Nat} (hn:(aw n.natAbs).length<=144000000000) (hd:(aw d).length<=144000000000):
  ∃x y,aj P L 274 [.str (TT n d)] (.ae [x,y])/\kz x n/\kz y d:=by
 obtain ⟨x,e1,hx⟩:=alf h (n:=n) (by omega);have hli:(aV n).length<=(aw n.natAbs).length+1:=by rw [<-nI];split<;>simp
 by_cases h1:d=1
 ·subst h1;obtain ⟨y,e2,hy⟩:=ayJ h;have hT:TT n 1=aV n:=by unfold TT;simp
  have hs:=Hz n [];rw [wD] at hs;have e3:=FE h.Bp (s:=aV n) (by omega);rw [hs] at e3;refine ⟨x,y,?_,hx,hy⟩;obtain ⟨xw,xl,rfl,eS,_,_,_⟩:=hx;obtain ⟨yw,yl,rfl,eT,_,_,_⟩:=hy;rw [hT];unfold aj at e1 e2 e3 ⊢;rw [aH h.ak6];simp only [go_sem,ya,yb,NR,bh,e3,bX,y8,yq,e1,e2,b6,eS.pu,eS.one,eT.pu,eT.one,gH];rcases eS with ⟨rfl,_⟩ | ⟨e,rfl⟩<;>rcases eT with ⟨rfl,_⟩ | ⟨e',rfl⟩<;>rfl
 ·obtain ⟨y,e2,hy⟩:=alf h (n:=(d:Int)) (by simp;omega);rw [lD] at e2;obtain ⟨s,An⟩:∃s,s=TT n d:=⟨_,rfl⟩;have hT:s=aV n++47::aw d:=by rw [An];unfold TT;rw [yB h1]
  have hs:bX s=(aV n).length:=by rw [hT,Hz];rfl
  have hlen:s.length=(aV n).length+(aw d).length+1:=by rw [hT];simp;omega
  have e3:=FE h.Bp (s:=s) (by omega);rw [hs] at e3;have c1:iA s (some 0) (some (aV n).length)=some (.str (aV n)):=by
   rw [mg (by omega) (by omega),yK,hT,uf]
  have c2:iA s (some ((aV n).length+1)) (some s.length)=some (.str (aw d)):=by
   rw [mg (by omega) (yr _),xx,hT,show aV n++47::aw d=(aV n++[47])++aw d by simp,show (aV n).length+1=(aV n++[47]).length by simp,ug]
  refine ⟨x,y,?_,hx,hy⟩;obtain ⟨xw,xl,rfl,eS,_,_,_⟩:=hx;obtain ⟨yw,yl,rfl,eT,_,_,_⟩:=hy;rw [<-An];unfold aj at e1 e2 e3 ⊢;rw [aH h.ak6]
  simp only [go_sem,ya,yb,NR,bh,e3,show ¬((aV n).length:Int)=(s.length:Int) by omega,eI,eU,dO,c1,wrapN (n:=(aV n).length+1) (by omega),show ((aV n).length:Int)+1=(((aV n).length+1:Nat):Int) from rfl,c2,e1,e2,b6,eS.pu,eS.one,eT.pu,eT.one,gH];rcases eS with ⟨rfl,_⟩ | ⟨e,rfl⟩<;>rcases eT with ⟨rfl,_⟩ | ⟨e',rfl⟩<;>rfl
end
end
section
open Go (IntKind)
def ayK {n:Int} {d:Nat} (h:n<0):TT n d=45::TT (-n) d:=by
 have e:aV (-n)=aw n.natAbs:=by
  rw [<-nI,yB (show ¬-n<0 by omega),xG,show (-n).natAbs=n.natAbs by omega]
 unfold TT;rw [kD h,e];rfl
def auS {n:Int} {d:Nat} (h:¬n<0):∃b u,TT n d=b::u/\48<=b:=by
 obtain ⟨b,r,hb,h1,_⟩:=D6 n.natAbs;refine ⟨b,r++(if d=1 then [] else 47::aw d),?_,h1⟩;unfold TT;rw [<-nI,yB h,xG,hb];rfl
def IS (a b:AV) (r:List AV):ib 2 true (a::b::r)=some (.agg [a,b]):=rfl
def auT (k:Nat):2^k<=1000000000^k:=vU (by decide) k
def Bd.r {k:Nat} {z:Int} (h:Bd k z):z.natAbs<1000000000^k:=yT h (auT k)
def ai4 (r:Rat):RT r=TT r.num r.den:=rfl
def agL {n d:Int} (hd:0<d):RT (wJ n d)=pD n d:=by
 obtain ⟨h1,h2⟩:=Qh (a:=n) hd;rw [auv hd,ai4,h1]
 congr 1
 exact Int.ofNat.inj (show ((wJ n d).den:Int)=((dA n d).toNat:Int) by rw [h2];have:=HX (a:=n) hd;unfold dA at this ⊢;omega)
structure Rm (P:aI) (L:Lib):Prop extends Rb P L where
 aCj:Has P L 263 dj
 O7:Has P L 273 C6
 aCk:Has P L 284 Tu
 aCl:Has P L 285 NU
 aCm:Has P L 286 NV
 FL:Has P L 287 JA
 qJ:Has P L 301 zJ
structure Rl (P:aI) (L:Lib):Prop extends Rm P L where
 aH4:Has P L 269 aju
structure Rp (P:aI) (L:Lib):Prop extends Ras P L,Rm P L
structure Rn (P:aI) (L:Lib):Prop extends Ra P L,Rp P L
section
variable {P:aI} {L:Lib}
def ai5 (h:Rm P L) {v w:AV} {a b:List Int} (hv:bE v a) (hw:bE w b) (ha:dg a) (hb:dg b) (na:nz a) (nb:nz b) (la:a.length<=8000000000) (lb:b.length<=8000000000) (h0:0<dv b):
  ∃q r lq lr,aj P L 289 [v,w] (.ae [q,r])/\bE q lq/\bE r lr/\dg lq/\nz lq/\dg lr/\nz lr/\dv lq=dv a/dv b/\dv lr=dv a%dv b:=
 ai0 h.Kf h.kQ h.od h.pG h.cS h.qJ hv hw ha hb na nb la lb h0
def ayL (h:Rm P L) {x y:AV} {a b:List Int} {n d:Int} {K:Nat} (hK:K<=8000000000) (hx:bE x a) (ha:dg a) (na:nz a) (va:dv a=n.natAbs) (hy:bE y b) (hb:dg b) (nb:nz b) (vb:dv b=d.natAbs) (kn:Bd K n) (kd:Bd K d) (hd:0<d) {tm:Env} (t2:ai tm 2= .ptr 0 0) (t3:ai tm 3= .ptr 1 0):
  gh [.t 4] (D P L (aC (aC nW.body)) ⟨tm,[(1,.cells true true true 2 [.bool (decide (d<0)),y]),(0,.cells true true true 2 [.bool (decide (n<0)),x])],2,0⟩)=some (.str (RT (wJ n d))):=by
 rw [agL hd];have la:=xi (ju ha na (by rw [va];exact kn.r)) hK
 have lb:=xi (ju hb nb (by rw [vb];exact kd.r)) hK
 obtain ⟨g,lg,e1,hg,Z1,ng,vg⟩:=ai1 h.ak7 h.Kf h.kQ h.od h.pG h.cS h.qJ hx hy ha hb na nb la lb;rw [va,vb,show wI n.natAbs d.natAbs=vc n d from rfl] at vg;have KE:=MB (a:=n) hd;have aCn:vc n d<=d.natAbs:=Int.gcd_le_natAbs_right n (by omega);have lg1:lg.length<=8000000000:=xi (ju Z1 ng (by rw [vg];exact Nat.lt_of_le_of_lt aCn kd.r)) hK
 obtain ⟨p,p',lp,lp',e2,hp,ap,dp,np,dp',np',vp,vp'⟩:=ai5 h hx hg ha Z1 na ng la lg1 (by omega);obtain ⟨q,q',lq,lq',e3,hq,bL,dq,nq,dq',nq',vq,vq'⟩:=ai5 h hy hg hb Z1 nb ng lb lg1 (by omega);rw [va,vg] at vp;rw [vb,vg] at vq;have hrn:(dn n d).natAbs=n.natAbs/vc n d:=by unfold dn;rw [uj (Int.gcd_dvd_left n d)];rfl
 have jP:(dA n d).natAbs=d.natAbs/vc n d:=by unfold dA;rw [uj (Int.gcd_dvd_right n d)];rfl
 have hdp:=HX (a:=n) hd;rw [<-hrn] at vp;rw [<-jP] at vq;have aH5:=ax0 n d;have Gl:cD (decide (n<0)) (dv lp)=dn n d:=by
  rw [vp];unfold cD;by_cases h0:n<0
  ·have:¬0<=dn n d:=fun h1=>by have:=Int.mul_nonneg (Int.le_of_lt KE) h1;omega
   simp only [h0,yq,xC];omega
  ·have:¬dn n d<0:=fun h1=>by have:=Int.mul_neg_of_pos_of_neg KE h1;omega
   simp only [h0,yy,yN,xf];omega
 have kn':Bd K (dn n d):=kn.le (ac5 n d);have YB:Bd K (dA n d):=kd.le (ac6 n d);have lp1:lp.length<=8000000000:=xi (ju dp np (by rw [vp];exact kn'.r)) hK
 have K5:lq.length<=8000000000:=xi (ju dq nq (by rw [vq];exact YB.r)) hK
 obtain ⟨s,e4,hs⟩:=zR h.jz h.cS (decide (n<0)) hp dp (by omega);rw [Gl] at hs;obtain ⟨e5,l5⟩:=ak5 (K:=K) h.ak8 h.qI (by omega) hs kn'.r;obtain ⟨u,e6,hu⟩:=zR h.jz h.cS false hq dq (by omega);have Af:cD false (dv lq)=dA n d:=by rw [vq];unfold cD;simp only [yN,xf];omega
 rw [Af] at hu;obtain ⟨e7,l7⟩:=ak5 (K:=K) h.ak8 h.qI (by omega) hu YB.r;obtain ⟨sw,sl,rfl,kw,_,_,_⟩:=hs;obtain ⟨uw,ul,rfl,huw,_,_,_⟩:=hu;have aHL:0<lq.length:=by
  rcases xk lq.length with e | e
  ·rw [yx e] at vq;simp [dv] at vq;omega
  ·exact e
 by_cases P0:lq.length=1
 ·obtain ⟨z,rfl⟩:∃z,lq=[z]:=by
   cases lq with
   | nil=>simp at P0
   | cons z r=>cases r with
    | nil=>exact ⟨z,rfl⟩
    | cons y r=>simp at P0
  have Lg:z=dA n d:=by simp [dv] at vq;omega
  have e8:=hq.aQ (i:=0) (by simp);simp only [xS] at e8;by_cases h1:dA n d=1
  ·have hT:pD n d=aV (dn n d):=by unfold pD;rw [yQ h1]
   rw [hT];simp only [go_sem,ya,nW,aC,t2,t3,hx.ak,hy.ak,b8,yf,db,show ¬d<0 by omega,yy,e1,hg.ak,hg.shut,e2,hp.ak,hp.bH,ap.bH,e3,hq.len,hq.bH,bL.bH,e4,kw.ak,cG,b6,e5,yz,yO,show ((1:Nat):Int)=(1:Int) from rfl,yq,e8,Lg,h1]
  ·have hT:pD n d=(aV (dn n d)++[47])++aV (dA n d):=by unfold pD;rw [yB h1]
   rw [hT]
   simp only [go_sem,ya,nW,aC,t2,t3,hx.ak,hy.ak,b8,yf,db,show ¬d<0 by omega,yy,e1,hg.ak,hg.shut,e2,hp.ak,hp.bH,ap.bH,e3,hq.len,hq.ak,hq.bH,bL.bH,e4,kw.ak,cG,b6,e5,yz,yO,show ((1:Nat):Int)=(1:Int) from rfl,yq,e8,Lg,h1,gD (a:=aV (dn n d)) (b:=[47]) (by simp;omega),e6,huw.ak,e7,gD (a:=aV (dn n d)++[47]) (b:=aV (dA n d)) (by simp;omega)]
 ·have h1:¬dA n d=1:=fun h1=>P0 (by
   have h2:lq.length<=1:=agK dq nq (by rw [vq,h1];decide)
   omega)
  have hT:pD n d=(aV (dn n d)++[47])++aV (dA n d):=by unfold pD;rw [yB h1]
  rw [hT]
  simp only [go_sem,ya,nW,aC,t2,t3,hx.ak,hy.ak,b8,yf,db,show ¬d<0 by omega,yy,e1,hg.ak,hg.shut,e2,hp.ak,hp.bH,ap.bH,e3,hq.len,hq.ak,hq.bH,bL.bH,e4,kw.ak,cG,b6,e5,show ¬(lq.length:Int)=1 by omega,gD (a:=aV (dn n d)) (b:=[47]) (by simp;omega),e6,huw.ak,e7,gD (a:=aV (dn n d)++[47]) (b:=aV (dA n d)) (by simp;omega)]
def aod (n d:Int):wJ (-n) (-d)=wJ n d:=by rw [Rat.divInt_neg',Int.neg_neg]
def ai6 (h:Rm P L) {v w:AV} {n d:Int} {K:Nat} (hK:K<=8000000000) (hv:kz v n) (hw:kz w d) (kn:Bd K n) (kd:Bd K d) (hd:d≠0):aj P L 280 [v,w] (.str (RT (wJ n d))):=by
 have fin:∀{x y:AV} {a b:List Int} {n' d':Int},bE x a->dg a->nz a->dv a=n'.natAbs->bE y b->dg b->nz b->dv b=d'.natAbs->Bd K n'->Bd K d'->0<d'->wJ n' d'=wJ n d->∀tm,ai tm 2= .ptr 0 0->ai tm 3= .ptr 1 0->
   D P L (.seq (bt nW.body) (bt (aC nW.body))) ⟨[(0,v),(1,w)],[],0,0⟩=some (.normal,⟨tm,[(1,.cells true true true 2 [.bool (decide (d'<0)),y]),(0,.cells true true true 2 [.bool (decide (n'<0)),x])],2,0⟩)->aj P L 280 [v,w] (.str (RT (wJ n d))):=fun {x y a b n' d'} hx ha na va hy hb nb vb kn kd hd hq tm t2 t3 e=>by
  unfold aj;rw [aH h.aCc];show gh [.t 4] (D P L (.seq (bt nW.body) (.seq (bt (aC nW.body)) (aC (aC nW.body)))) ⟨[(0,v),(1,w)],[],0,0⟩)=_
  rw [Cm,e,fm,<-hq];exact ayL h hK hx ha na va hy hb nb vb kn kd hd t2 t3
 have eA:=hv;have Gn:=hw;obtain ⟨x,a,rfl,hx,ha,na,va⟩:=hv;obtain ⟨y,b,rfl,hy,hb,nb,vb⟩:=hw;by_cases h0:d<0
 ·obtain ⟨r,e1,hr⟩:=akG (K:=K) h.ala h.jz h.cS (by omega) eA kn.r;obtain ⟨s,e2,hs⟩:=akG (K:=K) h.ala h.jz h.cS (by omega) Gn kd.r;obtain ⟨x',a',rfl,Ap,Du,na',va'⟩:=hr;obtain ⟨y',b',rfl,K9,cw,nb',vb'⟩:=hs;simp only [h0,yq] at e2
  refine fin Ap Du na' va' K9 cw nb' vb' kn.neg kd.neg (by omega) (aod n d) _ ?_ ?_ (by
   simp only [go_sem,ya,yb,nW,bt,aC,bh,hx.pu,hx.ak,hx.one,hy.pu,hy.ak,hy.one,Ap.pu,Ap.one,K9.pu,K9.one,b8,yf,h0,yq,IS,cG,e1,e2,b6,gH]<;>rfl)<;>simp only [go_sem,ya]
 ·refine fin hx ha na va hy hb nb vb kn kd (by omega) rfl _ ?_ ?_ (by simp only [go_sem,ya,yb,nW,bt,aC,bh,hx.pu,hx.one,hy.pu,hy.one,b8,yf,h0,yy]<;>rfl)<;>simp only [go_sem,ya]
end
end
section
open Go (IntKind)
section
variable {P:aI} {L:Lib}
def IT {K:Nat} {a:Rat} (h:Hq K a):(RT a).length<=2*K+3:=by
 have h1:=HQ h.1;have h2:=HQ h.2;rw [lD] at h2;unfold RT
 grind
def MJ {K:Nat} {z:Int} (h:Bd K z):(aw z.natAbs).length<=K+1:=by
 have:=HQ (z:=(z.natAbs:Int)) (k:=K) (by unfold Bd at h ⊢;omega)
 rwa [lD] at this
def Nk (h:Rm P L) {a:Rat} {K:Nat} (ka:Hq K a) (hK:K<=8000000000):∃x y,aj P L 274 [.str (RT a)] (.ae [x,y])/\kz x a.num/\kz y (a.den:Int):=by
 have h1:=MJ ka.1;have h2:=MJ ka.2
 exact alg h.toRb (n:=a.num) (d:=a.den) (by omega) (by simpa using (by omega:(aw ((a.den:Int)).natAbs).length<=144000000000))
def aAn (h:Rm P L) {n:Int} {d:Nat} (hl:(TT n d).length<=100000000000) (q9:n=0->d=1):aj P L 262 [.str (TT n d)] (ab (df n)):=by
 unfold aj;rw [aH h.aCa];by_cases h0:n<0
 ·have dc:=ai3 (n:=n) (d:=d) (by omega);rw [ayK h0] at dc ⊢;simp only [go_sem,ya,Jv,mh,dc,show (0:Int)<(((TT (-n) d).length+1:Nat):Int) by omega,Dc,yq];unfold df;rw [yQ h0]
 ·by_cases h1:n=0
  ·subst h1
   have:=q9 rfl
   subst this;rw [show TT 0 1=[48] by decide];simp only [go_sem,ya,Jv,mh,show cV [48] [48]=true from rfl];rfl
  ·have dc:=ai3 (n:=n) (d:=d) h1;obtain ⟨b,u,hb,jB⟩:=auS (d:=d) h0;rw [hb] at dc ⊢;simp only [go_sem,ya,Jv,mh,dc,show (0:Int)<((u.length+1:Nat):Int) by omega,show mY 0 (.str (b::u))=some (.int .u8 (b:Nat)) from rfl,show ¬((b:Nat):Int)=45 by omega];unfold df;rw [yB h0,yB h1]
end
end
section
open Go (IntKind)
def agM (n:Int) (d:Nat):Sq true n d= .ae [ab n,ab d,.bool true]:=rfl
def Jd {a b:Int} (ha:a.natAbs<1000000000) (hb:b.natAbs<1000000000):(a*b).natAbs<1000000000000000000:=by
 rw [Int.natAbs_mul];exact yT (tS ha hb) (by decide)
section
variable {P:aI} {L:Lib}
def ai7 (h:Rm P L) {a b:Int} (ha: -4000000000000000000<=a/\a<=4000000000000000000) (hb:0<b/\b<=4000000000000000000):aj P L 277 [ab a,ab b] (.str (RT (wJ a b))):=by
 rw [agL hb.1];exact aBd h.aCb h.XZ h.qI ha hb
def Nl (h:Rp P L) {a:Rat} {K:Nat} (ka:Hq K a) (hK:K<=8000000000):∃q:Bool,aj P L 276 [.str (RT a)] (Sq q a.num a.den)/\(q=true->a.num.natAbs<1000000000/\a.den<1000000000):=
 aBe h.aCe h.Bp h.zQ (n:=a.num) (d:=a.den) (by have:=IT ka;rw [ai4] at this;omega)
def aAo (h:Rn P L) {a b:Rat} {K M:Nat} (ka:Hq K a) (kb:Hq M b) (hK:K+M<=8000000000):aj P L 267 [.str (RT a),.str (RT b)] (.str (RT (a*b))):=by
 obtain ⟨q1,e1,b1⟩:=Nl h.toRp ka (by omega);obtain ⟨q2,e2,b2⟩:=Nl h.toRp kb (by omega);have aCo:=DY a b;by_cases hq:(q1=true/\q2=true)
 ·obtain ⟨rfl,rfl⟩:=hq;obtain ⟨b11,b12⟩:=b1 rfl;obtain ⟨b21,b22⟩:=b2 rfl;have p1:=Jd b11 b21;have p2:=Jd (a:=(a.den:Int)) (b:=(b.den:Int)) (by omega) (by omega);have e3:=ai7 h.toRm (a:=a.num*b.num) (b:=(a.den:Int)*b.den) (by omega) (by omega);rw [<-mul_eq] at e3;rw [agM] at e1 e2;unfold aj at e1 e2 e3 ⊢;rw [aH h.alc]
  simp only [go_sem,ya,Jx,e1,e2,wrap64 (n:=a.num*b.num) (by omega) (by omega),wrap64 (n:=(a.den:Int)*(b.den:Int)) (by omega) (by omega),e3]
 ·have bL:∃n1 d1 n2 d2,bO P L (D P L) 276 [.str (RT a)]=some (.ae [ab n1,ab d1,.bool q1])/\bO P L (D P L) 276 [.str (RT b)]=some (.ae [ab n2,ab d2,.bool q2]):=by
   cases q1<;>cases q2<;>exact ⟨_,_,_,_,e1,e2⟩
  obtain ⟨n1,d1,n2,d2,e1,e2⟩:=bL;obtain ⟨x,y,e3,hx,hy⟩:=Nk h.toRm ka (by omega);obtain ⟨z,w,e4,hz,hw⟩:=Nk h.toRm kb (by omega);have FM:max K M<=8000000000:=by omega
  obtain ⟨r,e5,hr⟩:=Ke (K:=max K M) h.Kg h.kQ h.jz h.cS FM hx hz (ka.1.mono (by omega)).r (kb.1.mono (by omega)).r;obtain ⟨s,e6,hs⟩:=Ke (K:=max K M) h.Kg h.kQ h.jz h.cS FM hy hw (ka.2.mono (by omega)).r (kb.2.mono (by omega)).r;have e7:=ai6 h.toRm hK hr hs (ka.1.mul kb.1) (ka.2.mul kb.2) (by omega);rw [<-mul_eq] at e7;obtain ⟨xw,xl,rfl,eS,_,_,_⟩:=hx;obtain ⟨yw,yl,rfl,eT,_,_,_⟩:=hy;obtain ⟨zw,zl,rfl,oI,_,_,_⟩:=hz;obtain ⟨ww,wl,rfl,ma,_,_,_⟩:=hw;obtain ⟨rw',rl,rfl,qQ,_,_,_⟩:=hr;obtain ⟨sw,sl,rfl,kw,_,_,_⟩:=hs;have hb:¬(q1=true/\q2=true):=hq;unfold aj at e3 e4 e5 e6 e7 ⊢;rw [aH h.alc]
  cases q1 with
  | false=>
   simp only [go_sem,ya,yb,Jx,bh,e1,e2,e3,e4,eS.pu,eS.ak,eS.one,eT.pu,eT.ak,eT.one,oI.pu,oI.ak,oI.one,ma.pu,ma.ak,ma.one,qQ.ak,kw.ak,cG,b6,Cj,gH,IS,e5,e6,e7]
  | true=>
   cases q2 with
   | true=>exact absurd ⟨rfl,rfl⟩ hb
   | false=>
    simp only [go_sem,ya,yb,Jx,bh,e1,e2,e3,e4,eS.pu,eS.ak,eS.one,eT.pu,eT.ak,eT.one,oI.pu,oI.ak,oI.one,ma.pu,ma.ak,ma.one,qQ.ak,kw.ak,cG,b6,Cj,gH,IS,e5,e6,e7]
def aAp (h:Rp P L) {a b:Rat} {K M:Nat} (ka:Hq K a) (kb:Hq M b) (hK:K+M+1<=8000000000):aj P L 264 [.str (RT a),.str (RT b)] (.str (RT (a+b))):=by
 obtain ⟨q1,e1,b1⟩:=Nl h ka (by omega);obtain ⟨q2,e2,b2⟩:=Nl h kb (by omega);have aCo:=DY a b;by_cases hq:(q1=true/\q2=true)
 ·obtain ⟨rfl,rfl⟩:=hq;obtain ⟨b11,b12⟩:=b1 rfl;obtain ⟨b21,b22⟩:=b2 rfl;have p1:=Jd (a:=a.num) (b:=(b.den:Int)) (by omega) (by omega);have p2:=Jd (a:=b.num) (b:=(a.den:Int)) (by omega) (by omega);have p3:=Jd (a:=(a.den:Int)) (b:=(b.den:Int)) (by omega) (by omega);have e3:=ai7 h.toRm (a:=a.num*b.den+b.num*a.den) (b:=(a.den:Int)*b.den) (by omega) (by omega);rw [<-add_eq] at e3;rw [agM] at e1 e2;unfold aj at e1 e2 e3 ⊢;rw [aH h.alb]
  simp only [go_sem,ya,Jw,e1,e2,wrap64 (n:=a.num*(b.den:Int)) (by omega) (by omega),wrap64 (n:=b.num*(a.den:Int)) (by omega) (by omega),wrap64 (n:=a.num*(b.den:Int)+b.num*(a.den:Int)) (by omega) (by omega),wrap64 (n:=(a.den:Int)*(b.den:Int)) (by omega) (by omega),e3]
 ·have bL:∃n1 d1 n2 d2,bO P L (D P L) 276 [.str (RT a)]=some (.ae [ab n1,ab d1,.bool q1])/\bO P L (D P L) 276 [.str (RT b)]=some (.ae [ab n2,ab d2,.bool q2]):=by
   cases q1<;>cases q2<;>exact ⟨_,_,_,_,e1,e2⟩
  obtain ⟨n1,d1,n2,d2,e1,e2⟩:=bL;obtain ⟨x,y,e3,hx,hy⟩:=Nk h.toRm ka (by omega);obtain ⟨z,w,e4,hz,hw⟩:=Nk h.toRm kb (by omega);have FM:max K M<=8000000000:=by omega
  obtain ⟨r,e5,hr⟩:=Ke (K:=max K M) h.Kg h.kQ h.jz h.cS FM hx hw (ka.1.mono (by omega)).r (kb.2.mono (by omega)).r;obtain ⟨r2,Z2,mO⟩:=Ke (K:=max K M) h.Kg h.kQ h.jz h.cS FM hz hy (kb.1.mono (by omega)).r (ka.2.mono (by omega)).r;obtain ⟨s,e6,hs⟩:=Ke (K:=max K M) h.Kg h.kQ h.jz h.cS FM hy hw (ka.2.mono (by omega)).r (kb.2.mono (by omega)).r;have k1:Bd (K+M) (a.num*b.den):=ka.1.mul kb.2;have k2:Bd (K+M) (b.num*a.den):=(kb.1.mul ka.2).mono (by omega);obtain ⟨t,e8,ht⟩:=aB2 (K:=K+M) h.aCf h.Ys h.od h.O6 h.nm h.jz h.cS (by omega) hr mO k1.r k2.r;have e7:=ai6 h.toRm hK ht hs (k1.Yd k2) ((ka.2.mul kb.2).mono (by omega)) (by omega);rw [<-add_eq] at e7;obtain ⟨xw,xl,rfl,eS,_,_,_⟩:=hx;obtain ⟨yw,yl,rfl,eT,_,_,_⟩:=hy;obtain ⟨zw,zl,rfl,oI,_,_,_⟩:=hz;obtain ⟨ww,wl,rfl,ma,_,_,_⟩:=hw;obtain ⟨rw',rl,rfl,qQ,_,_,_⟩:=hr
  obtain ⟨rw2,rl2,rfl,alh,_,_,_⟩:=mO;obtain ⟨tw,tl,rfl,htw,_,_,_⟩:=ht;obtain ⟨sw,sl,rfl,kw,_,_,_⟩:=hs;have hb:¬(q1=true/\q2=true):=hq;unfold aj at e3 e4 e5 Z2 e6 e7 e8 ⊢;rw [aH h.alb]
  cases q1 with
  | false=>
   simp only [go_sem,ya,yb,Jw,bh,e1,e2,e3,e4,eS.pu,eS.ak,eS.one,eT.pu,eT.ak,eT.one,oI.pu,oI.ak,oI.one,ma.pu,ma.ak,ma.one,qQ.ak,alh.ak,htw.ak,kw.ak,cG,b6,Cj,gH,IS,e5,Z2,e8,e6,e7]
  | true=>
   cases q2 with
   | true=>exact absurd ⟨rfl,rfl⟩ hb
   | false=>
    simp only [go_sem,ya,yb,Jw,bh,e1,e2,e3,e4,eS.pu,eS.ak,eS.one,eT.pu,eT.ak,eT.one,oI.pu,oI.ak,oI.one,ma.pu,ma.ak,ma.one,qQ.ak,alh.ak,htw.ak,kw.ak,cG,b6,Cj,gH,IS,e5,Z2,e8,e6,e7]
end
end
section
open Go (IntKind)
def ach {P:aI} {L:Lib} (a b c d:VC) (s:St):D P L (.seq a (.seq b (.seq c d))) s=nc P L (D P L (.seq a (.seq b c)) s) d:=by
 have e:=Cm (P:=P) (L:=L) b c d;rw [jY,jY]
 cases D P L a s with
 | none=>rfl
 | some q=>
  obtain ⟨ex,st⟩:=q
  cases ex with
  | normal=>rw [fm,fm];exact e st
  | ret=>rfl
  | exit id=>rfl
def ph {a b:List Nat} (h:a≠b):cV a b=false:=by
 cases hb:cV a b with
 | false=>rfl
 | true=>exact absurd (RB hb) h
def adp:∀a:List Nat,cV a a=true
 | []=>rfl
 | x::a=>by simp [cV,adp a]
def aih {a b:List Nat} (h:a=b):cV a b=true:=h▸adp a
def aqA {s:List Nat} {i:Nat} (h:i<s.length):dd (s.drop i)=(yE 48 s[i]&&yE s[i] 57&&dd (s.drop (i+1))):=by
 rw [yU h];rfl
section
variable {P:aI} {L:Lib}
def aCp (h:Has P L 287 JA) {s:List Nat} (hl:s.length<9223372036854775808):aj P L 287 [.str s] (.bool (dd s)):=by
 have key:=fM (P:=P) (L:=L) (live:=[0,3]) (a:=CF)
  (I:=fun k st=>∃i:Nat,st=⟨[(0,.str s),(3,ab i)],[],0,0⟩/\i+k=s.length/\dd (s.drop i)=dd s)
  (Q:=fun ex st=>∃tm ct,st=⟨tm,[],ct,0⟩/\((ex= .ret/\ai tm 2= .bool false/\dd s=false)\/(ex= .exit 0/\dd s=true))) ?_
 ·unfold aj;rw [aH h];simp only [go_sem,JA];generalize hq:D P L (.loop [0,3] CF) _=q;obtain ⟨ex,st,rfl,tm,ct,rfl,h2⟩:=bQ hq (key s.length) ⟨0,by simp only [go_sem,ya,ax]<;>rfl,by omega,by simp⟩
  rcases h2 with ⟨rfl,h2,h3⟩ | ⟨rfl,h3⟩
  ·simp only [go_sem,h2,h3]
  ·simp only [go_sem,ax,h3]
 ·rintro k st ⟨i,rfl,hk,hs⟩;by_cases hi:i<s.length
  ·rw [aqA hi] at hs;by_cases h1:s[i]<48
   ·right
    have e:yE 48 s[i]=false:=by
     cases hb:yE 48 s[i] with
     | false=>rfl
     | true=>have:=yv hb;omega
    rw [e,xX,xX] at hs;simp only [go_sem,ya,CF,show (i:Int)<s.length by omega,qt hi,show ((s[i]:Nat):Int)<48 by omega,yq];exact ⟨_,_,rfl,by simp,_,_,rfl,.inl ⟨rfl,by simp only [go_sem],hs.symm⟩⟩
   ·by_cases h2:57<s[i]
    ·right
     have e:yE s[i] 57=false:=by
      cases hb:yE s[i] 57 with
      | false=>rfl
      | true=>have:=yv hb;omega
     rw [e,Bool.and_false,xX] at hs;simp only [go_sem,ya,CF,show (i:Int)<s.length by omega,qt hi,show ¬((s[i]:Nat):Int)<48 by omega,yy,show (57:Int)<((s[i]:Nat):Int) by omega];exact ⟨_,_,rfl,by simp,_,_,rfl,.inl ⟨rfl,by simp only [go_sem],hs.symm⟩⟩
    ·left
     rw [yo (show 48<=s[i] by omega),yo (show s[i]<=57 by omega),xQ,xQ] at hs;simp only [go_sem,ya,CF,show (i:Int)<s.length by omega,qt hi,show ¬((s[i]:Nat):Int)<48 by omega,yy,show ¬(57:Int)<((s[i]:Nat):Int) by omega];refine ⟨_,k-1,rfl,by omega,i+1,?_,by omega,hs⟩;rw [wrap64 (by omega) (by omega)];simp only [go_sem,ya,ax]<;>rfl
  ·right
   simp only [go_sem,ya,CF,show ¬(i:Int)<s.length by omega];refine ⟨_,_,rfl,by simp,_,_,rfl,.inr ⟨rfl,?_⟩⟩;rw [<-hs,xe (by omega)];rfl
def O8 (h:Has P L 273 C6) (FL:Has P L 287 JA) {s:List Nat} (hl:s.length<9223372036854775808):aj P L 273 [.str s] (.bool (dD s)):=by
 have e:=aCp FL hl;unfold aj at e ⊢;rw [aH h]
 match s,hl,e with
 | [],_,_=>
  simp only [go_sem,ya,C6,yO,show ((0:Nat):Int)=0 from rfl,yq];rfl
 | [b],_,e=>
  have:dD [b]=dd [b]:=by simp [dD]
  rw [this];simp only [go_sem,ya,C6,yz,yO,yf,show ¬((1:Nat):Int)=0 by decide,show ¬(1:Int)<((1:Nat):Int) by decide,yy,e]
 | b::c::r,hl,e=>
  have hd:dD (b::c::r)=(dd (b::c::r)&& !(yu b 48)):=by simp [dD]
  rw [hd];have Dv:r.length+2<9223372036854775808:=by simpa using hl
  by_cases hb:b=48
  ·subst hb;simp only [go_sem,ya,C6,yz,show ¬((r.length+1+1:Nat):Int)=0 by omega,yy,show (1:Int)<((r.length+1+1:Nat):Int) by omega,show mY 0 (.str (48::c::r))=some (.int .u8 48) from rfl,yq]
   simp
  ·have:yu b 48=false:=fW hb
   rw [this,yP,vt];simp only [go_sem,ya,C6,yz,show ¬((r.length+1+1:Nat):Int)=0 by omega,yy,show (1:Int)<((r.length+1+1:Nat):Int) by omega,show mY 0 (.str (b::c::r))=some (.int .u8 (b:Nat)) from rfl,show ¬((b:Nat):Int)=48 by omega,e]
def adq {s:List Nat} {k:Nat} (h:k<=s.length):iA s (some 0) (some k)=some (.str (s.take k)):=by
 rw [mg (by omega) h,yK]
def Mk {s:List Nat} {k:Nat} (h:k<=s.length):iA s (some k) (some s.length)=some (.str (s.drop k)):=by
 rw [mg h (yr _),xx]
def ayM (h:Rm P L) {t:List Nat} {k:Nat} (hk:k=bX t) (hl:t.length<9223372036854775808) (hp:dD (t.take k)=true) {tm:Env} (t3:ai tm 3= .str t) (t4:ai tm 4=ab k):
  gh [.t 2] (D P L (aC (aC (aC (aC (aC dj.body))))) ⟨tm,[],0,0⟩)=some (ab (
   if k<t.length/\(dD (t.drop (k+1))=false\/t.drop (k+1)=[48]\/t.drop (k+1)=[49]) then 1
   else if 600<k\/600<t.length-k-1 then 4
   else if k<t.length/\wI (fg (t.take k)) (fg (t.drop (k+1)))≠1 then 1
   else 0)):=by
 have La:k<=t.length:=by rw [hk];exact HP t
 have e3:=O8 h.O7 h.FL (s:=t.drop (k+1)) (by rw [xP];omega);unfold aj at e3;have B8:(k:Int)+1=((k+1:Nat):Int):=rfl;by_cases hs:k<t.length
 ·have c2:=Mk (s:=t) (k:=k+1) (by omega);have jX:=aan t (by omega);rw [<-hk] at jX;have K7:(t.drop (k+1)).length=t.length-k-1:=by rw [xP];omega
  have hlp:(t.take k).length=k:=by rw [yI];omega
  generalize hqe:t.drop (k+1)=q at*
  generalize hpe:t.take k=p at*
  cases hd:dD q with
  | false=>
   rw [yQ ⟨hs,.inl rfl⟩];rw [hd] at e3
   simp only [go_sem,ya,dj,aC,t3,t4,show (k:Int)<(t.length:Int) by omega,yq,B8,wrapN (n:=k+1) (by omega),eI,eU,dO,c2,e3,yP]
  | true=>
   rw [hd] at e3;by_cases jC:q=[48]
   ·rw [yQ ⟨hs,.inr (.inl jC)⟩]
    simp only [go_sem,ya,dj,aC,t3,t4,show (k:Int)<(t.length:Int) by omega,yq,B8,wrapN (n:=k+1) (by omega),eI,eU,dO,c2,e3,yM,mh,aih jC]
   ·by_cases oE:q=[49]
    ·rw [yQ ⟨hs,.inr (.inr oE)⟩]
     simp only [go_sem,ya,dj,aC,t3,t4,show (k:Int)<(t.length:Int) by omega,yq,B8,wrapN (n:=k+1) (by omega),eI,eU,dO,c2,e3,yM,mh,ph jC,aih oE]
    ·rw [yB (by simp only [hs,th,yas,ybu];exact fun e=>e.elim jC oE)]
     by_cases z7:600<k
     ·rw [yQ (.inl z7)]
      simp only [go_sem,ya,dj,aC,t3,t4,show (k:Int)<(t.length:Int) by omega,yq,B8,wrapN (n:=k+1) (by omega),eI,eU,dO,c2,e3,yM,mh,ph jC,ph oE,show (600:Int)<(k:Int) by omega]
     ·by_cases aCq:600<t.length-k-1
      ·rw [yQ (.inr aCq)]
       simp only [go_sem,ya,dj,aC,t3,t4,show (k:Int)<(t.length:Int) by omega,yq,B8,wrapN (n:=k+1) (by omega),eI,eU,dO,c2,e3,yM,mh,ph jC,ph oE,show ¬(600:Int)<(k:Int) by omega,yy,show (t.length:Int)-(k:Int)=((t.length-k:Nat):Int) by omega,wrapN (n:=t.length-k) (by omega),show ((t.length-k:Nat):Int)-1=((t.length-k-1:Nat):Int) by omega,wrapN (n:=t.length-k-1) (by omega),show (600:Int)<((t.length-k-1:Nat):Int) by omega]
      ·rw [yB (by omega)];have qZ:=D7 _ rfl hp;have oF:=D7 _ rfl hd;have gA:fg q≠0:=fun e=>jC (by rw [<-oF,e];rfl)
       have jb:fg q≠1:=fun e=>oE (by rw [<-oF,e];rfl)
       generalize fg p=n at*
       generalize fg q=d at*
       have hT:TT (n:Int) d=t:=by
        unfold TT;rw [lD,yB jb,qZ,oF];exact jX.symm
       obtain ⟨x,y,e4,hx,hy⟩:=alg h.toRb (n:=(n:Int)) (d:=d) (by rw [wK,qZ];omega) (by rw [oF];omega);rw [hT] at e4;obtain ⟨xw,xl,rfl,eS,dx,nx,vx⟩:=hx;obtain ⟨yw,yl,rfl,eT,dy,ny,vy⟩:=hy;rw [wK] at vx vy;have pP:n<10^p.length:=by rw [<-qZ];exact Ii n
       have hdb:d<10^q.length:=by rw [<-oF];exact Ii d
       obtain ⟨K,hK⟩:∃K:Nat,K=600:=⟨_,rfl⟩;have PN:∀{m j:Nat},m<10^j->j<=K->m<1000000000^K:=fun {m j} h1 h2=>
        yT h1 (xi (xh (by decide) h2) (vU (by decide) K))
       have lxl:=ju dx nx (by rw [vx];exact PN pP (by omega))
       have lyl:=ju dy ny (by rw [vy];exact PN hdb (by omega))
       obtain ⟨g,lg,e5,hg,dgg,ngg,vg⟩:=ai1 h.ak7 h.Kf h.kQ h.od h.pG h.cS h.qJ eS eT dx dy nx ny (by omega) (by omega);rw [vx,vy] at vg;have KE:0<wI n d:=Nat.gcd_pos_of_pos_right _ (by omega);unfold aj at e4 e5;by_cases Yv:lg.length=1
       ·obtain ⟨z,rfl⟩:∃z,lg=[z]:=by
         cases lg with
         | nil=>simp at Yv
         | cons z r=>cases r with
          | nil=>exact ⟨z,rfl⟩
          | cons y r=>simp at Yv
        have gz:=lF.1 dgg;have Lg:z=(wI n d:Nat):=by simp [dv] at vg;omega
        have e8:=hg.aQ (i:=0) (by simp);simp only [xS] at e8;by_cases ig:wI n d=1
        ·rw [yB (by simp [ig])]
         simp only [go_sem,ya,yb,dj,aC,t3,t4,show (k:Int)<(t.length:Int) by omega,yq,B8,wrapN (n:=k+1) (by omega),eI,eU,dO,c2,e3,yM,mh,ph jC,ph oE,show ¬(600:Int)<(k:Int) by omega,yy,show (t.length:Int)-(k:Int)=((t.length-k:Nat):Int) by omega,wrapN (n:=t.length-k) (by omega),show ((t.length-k:Nat):Int)-1=((t.length-k-1:Nat):Int) by omega,wrapN (n:=t.length-k-1) (by omega),show ¬(600:Int)<((t.length-k-1:Nat):Int) by omega,e4,bh,eS.pu,eS.ak,eS.one,eT.pu,eT.ak,eT.one,gH,b8,yf,db,e5,hg.len,hg.shut,yz,yO,show ((1:Nat):Int)=(1:Int) from rfl,yM,e8,Lg,ig]
        ·rw [yQ ⟨hs,ig⟩]
         simp only [go_sem,ya,yb,dj,aC,t3,t4,show (k:Int)<(t.length:Int) by omega,yq,B8,wrapN (n:=k+1) (by omega),eI,eU,dO,c2,e3,yM,mh,ph jC,ph oE,show ¬(600:Int)<(k:Int) by omega,yy,show (t.length:Int)-(k:Int)=((t.length-k:Nat):Int) by omega,wrapN (n:=t.length-k) (by omega),show ((t.length-k:Nat):Int)-1=((t.length-k-1:Nat):Int) by omega,wrapN (n:=t.length-k-1) (by omega),show ¬(600:Int)<((t.length-k-1:Nat):Int) by omega,e4,bh,eS.pu,eS.ak,eS.one,eT.pu,eT.ak,eT.one,gH,b8,yf,db,e5,hg.len,hg.shut,yz,yO,show ((1:Nat):Int)=(1:Int) from rfl,yM,e8,Lg,show ¬((wI n d:Nat):Int)=1 by omega,yP]
       ·have ig:wI n d≠1:=fun e=>Yv (by
         have h1:lg.length<=1:=agK dgg ngg (by omega);have h2:0<lg.length:=by
          rcases xk lg.length with h0 | h0
          ·rw [yx h0] at vg;simp [dv] at vg;omega
          ·exact h0
         omega)
        rw [yQ ⟨hs,ig⟩]
        simp only [go_sem,ya,yb,dj,aC,t3,t4,show (k:Int)<(t.length:Int) by omega,yq,B8,wrapN (n:=k+1) (by omega),eI,eU,dO,c2,e3,yM,mh,ph jC,ph oE,show ¬(600:Int)<(k:Int) by omega,yy,show (t.length:Int)-(k:Int)=((t.length-k:Nat):Int) by omega,wrapN (n:=t.length-k) (by omega),show ((t.length-k:Nat):Int)-1=((t.length-k-1:Nat):Int) by omega,wrapN (n:=t.length-k-1) (by omega),show ¬(600:Int)<((t.length-k-1:Nat):Int) by omega,e4,bh,eS.pu,eS.ak,eS.one,eT.pu,eT.ak,eT.one,gH,b8,yf,db,e5,hg.len,hg.shut,show ¬(lg.length:Int)=1 by omega,yP]
 ·have hkt:k=t.length:=by omega
  rw [yB (by omega)];by_cases z7:600<k
  ·rw [yQ (.inl z7)];simp only [go_sem,ya,dj,aC,t3,t4,show ¬(k:Int)<(t.length:Int) by omega,yy,show (600:Int)<(k:Int) by omega,yq]
  ·rw [yB (by omega),yB (by omega)]
   simp only [go_sem,ya,dj,aC,t3,t4,show ¬(k:Int)<(t.length:Int) by omega,yy,show ¬(600:Int)<(k:Int) by omega,show (t.length:Int)-(k:Int)=((t.length-k:Nat):Int) by omega,wrapN (n:=t.length-k) (by omega),show ((t.length-k:Nat):Int)-1= -1 by omega,show IntKind.wrap .i64 (-1)= -1 by rfl,show ¬(600:Int)<(-1:Int) by omega]
def aii (h:Rm P L) {b:Nat} {r:List Nat} {t:List Nat} {neg:Bool} (gO:decide (((b:Nat):Int)=45)=neg) (hl:t.length<9223372036854775808) {tm:Env} (t0:ai tm 0= .str (b::r)) (t3:ai tm 3= .str t):
  gh [.t 2] (D P L (aC (aC (aC dj.body))) ⟨tm,[],0,0⟩)=some (ab (mG neg t)):=by
 obtain ⟨k,hk⟩:∃k,k=bX t:=⟨_,rfl⟩;have La:k<=t.length:=by rw [hk];exact HP t
 have e1:=FE h.Bp (s:=t) (by omega);have e2:=O8 h.O7 h.FL (s:=t.take k) (by rw [yI];omega);have e3:=O8 h.O7 h.FL (s:=t.drop (k+1)) (by rw [xP];omega);unfold mG;rw [<-hk] at e1 ⊢;have c1:=adq La;have hI:mY 0 (.str (b::r))=some (.int .u8 (b:Nat)):=rfl;unfold aj at e1 e2 e3;generalize hp:t.take k=p at*
 generalize hq:t.drop (k+1)=q at*
 cases hd:dD p with
 | false=>
  rw [yQ (.inl rfl)];rw [hd] at e2;simp only [go_sem,ya,dj,aC,t3,e1,eI,eU,dO,c1,e2,yP]
 | true=>
  rw [hd] at e2;by_cases hz:neg=true/\p=[48]
  ·rw [yQ (.inr hz)];obtain ⟨z1,z2⟩:=hz;rw [z1] at gO;have hb:=of_decide_eq_true gO;subst z2;simp only [go_sem,ya,dj,aC,t0,t3,e1,eI,eU,dO,c1,e2,yM,hI,hb,yq,mh,show cV [48] [48]=true from rfl]
  ·rw [yB (by simp only [yas,ybu];exact hz)]
   have fin:∀tm',ai tm' 3= .str t->ai tm' 4=ab k->D P L (.seq (bt (aC (aC (aC dj.body)))) (bt (aC (aC (aC (aC dj.body)))))) ⟨tm,[],0,0⟩=some (.normal,⟨tm',[],0,0⟩)->gh [.t 2] (D P L (aC (aC (aC dj.body))) ⟨tm,[],0,0⟩)=some (ab (
     if k<t.length/\(dD q=false\/q=[48]\/q=[49]) then 1
     else if 600<k\/600<t.length-k-1 then 4
     else if k<t.length/\wI (fg p) (fg q)≠1 then 1
     else 0)):=fun tm' f3 f4 e=>by
    show gh [.t 2] (D P L (.seq (bt (aC (aC (aC dj.body)))) (.seq (bt (aC (aC (aC (aC dj.body))))) (aC (aC (aC (aC (aC dj.body))))))) ⟨tm,[],0,0⟩)=_
    rw [Cm,e,fm,<-hp,<-hq];exact ayM h hk hl (by rw [hp];exact hd) f3 f4
   by_cases hb:((b:Nat):Int)=45
   ·have aCr:p≠[48]:=fun e=>hz ⟨by rw [<-gO];exact xo hb,e⟩
    refine fin _ ?_ ?_ (by simp only [go_sem,ya,dj,bt,aC,t0,t3,e1,eI,eU,dO,c1,e2,yM,hI,hb,yq,mh,ph aCr]<;>rfl)<;>simp only [go_sem,ya,t3]
   ·refine fin _ ?_ ?_ (by simp only [go_sem,ya,dj,bt,aC,t0,t3,e1,eI,eU,dO,c1,e2,yM,hI,hb,yy]<;>rfl)<;>simp only [go_sem,ya,t3]
def ali (h:Rm P L) {s:List Nat} (hl:s.length<9223372036854775808):aj P L 263 [.str s] (ab (cm s)):=by
 unfold aj;rw [aH h.aCj]
 cases s with
 | nil=>
  have e1:=FE h.Bp (s:=[]) (by simp);have e2:=O8 h.O7 h.FL (s:=[]) (by simp);unfold aj at e1 e2;have hc:iA [] (some 0) (some 0)=some (.str []):=rfl;simp only [go_sem,ya,dj,yO,show ¬(0:Int)<((0:Nat):Int) by decide,yy,e1,bX,eI,eU,dO,hc,e2,show dD []=false from rfl,yP];rfl
 | cons b t=>
  have Dv:t.length+1<9223372036854775808:=by simpa using hl
  have hI:mY 0 (.str (b::t))=some (.int .u8 (b:Nat)):=rfl;by_cases hb:b=45
  ·subst hb;have fin:∀tm',ai tm' 0= .str (45::t)->ai tm' 3= .str t->D P L (.seq (bt dj.body) (.seq (bt (aC dj.body)) (bt (aC (aC dj.body))))) ⟨[(0,.str (45::t))],[],0,0⟩=some (.normal,⟨tm',[],0,0⟩)->gh [.t 2] (D P L dj.body ⟨[(0,.str (45::t))],[],0,0⟩)=some (ab (cm (45::t))):=fun tm' f0 f3 e=>by
    show gh [.t 2] (D P L (.seq (bt dj.body) (.seq (bt (aC dj.body)) (.seq (bt (aC (aC dj.body))) (aC (aC (aC dj.body)))))) ⟨[(0,.str (45::t))],[],0,0⟩)=_
    rw [ach,e,fm]
    exact aii h (b:=45) rfl (by omega) f0 f3
   have hc:iA (45::t) (some 1) (some (t.length+1))=some (.str t):=by
    have:=Mk (s:=45::t) (k:=1) (by simp)
    simpa using this
   refine fin _ ?_ ?_ (by simp only [go_sem,ya,dj,bt,aC,yz,show (0:Int)<((t.length+1:Nat):Int) by omega,yq,Dc,eI,eU,dO,hc]<;>rfl)<;>simp only [go_sem,ya]
  ·have fin:∀tm',ai tm' 0= .str (b::t)->ai tm' 3= .str (b::t)->D P L (.seq (bt dj.body) (.seq (bt (aC dj.body)) (bt (aC (aC dj.body))))) ⟨[(0,.str (b::t))],[],0,0⟩=some (.normal,⟨tm',[],0,0⟩)->gh [.t 2] (D P L dj.body ⟨[(0,.str (b::t))],[],0,0⟩)=some (ab (cm (b::t))):=fun tm' f0 f3 e=>by
    show gh [.t 2] (D P L (.seq (bt dj.body) (.seq (bt (aC dj.body)) (.seq (bt (aC (aC dj.body))) (aC (aC (aC dj.body)))))) ⟨[(0,.str (b::t))],[],0,0⟩)=_
    rw [ach,e,fm]
    have:=aii h (b:=b) (neg:=false) (xa (by omega)) (by simpa using hl) f0 f3
    rw [this];simp only [cm,yB hb]
   refine fin _ ?_ ?_ (by simp only [go_sem,ya,dj,bt,aC,yz,show (0:Int)<((t.length+1:Nat):Int) by omega,yq,hI,show ¬((b:Nat):Int)=45 by omega]<;>rfl)<;>simp only [go_sem,ya]
end
end
section
open Go (IntKind)
def bZ (v:AV) (l:List (List Nat)):Prop:=cR v (l.map AV.str)
section
variable {v:AV} {l:List (List Nat)}
def bZ.len (h:bZ v l) {hp:Hp}:fP hp 1 v=some (.int .i64 (l.length:Nat)):=by
 have:=cR.len (hp:=hp) h
 grind
def bZ.pu (h:bZ v l):a6 v=true:=cR.pu h
def bZ.ak (h:bZ v l) (n:Nat) {hp:Hp}:freeze (n+1) hp v=some (v,hp):=cR.ak h n
def bZ.bH (h:bZ v l):VE.bH v=v:=cR.bH h
def bZ.one (h:bZ v l):dh v=true:=cR.one h
def bZ.cells (h:bZ v l):cellsOf v=[v]:=cR.cells h
def bZ.aQ (h:bZ v l) {i:Nat} (hi:i<l.length):iN 1 i v=some (.b5 (.str l[i]::(l.map AV.str).drop (i+1))):=by
 have:=cR.aQ h (i:=i) (by simpa using hi)
 grind
def MK (e:Bool) (l:List (List Nat)):bZ (.aA e l.length (l.map AV.str)) l:=by
 have:=Ih e (l.map AV.str)
 rwa [yt] at this
end
section
variable {P:aI} {L:Lib}
def auU (h:Rm P L) {a:Rat} {K:Nat} (ka:Hq K a) (hK:K<=4000000000):bO P L (D P L) 284 [.str (RT a)]=some (.str (aV a.num))/\bO P L (D P L) 285 [.str (aV a.num)]=some (.str (aw a.num.natAbs))/\bO P L (D P L) 286 [.str (RT a)]=some (.str (aw a.den)):=by
 have hl:=IT ka;have e0:=FE h.Bp (s:=RT a) (by omega);have lU:bX (RT a)=(aV a.num).length/\(RT a).take (aV a.num).length=aV a.num:=by
  unfold RT;by_cases hd:a.den=1
  ·rw [yQ hd,wD]
   have:=Hz a.num []
   rw [wD] at this;exact ⟨by rw [this];simp [bX],xx⟩
  ·rw [yB hd];exact ⟨by rw [Hz];simp [bX],uf⟩
 obtain ⟨ef,su⟩:=lU;rw [ef] at e0;have hlen:(aV a.num).length<=(RT a).length:=by unfold RT;simp
 have e1:bO P L (D P L) 284 [.str (RT a)]=some (.str (aV a.num)):=by
  rw [aH h.aCk]
  have:=adq (s:=RT a) hlen
  simp only [go_sem,ya,Tu,e0,eI,eU,dO,this,su]
 have hT:aV a.num=TT a.num 1:=by unfold TT;simp
 have e2:bO P L (D P L) 285 [.str (aV a.num)]=some (.str (aw a.num.natAbs)):=by
  have e:=aAn h (n:=a.num) (d:=1) (by rw [<-hT];omega) (fun _=>rfl);rw [<-hT] at e;rw [aH h.aCl];by_cases h0:a.num<0
  ·have es:df a.num= -1:=by unfold df;rw [yQ h0]
   rw [es] at e;rw [kD h0] at e ⊢;have hc:=Mk (s:=45::aw a.num.natAbs) (k:=1) (by simp);simp only [List.drop_succ_cons,yK,yz] at hc;simp only [go_sem,ya,NU,e,show (-1:Int)<0 by decide,eI,eU,dO,hc]
  ·have es:¬df a.num<0:=by unfold df;rw [yB h0];split<;>decide
   have hi:aV a.num=aw a.num.natAbs:=by
    obtain ⟨m,hm⟩:∃m:Nat,a.num=m:=⟨a.num.toNat,by omega⟩;rw [hm,lD,wK]
   simp only [go_sem,ya,NU,e,es];rw [hi]
 have e3:bO P L (D P L) 286 [.str (RT a)]=some (.str (aw a.den)):=by
  rw [aH h.aCm];by_cases hd:a.den=1
  ·have hR:(RT a).length=(aV a.num).length:=by unfold RT;rw [yQ hd];simp
   rw [hd,show aw 1=[49] by decide];simp only [go_sem,ya,NV,e0,show ((aV a.num).length:Int)=((RT a).length:Int) by omega,yq]
  ·have hR:RT a=(aV a.num++[47])++aw a.den:=by unfold RT;rw [yB hd];simp
   have hRl:(RT a).length=(aV a.num).length+1+(aw a.den).length:=by rw [hR];simp;omega
   have hc:=Mk (s:=RT a) (k:=(aV a.num).length+1) (by omega);have ik:(RT a).drop ((aV a.num).length+1)=aw a.den:=by
    rw [hR,show (aV a.num).length+1=(aV a.num++[47]).length by simp,ug]
   rw [ik] at hc
   simp only [go_sem,ya,NV,e0,show ¬((aV a.num).length:Int)=((RT a).length:Int) by omega,show ((aV a.num).length:Int)+1=(((aV a.num).length+1:Nat):Int) from rfl,wrapN (n:=(aV a.num).length+1) (by omega),eI,eU,dO,hc]
 exact ⟨e1,e2,e3⟩
def aci {l:List (List Nat)} {i:Nat} (h:i<l.length):bW ((l.drop i).map cm)=if cm l[i]=0 then bW ((l.drop (i+1)).map cm) else cm l[i]:=by
 rw [yU h];rfl
def aAq (h:Rm P L) (FN:Has P L 261 Ju) {v:AV} {l:List (List Nat)} (hv:bZ v l) (hl:l.length<=1000000) (hs:∀s,s∈l->s.length<9223372036854775808):aj P L 261 [v] (ab (bW (l.map cm))):=by
 have key:=fM (P:=P) (L:=L) (live:=[0,3]) (a:=ED)
  (I:=fun k st=>∃i:Nat,st=⟨[(0,v),(3,ab i)],[],0,0⟩/\i+k=l.length/\bW ((l.drop i).map cm)=bW (l.map cm))
  (Q:=fun ex st=>∃tm ct,st=⟨tm,[],ct,0⟩/\((ex= .ret/\ai tm 2=ab (bW (l.map cm)))\/(ex= .exit 0/\bW (l.map cm)=0))) ?_
 ·unfold aj;rw [aH FN];simp only [go_sem,Ju];generalize hq:D P L (.loop [0,3] ED) _=q;obtain ⟨ex,st,rfl,tm,ct,rfl,h2⟩:=bQ hq (key l.length) ⟨0,by simp only [go_sem,ya,ax,au hv.pu,ay _ hv.pu]<;>rfl,by omega,by simp⟩
  rcases h2 with ⟨rfl,h2⟩ | ⟨rfl,h3⟩
  ·simp only [go_sem,h2]
  ·simp only [go_sem,ax,h3]
 ·rintro k st ⟨i,rfl,hk,hd⟩;by_cases hi:i<l.length
  ·rw [aci hi] at hd;have e1:=ali h (hs l[i] (yF hi));have ev:=hv.aQ hi;unfold aj at e1;by_cases h1:cm l[i]=0
   ·left
    rw [yQ h1] at hd;rw [h1] at e1;simp only [go_sem,ya,ED,hv.len,show (i:Int)<l.length by omega,ev,e1,yq,yM];refine ⟨_,k-1,rfl,by omega,i+1,?_,by omega,hd⟩;rw [wrap64 (by omega) (by omega)];simp only [go_sem,ya,ax,au hv.pu,ay _ hv.pu]<;>rfl
   ·right
    rw [yB h1] at hd;simp only [go_sem,ya,ED,hv.len,show (i:Int)<l.length by omega,ev,e1,h1,yy,yP];refine ⟨_,_,rfl,by simp,_,_,rfl,.inl ⟨rfl,?_⟩⟩;rw [<-hd];simp only [go_sem]
  ·right
   simp only [go_sem,ya,ED,hv.len,show ¬(i:Int)<l.length by omega];refine ⟨_,_,rfl,by simp,_,_,rfl,.inr ⟨rfl,?_⟩⟩;rw [<-hd,xe (by omega)];rfl
end
end
section
open Go (IntKind)
open Classical in
noncomputable def bK (s:List Nat):Rat:=if h:cm s=0 then Classical.choose (ayw h) else 0
def Ea {s:List Nat} (h:cm s=0):s=RT (bK s)/\(aw (bK s).num.natAbs).length<=600/\(aw (bK s).den).length<=600:=by
 unfold bK
 grind
def LZ {z:Int} {k M:Nat} (h:(aw z.natAbs).length<=k) (hM:4*k<=M):Bd M z:=by
 have h1:=Ii z.natAbs;have h2:=Ik (aw z.natAbs).length;have h3:(2:Nat)^(4*(aw z.natAbs).length)<=2^M:=xh (by decide) (by omega);exact yT h1 (xi h2 h3)
def agN {s:List Nat} (h:cm s=0) {M:Nat} (hM:2400<=M):Hq M (bK s):=by
 obtain ⟨_,h1,h2⟩:=Ea h
 exact ⟨LZ h1 (by omega),LZ (z:=((bK s).den:Int)) (by rw [wK];exact h2) (by omega)⟩
noncomputable def alj (s:List Nat) (least:Int):Int:=if cm s=0 then (if df (bK s).num<least then 3 else 0) else cm s
instance (k:Nat) (z:Int):Decidable (Bd k z):=inferInstanceAs (Decidable (z.natAbs<2^k))
def aCs:RT 0=[48]:=by decide
def O9:Hq 2 0:=⟨by decide,by decide⟩
def aCt:Hq 2 1:=⟨by decide,by decide⟩
end
section
open Go (IntKind)
def ayN (hs h:Rat):Bool:=decide (hs=0)||decide (h<hs)
end
section
open Go (IntKind)
section
variable {s1 s2 s3 s4:Int} {w1 w2 w3 w4:AV} {l1 l2 l3 l4:List Nat}
def qw (a b c d:AV) (r:List AV):ib 4 true (a::b::c::d::r)=some (.agg [a,b,c,d]):=rfl
end
section
variable {P:aI} {L:Lib}
def QZ (a:List Nat):cV a a=true:=MH rfl
end
end
section
open Go (IntKind)
structure F4 (c1 c2 c3 c4:AV):Prop where
 ak:∀(n:Nat) (hp:Hp),freeze (n+20) hp (.agg [c1,c2,c3,c4])=some (.agg [c1,c2,c3,c4],hp)
 gk:∀hp:Hp,result hp (.agg [c1,c2,c3,c4])=some (.agg [c1,c2,c3,c4])
 st:∀(hp:Hp) (ct id:Nat) (a b c d:AV),ji hp ct id 0 4 [c1,c2,c3,c4] (some (.cells true true true 4 [a,b,c,d]))=some (.ae [],bc hp id (.cells true true true 4 [c1,c2,c3,c4]),ct)
 bx:∀ct:Nat,FD ct 4 [c1,c2,c3,c4]=some (.ptr ct 0,.cells true true true 4 [c1,c2,c3,c4])
 o1:dh c1=true
 o2:dh c2=true
 o3:dh c3=true
 o4:dh c4=true
 pu:a6 (.agg [c1,c2,c3,c4])=true
 z1:∀(n:Nat) (hp:Hp),freeze (n+1) hp c1=some (c1,hp)
 z2:∀(n:Nat) (hp:Hp),freeze (n+1) hp c2=some (c2,hp)
 z3:∀(n:Nat) (hp:Hp),freeze (n+1) hp c3=some (c3,hp)
 z4:∀(n:Nat) (hp:Hp),freeze (n+1) hp c4=some (c4,hp)
def dM.gen {v:AV} {a:Rat} (h:dM v a):∃c1 c2 c3 c4,v= .agg [c1,c2,c3,c4]/\F4 c1 c2 c3 c4:=by
 obtain ⟨s1,w1,s2,w2,rfl,h1,h2⟩:=h;obtain ⟨l1,u1⟩:=h1.aY;obtain ⟨l2,u2⟩:=h2.aY;refine ⟨_,_,_,_,rfl,fun n hp=>?_,nh u1 u2,fun hp ct id a b c d=>nf u1 u2 hp ct id a b c d,fun ct=>by simp only [go_sem,yb,bh,u1.pu,u1.one,u2.pu,u2.one],rfl,u1.one,rfl,u2.one,by simp [a6,aG,u1.pu,u2.pu],fun _ _=>rfl,fun n _=>u1.ak n,fun _ _=>rfl,fun n _=>u2.ak n⟩;exact cG _ _ (by simp only [go_sem,u1.ak,u2.ak])
end
section
open Go (IntKind)
def QL:List AV->List Rat->Prop
 | [],[]=>True
 | a::b::c::d::r,x::l=>dM (.agg [a,b,c,d]) x/\QL r l
 | _,_=>False
def QL.inv {cs:List AV} {x:Rat} {l:List Rat} (h:QL cs (x::l)):∃a b c d r,cs=a::b::c::d::r/\dM (.agg [a,b,c,d]) x/\QL r l:=by
 match cs,h with
 | a::b::c::d::r,h=>exact ⟨a,b,c,d,r,rfl,h.1,h.2⟩
def QL.Yw {cs:List AV} (h:QL cs []):cs=[]:=by
 match cs,h with
 | [],_=>rfl
 | [_],h=>exact h.elim
 | [_,_],h=>exact h.elim
 | [_,_,_],h=>exact h.elim
 | _::_::_::_::_,h=>exact h.elim
def QL.len:∀{l:List Rat} {cs:List AV},QL cs l->cs.length=l.length*4
 | [],_,h=>by rw [h.Yw];rfl
 | x::l,cs,h=>by
  obtain ⟨a,b,c,d,r,rfl,_,h2⟩:=h.inv
  have:=h2.len
  grind
def F4.Hr {c1 c2 c3 c4:AV} (g:F4 c1 c2 c3 c4):a6 c1=true/\a6 c2=true/\a6 c3=true/\a6 c4=true:=by
 have:=g.pu
 simpa only [a6,aG,vt,ye] using this
def dM.f4 {a b c d:AV} {x:Rat} (h:dM (.agg [a,b,c,d]) x):F4 a b c d:=by
 obtain ⟨_,_,_,_,e,g⟩:=h.gen
 grind
def QL.pu:∀{l:List Rat} {cs:List AV},QL cs l->aG cs=true
 | [],_,h=>by rw [h.Yw];rfl
 | x::l,cs,h=>by
  obtain ⟨a,b,c,d,r,rfl,h1,h2⟩:=h.inv;obtain ⟨p1,p2,p3,p4⟩:=h1.f4.Hr;simp only [aG,p1,p2,p3,p4,h2.pu,xM]
def QL.aO:∀{l m:List Rat} {cs ds:List AV},QL cs l->QL ds m->QL (cs++ds) (l++m)
 | [],m,cs,ds,h,k=>by rw [h.Yw];exact k
 | x::l,m,cs,ds,h,k=>by
  obtain ⟨a,b,c,d,r,rfl,h1,h2⟩:=h.inv;exact ⟨h1,h2.aO k⟩
def QL.snoc {l:List Rat} {x:Rat} {cs:List AV} {a b c d:AV} (h:QL cs l) (k:dM (.agg [a,b,c,d]) x):QL (cs++[a,b,c,d]) (l++[x]):=h.aO ⟨k,trivial⟩
def QL.get:∀{l:List Rat} {cs:List AV} {i:Nat},QL cs l->∀(hi:i<l.length),∃a b c d r,cs.drop (i*4)=a::b::c::d::r/\dM (.agg [a,b,c,d]) l[i]
 | [],_,i,_,hi=>absurd hi (yaR i)
 | x::l,cs,0,h,hi=>by
  obtain ⟨a,b,c,d,r,rfl,h1,_⟩:=h.inv
  grind
 | x::l,cs,i+1,h,hi=>by
  obtain ⟨a,b,c,d,r,rfl,_,h2⟩:=h.inv;obtain ⟨a',b',c',d',r',e,k⟩:=h2.get (i:=i) (by simpa using hi)
  grind
def cT (v:AV) (l:List Rat):Prop:=(v= .aa/\l=[])\/∃e cs,v= .aA e l.length cs/\QL cs l
section
variable {v:AV} {l:List Rat} {hp:Hp}
def cT.len (h:cT v l) {hp:Hp}:fP hp 1 v=some (.int .i64 (l.length:Nat)):=by
 rcases h with ⟨rfl,rfl⟩ | ⟨e,cs,rfl,h⟩<;>rfl
def cT.pu (h:cT v l):a6 v=true:=by
 rcases h with ⟨rfl,rfl⟩ | ⟨e,cs,rfl,h⟩<;>rfl
def cT.ak (h:cT v l) (n:Nat) {hp:Hp}:freeze (n+1) hp v=some (v,hp):=by
 rcases h with ⟨rfl,rfl⟩ | ⟨e,cs,rfl,h⟩<;>rfl
def cT.one (h:cT v l):dh v=true:=by
 rcases h with ⟨rfl,rfl⟩ | ⟨e,cs,rfl,h⟩<;>rfl
def cT.cells (h:cT v l):cellsOf v=[v]:=by
 rcases h with ⟨rfl,rfl⟩ | ⟨e,cs,rfl,h⟩<;>rfl
def cT.aQ (h:cT v l) {i:Nat} (hi:i<l.length):∃a b c d r,iN 4 i v=some (.b5 (a::b::c::d::r))/\dM (.agg [a,b,c,d]) l[i]:=by
 rcases h with ⟨rfl,rfl⟩ | ⟨e,cs,rfl,h⟩
 ·grind
 ·obtain ⟨a,b,c,d,r,e1,e2⟩:=h.get hi;refine ⟨a,b,c,d,r,?_,e2⟩;rw [RS e _ hi,e1]
def aqB:cT .aa []:= .inl ⟨rfl,rfl⟩
def H0 {cs:List AV} (e:Bool) (h:QL cs l):cT (.aA e l.length cs) l:= .inr ⟨e,cs,rfl,h⟩
end
def MZ {tm:Env} {a b c d x0 x1 x2 x3:AV} {r:List (Nat×Nat×X)} (h1:dh a=true) (h2:dh b=true) (h3:dh c=true) (h4:dh d=true):nT tm [x0,x1,x2,x3] 0 4 [a,b,c,d] r=fill tm [a,b,c,d] r:=by
 rw [RU (by rfl) (by simp) (by simp [cy,h1,h2,h3,h4])];rfl
def Bb (rw' pu ex:Bool) (a b c d:AV):Ge 0 1 4 (some (.cells rw' pu ex 4 [a,b,c,d]))=some (1,[a,b,c,d]):=rfl
def oe (hp:Hp) (cs:List AV):iU hp 4 true (.b5 cs)=ib 4 true cs:=rfl
end
section
abbrev Mx:=List (List Rat)
def jS (a b:List Rat) (x y:Rat):List Rat:=List.zipWith (fun p q=>p*x+q*y) a b
def Ej {a b:List Rat} {x y:Rat} (h:a.length=b.length):(jS a b x y).length=a.length:=by
 simp [jS,h]
def ML {a b:List Rat} {x y:Rat} {i:Nat} (ha:i<a.length) (hb:i<b.length) (h:i<(jS a b x y).length):(jS a b x y)[i]=a[i]*x+b[i]*y:=by
 simp [jS]
def gR (m:Mx) (i:Nat):List Rat:=m.getD i []
def cC (r:List Rat) (c:Nat):Rat:=r.getD c 0
def di {m:Mx} {i:Nat} (h:i<m.length):gR m i=m[i]:=by
 simp [gR,y7,xU h]
def ir {r:List Rat} {i:Nat} (h:i<r.length):cC r i=r[i]:=by
 simp [cC,y7,xU h]
def qB (m:Mx) (i j:Nat) (r:List Rat):gR (m.set i r) j=if i=j/\j<m.length then r else gR m j:=by
 simp only [gR,y7,List.getElem?_set]
 grind
def kC (m:Mx) (c:Nat):Nat->Nat->Nat
 | 0,p=>p
 | d+1,p=>if cC (gR m p) c=0 then kC m c d (p+1) else p
def SB (m:Mx) (c:Nat):∀d p,p<=kC m c d p/\kC m c d p<=p+d
 | 0,p=>⟨yr _,yr _⟩
 | d+1,p=>by
  have:=SB m c d (p+1)
  simp only [kC];split<;>omega
def R6 (m:Mx) (c:Nat):∀d p,kC m c d p<p+d->cC (gR m (kC m c d p)) c≠0
 | 0,p,h=>by simp only [kC] at h;omega
 | d+1,p,h=>by
  simp only [kC] at h ⊢
  split
  ·rename_i h0;rw [yQ h0] at h;exact R6 m c d (p+1) (by omega)
  ·grind
def cO (m:Mx) (i j:Nat):Mx:=(m.set i (gR m j)).set j (gR m i)
def oJ (m:Mx) (a c:Nat):Mx:=m.set a (jS (gR m a) (gR m a) (cC (gR m a) c)⁻¹ 0)
def oK (m:Mx) (a c i:Nat):Mx:=if i≠a/\cC (gR m i) c≠0 then m.set i (jS (gR m i) (gR m a) 1 (-(cC (gR m i) c))) else m
def eH (m:Mx) (a c:Nat):Nat->Mx
 | 0=>m
 | i+1=>oK (eH m a c i) a c i
def bC (s:Mx×List Nat) (c:Nat):Nat:=kC s.1 c (s.1.length-s.2.length) s.2.length
def eP (s:Mx×List Nat) (c:Nat):Mx:=oJ (cO s.1 s.2.length (bC s c)) s.2.length c
def il (s:Mx×List Nat) (c:Nat):Mx×List Nat:=
 if bC s c<s.1.length then (eH (eP s c) s.2.length c s.1.length,s.2++[c]) else s
def aJ (m:Mx):Nat->Mx×List Nat
 | 0=>(m,[])
 | c+1=>il (aJ m c) c
def AI (m:Mx) (i j:Nat):(cO m i j).length=m.length:=by simp [cO]
def auV (m:Mx) (a c:Nat):(oJ m a c).length=m.length:=by simp [oJ]
def auW (m:Mx) (a c i:Nat):(oK m a c i).length=m.length:=by unfold oK;split<;>simp
def AO (m:Mx) (a c:Nat):∀i,(eH m a c i).length=m.length
 | 0=>rfl
 | i+1=>by rw [eH,auW,AO m a c i]
def ze (s:Mx×List Nat) (c:Nat):(eP s c).length=s.1.length:=by rw [eP,auV,AI]
def auX (s:Mx×List Nat) (c:Nat):(il s c).1.length=s.1.length:=by
 unfold il;split
 ·simp only [AO,ze]
 ·rfl
def Cs (m:Mx):∀c,(aJ m c).1.length=m.length
 | 0=>rfl
 | c+1=>by rw [aJ,auX,Cs m c]
def wid (w:Nat) (m:Mx):Prop:=∀i,i<m.length->(gR m i).length=w
def wid.set {w:Nat} {m:Mx} {r:List Rat} (h:wid w m) (i:Nat) (hr:r.length=w):wid w (m.set i r):=fun j hj=>by
 rw [yaL] at hj;rw [qB];split
 ·grind
 ·exact h j hj
def wid.cO {w:Nat} {m:Mx} (h:wid w m) {i j:Nat} (hi:i<m.length) (hj:j<m.length):wid w (cO m i j):=(h.set i (h j hj)).set j (h i hi)
def wid.oJ {w:Nat} {m:Mx} (h:wid w m) {a:Nat} (ha:a<m.length) (c:Nat):wid w (oJ m a c):=h.set a (by rw [Ej rfl];exact h a ha)
def wid.oK {w:Nat} {m:Mx} (h:wid w m) {a i:Nat} (ha:a<m.length) (hi:i<m.length) (c:Nat):wid w (oK m a c i):=by
 unfold VE.oK;split
 ·exact h.set i (by rw [Ej ((h i hi).trans (h a ha).symm)];exact h i hi)
 ·exact h
def wid.eH {w:Nat} {m:Mx} (h:wid w m) {a:Nat} (ha:a<m.length) (c:Nat):∀i,i<=m.length->wid w (eH m a c i)
 | 0,_=>h
 | i+1,hi=>by
  have ih:=wid.eH h ha c i (by omega);exact ih.oK (by rw [AO];exact ha) (by rw [AO];omega) c
structure Pv (m:Mx) (w c:Nat) (s:Mx×List Nat):Prop where
 len:s.1.length=m.length
 wid:wid w s.1
 pv:s.2.length<=m.length
 lt:∀p,p∈s.2->p<c
def Pv.bC {m:Mx} {w c:Nat} {s:Mx×List Nat} (h:Pv m w c s) (c':Nat):s.2.length<=bC s c'/\bC s c'<=m.length:=by
 have:=SB s.1 c' (s.1.length-s.2.length) s.2.length
 have h1:=h.len;have h2:=h.pv;unfold VE.bC;omega
def Pv.eP {m:Mx} {w c:Nat} {s:Mx×List Nat} (h:Pv m w c s) {c':Nat} (hp:VE.bC s c'<s.1.length):VE.wid w (eP s c'):=by
 have h1:=(h.bC c').1;exact (h.wid.cO (by omega) hp).oJ (by rw [AI];omega) c'
def Pv.step {m:Mx} {w c:Nat} {s:Mx×List Nat} (h:Pv m w c s):Pv m w (c+1) (il s c):=by
 have h1:=(h.bC c).1;have h2:=h.len;unfold il;split
 ·rename_i hp;refine ⟨by simp only [AO,ze,h2],(h.eP hp).eH (by rw [ze];omega) c _ (by rw [ze];omega),by simp only [yL,yz,yO];omega,fun p hp=>?_⟩;rcases List.mem_append.1 hp with hp | hp
  ·have:=h.lt p hp;omega
  ·grind
 ·exact ⟨h2,h.wid,h.pv,fun p hp=>by have:=h.lt p hp;omega⟩
def AY {m:Mx} {w:Nat} (h:wid w m):∀c,Pv m w c (aJ m c)
 | 0=>⟨rfl,h,ud _,fun p hp=>by cases hp⟩
 | c+1=>(AY h c).step
def R7 {m:Mx} {a c:Nat}:∀{n:Nat},n<=m.length->∀j,gR (eH m a c n) j=if j<n/\j≠a/\cC (gR m j) c≠0 then jS (gR m j) (gR m a) 1 (-(cC (gR m j) c)) else gR m j
 | 0,_,j=>by rw [yB (by omega)];rfl
 | n+1,hn,j=>by
  have ih:=R7 (m:=m) (a:=a) (c:=c) (n:=n) (by omega);have en:gR (eH m a c n) n=gR m n:=by simp_all
  have ea:gR (eH m a c n) a=gR m a:=by simp_all
  rw [eH];unfold oK;rw [en,ea];by_cases h:n≠a/\cC (gR m n) c≠0
  ·rw [yQ h,qB];by_cases hj:n=j
   ·subst hj;rw [yQ ⟨rfl,by rw [AO];omega⟩,yQ ⟨by omega,h⟩]
   ·grind
  ·grind
def cX (K:Nat) (m:Mx):Prop:=∀i,i<m.length->∀x,x∈gR m i->Hq K x
def cX.mono {K J:Nat} {m:Mx} (h:cX K m) (hK:K<=J):cX J m:=fun i hi x hx=>(h i hi x hx).mono hK
def cX.set {K:Nat} {m:Mx} {r:List Rat} (h:cX K m) (i:Nat) (hr:∀x,x∈r->Hq K x):cX K (m.set i r):=fun j hj x hx=>by
 rw [yaL] at hj;rw [qB] at hx;split at hx
 ·grind
 ·exact h j hj x hx
def agO {r:List Rat} {c:Nat} (h:c<r.length):cC r c∈r:=by rw [ir h];exact yF h
def agP {a b:List Rat} {x y:Rat} (h:a.length=b.length) {z:Rat} (hz:z∈jS a b x y):∃p q,p∈a/\q∈b/\z=p*x+q*y:=by
 obtain ⟨i,hi,rfl⟩:=List.mem_iff_getElem.1 hz;have dT:=hi;rw [Ej h] at dT;exact ⟨_,_,yF dT,yF (h▸dT),ML dT (h▸dT) hi⟩
def aqC {r:List Rat} {t:Rat} {k:Nat} (hr:∀x,x∈r->Hq k x) (ht:Hq k t):∀z,z∈jS r r t 0->Hq (2*k) z:=fun z hz=>by
 obtain ⟨p,q,hp,_,rfl⟩:=agP rfl hz;rw [show p*t+q*0=p*t by grind];exact ((hr p hp).mul ht).mono (by omega)
def asG {r p:List Rat} {t:Rat} {k:Nat} (hl:r.length=p.length) (hr:∀x,x∈r->Hq k x) (hp:∀x,x∈p->Hq (2*k) x) (ht:Hq k t):∀z,z∈jS r p 1 (-t)->Hq (4*k+1) z:=fun z hz=>by
 obtain ⟨x,y,hx,hy,rfl⟩:=agP hl hz;rw [show x*1+y* -t=x+y* -t by grind];exact ((hr x hx).add ((hp y hy).mul ht.neg)).mono (by omega)
def cX.cO {K:Nat} {m:Mx} (h:cX K m) {i j:Nat} (hi:i<m.length) (hj:j<m.length):cX K (cO m i j):=(h.set i (h j hj)).set j (h i hi)
def cX.eP {m:Mx} {w c:Nat} {s:Mx×List Nat} (h:Pv m w c s) {k:Nat} (hk:cX k s.1) (hc:c<w) (hp:bC s c<s.1.length):(∀x,x∈gR (eP s c) s.2.length->Hq (2*k) x)/\∀i,i<s.1.length->i≠s.2.length->∀x,x∈gR (VE.eP s c) i->Hq k x:=by
 have h1:=(h.bC c).1;have hs:=hk.cO (i:=s.2.length) (by omega) hp;have hw:=h.wid.cO (i:=s.2.length) (by omega) hp;unfold VE.eP oJ;refine ⟨fun x hx=>?_,fun i hi dc x hx=>?_⟩
 ·rw [qB,yQ ⟨rfl,by rw [AI];omega⟩] at hx;have hr:=hs s.2.length (by rw [AI];omega);refine aqC hr (hr _ (agO ?_)).inv x hx;rw [hw _ (by rw [AI];omega)];exact hc
 ·rw [qB,yB (fun q=>dc q.1.symm)] at hx;exact hs i (by rw [AI];exact hi) x hx
def agQ {m:Mx} {w c a k:Nat} (hw:wid w m) (hc:c<w) (ha:a<m.length) (g1:∀x,x∈gR m a->Hq (2*k) x) (g2:∀i,i<m.length->i≠a->∀x,x∈gR m i->Hq k x) {n:Nat} (hn:n<=m.length):cX (4*k+1) (eH m a c n):=fun i hi x hx=>by
 rw [AO] at hi;rw [R7 hn] at hx;have wi:=hw i hi;have wa:=hw a ha
 split at hx
 ·rename_i q;exact asG (wi.trans wa.symm) (g2 i hi q.2.1) g1 (g2 i hi q.2.1 _ (agO (by rw [wi];exact hc))) x hx
 ·by_cases mb:i=a
  ·subst mb;exact (g1 x hx).mono (by omega)
  ·exact (g2 i hi mb x hx).mono (by omega)
def cX.step {m:Mx} {w c:Nat} {s:Mx×List Nat} (h:Pv m w c s) {k:Nat} (hk:cX k s.1) (hc:c<w) (Kx:1<=k):cX (4*k+1) (il s c).1:=by
 unfold il;split
 ·rename_i hp;have h1:=(h.bC c).1;obtain ⟨g1,g2⟩:=hk.eP h hc hp;exact agQ (h.eP hp) hc (by rw [ze];omega) g1 (fun i hi=>g2 i (by rw [ze] at hi;exact hi)) (by rw [ze];omega)
 ·exact hk.mono (by omega)
def RC {s:Mx×List Nat} {c:Nat} (h:¬bC s c<s.1.length):il s c=s:=yB h
def SX {m:Mx} {w K:Nat} (hw:wid w m) (hk:cX K m) (hK:1<=K):∀c,c<=w->∃k,1<=k/\k+1<=4^(aJ m c).2.length*(K+1)/\cX k (aJ m c).1
 | 0,_=>⟨K,hK,by simp [aJ],hk⟩
 | c+1,hc=>by
  obtain ⟨k,k0,k1,k2⟩:=SX hw hk hK c (by omega);have hP:=AY hw c;rw [aJ];by_cases hp:bC (aJ m c) c<(aJ m c).1.length
  ·refine ⟨4*k+1,by omega,?_,k2.step hP (by omega) k0⟩
   have:(il (aJ m c) c).2.length=(aJ m c).2.length+1:=by unfold il;rw [yQ hp];simp
   rw [this,xd,Nat.mul_right_comm];omega
  ·rw [RC hp];exact ⟨k,k0,k1,k2⟩
end
section
open Go (IntKind)
def Eb {a b:Nat} (h:aw a=aw b):a=b:=by
 have h1:=sT a;rw [h,sT b] at h1;exact (uQ h1).symm
def agR:∀(k n:Nat),n<k->n≠0->∃b r,aw n=b::r/\b≠48
 | 0,n,h,_=>absurd h (yaR n)
 | k+1,n,h,h0=>by
  by_cases h1:n<10
  ·exact ⟨48+n,[],nH h1,by omega⟩
  ·obtain ⟨b,r,e,hb⟩:=agR k (n/10) (by omega) (by omega);exact ⟨b,r++[48+n%10],by rw [oR (by omega),e];rfl,hb⟩
def adr (n:Nat):dD (aw n)=true:=by
 unfold dD;rw [sS,xQ];by_cases h0:n=0
 ·subst h0;decide
 ·obtain ⟨b,r,e,hb⟩:=agR (n+1) n (by omega) h0;rw [e]
  have:yu b 48=false:=by
   cases hq:yu b 48 with
   | false=>rfl
   | true=>exact absurd (yj hq) hb
  simp [this]
def ads (n:Nat):fg (aw n)=n:=by unfold fg;rw [sT];rfl
def Ml {z:Int} (h:¬z<0):aV z=aw z.natAbs:=by
 obtain ⟨m,rfl⟩:∃m:Nat,z=m:=⟨z.toNat,by omega⟩;rw [lD,wK]
def Nn (r:Rat):RT r=aV r.num++iR r.den:=rfl
def adt (r:Rat):bX (RT r)=(aV r.num).length:=by rw [Nn,Hz,Qz];rfl
def aij {r:Rat} (h1:(aw r.num.natAbs).length<=600) (h2:(aw r.den).length<=600):cm (RT r)=0:=by
 have key:∀neg:Bool,(neg=true->r.num.natAbs≠0)->mG neg (aw r.num.natAbs++iR r.den)=0:=by
  intro neg gO;have hco:wI r.num.natAbs r.den=1:=r.reduced;have gA:r.den≠0:=r.den_nz;generalize r.num.natAbs=m at*
  generalize r.den=d at*
  have hs:bX (aw m++iR d)=(aw m).length:=by rw [Hx _ (sS m),Qz];rfl
  have c1:¬((true=false)\/(neg=true/\aw m=[48])):=by
   rintro (h | ⟨h,h'⟩)
   ·cases h
   ·exact gO h (Eb (h'.trans (by decide)))
  unfold mG;rw [hs,uf,adr,yB c1];by_cases hd:d=1
  ·have hr:iR d=[]:=yQ hd;rw [hr,wD,yB (by omega),yB (by omega),yB (by omega)]
  ·have hr:iR d=47::aw d:=yB hd;have ik:(aw m++iR d).drop ((aw m).length+1)=aw d:=by
    rw [hr,show aw m++47::aw d=(aw m++[47])++aw d by simp,show (aw m).length+1=(aw m++[47]).length by simp,ug]
   have hl:(aw m++iR d).length=(aw m).length+1+(aw d).length:=by rw [hr];simp;omega
   rw [ik,hl,adr,ads,ads];have n0:aw d≠[48]:=fun e=>gA (Eb (e.trans (by decide)))
   have n1:aw d≠[49]:=fun e=>hd (Eb (e.trans (by decide)))
   rw [yB (by simp [n0,n1]),yB (by omega),yB (by simp [hco])]
 rw [Nn];by_cases h0:r.num<0
 ·rw [kD h0];show (if 45=45 then mG true (aw r.num.natAbs++iR r.den) else mG false (45::(aw r.num.natAbs++iR r.den)))=0
  rw [yQ rfl];exact key true (fun _=>by omega)
 ·rw [Ml h0];have k:=key false (fun h=>by cases h);have hp:=rz r.num.natAbs;have kZ:=sS r.num.natAbs
  cases hq:aw r.num.natAbs with
  | nil=>rw [hq] at hp;simp at hp
  | cons b t=>
   rw [hq] at k kZ
   have:=QW kZ
   show (if b=45 then mG true (t++iR r.den) else mG false (b::(t++iR r.den)))=0
   rw [yB (by omega)];exact k
def asH {a b:Int} (h:aV a=aV b):a=b:=by
 have hd:∀{z w:Int},z<0->¬w<0->aV z≠aV w:=by
  intro z w h1 h2 e;rw [kD h1,Ml h2] at e
  have:=sS w.natAbs
  rw [<-e] at this
  have:=QW this
  omega
 by_cases h1:a<0<;>by_cases h2:b<0
 ·rw [kD h1,kD h2,uW] at h
  have:=Eb h.2
  omega
 ·exact absurd h (hd h1 h2)
 ·exact absurd h.symm (hd h2 h1)
 ·rw [Ml h1,Ml h2] at h
  have:=Eb h
  omega
def ayO {a b:Rat} (h:RT a=RT b):a=b:=by
 have hs:=adt a;rw [h,adt b] at hs;rw [Nn,Nn] at h;obtain ⟨h1,h2⟩:=List.append_inj h hs.symm;refine Rat.ext (asH h1) ?_;have hp:∀n,aw n≠[]:=fun n e=>by have:=rz n;rw [e] at this;simp at this
 unfold iR at h2;by_cases ha:a.den=1<;>by_cases hb:b.den=1
 ·rw [ha,hb]
 ·rw [yQ ha,yB hb] at h2;cases h2
 ·rw [yB ha,yQ hb] at h2;cases h2
 ·rw [yB ha,yB hb,uW] at h2;exact Eb h2.2
def adu {r:Rat} (h1:(aw r.num.natAbs).length<=600) (h2:(aw r.den).length<=600):bK (RT r)=r:=(ayO (Ea (aij h1 h2)).1).symm
def IU {r:Rat} {K:Nat} (h:Hq K r) (hK:K<=1800):(aw r.num.natAbs).length<=600/\(aw r.den).length<=600:=by
 refine ⟨QC (B:=K) hK (by decide) h.1,QC (B:=K) hK (by decide) ?_⟩
 have:=h.2
 unfold Bd at this
 rwa [wK] at this
def aik {r:Rat} {K:Nat} (h:Hq K r) (hK:K<=1800):cm (RT r)=0:=aij (IU h hK).1 (IU h hK).2
def ai8 {r:Rat} {K:Nat} (h:Hq K r) (hK:K<=1800):LG r=false:=by
 obtain ⟨h1,h2⟩:=IU h hK;unfold LG LN;rw [wK,xa (by omega),xa (by omega)];rfl
noncomputable def kR (k:Nat) (s:List Nat):Bool:=decide (s.length<=2*k+2)&&(decide (cm s=0)&&(decide ((aw (bK s).num.natAbs).length<=k)&&decide ((aw (bK s).den).length<=k)))
section
variable {P:aI} {L:Lib}
def aAr (h:Rm P L) (zV:Has P L 359 rW) {k:Nat} (hk:k<=1000) {s:List Nat} (hs:s.length<9223372036854775808):aj P L 359 [.str s,ab k] (.bool (kR k s)):=by
 unfold aj kR;rw [aH zV];by_cases h1:s.length<=2*k+2
 ·have e1:=ali h (s:=s) (by omega);unfold aj at e1;rw [xo (show s.length<=2*k+2 from h1),xQ];by_cases h2:cm s=0
  ·rw [h2] at e1;obtain ⟨hR,_⟩:=Ea h2;have kr:=agN h2 (yr 2400);obtain ⟨e2,e3,e4⟩:=auU h kr (by omega);rw [<-hR] at e2 e4;have l1:=MJ kr.1;have l2:=MJ kr.2;rw [wK] at l2;rw [xo h2,xQ];by_cases h3:(aw (bK s).num.natAbs).length<=k
   ·rw [xo h3,xQ];by_cases h4:(aw (bK s).den).length<=k
    ·rw [xo h4]
     simp only [go_sem,ya,rW,wrap64 (n:=2*(k:Int)) (by omega) (by omega),wrap64 (n:=2*(k:Int)+2) (by omega) (by omega),yq,show (s.length:Int)<=2*(k:Int)+2 by omega,e1,e2,e3,e4,show ((aw (bK s).num.natAbs).length:Int)<=(k:Int) by omega,show ((aw (bK s).den).length:Int)<=(k:Int) by omega]
    ·rw [xa h4]
     simp only [go_sem,ya,rW,wrap64 (n:=2*(k:Int)) (by omega) (by omega),wrap64 (n:=2*(k:Int)+2) (by omega) (by omega),yq,show (s.length:Int)<=2*(k:Int)+2 by omega,e1,e2,e3,e4,show ((aw (bK s).num.natAbs).length:Int)<=(k:Int) by omega,show ¬((aw (bK s).den).length:Int)<=(k:Int) by omega,yy]
   ·rw [xa h3,xX]
    simp only [go_sem,ya,rW,wrap64 (n:=2*(k:Int)) (by omega) (by omega),wrap64 (n:=2*(k:Int)+2) (by omega) (by omega),yq,show (s.length:Int)<=2*(k:Int)+2 by omega,e1,e2,e3,show ¬((aw (bK s).num.natAbs).length:Int)<=(k:Int) by omega,yy]
  ·rw [xa h2,xX];have YN:¬cm s=0:=h2
   simp only [go_sem,ya,rW,wrap64 (n:=2*(k:Int)) (by omega) (by omega),wrap64 (n:=2*(k:Int)+2) (by omega) (by omega),yq,show (s.length:Int)<=2*(k:Int)+2 by omega,e1,YN,yy]
 ·rw [xa (show ¬s.length<=2*k+2 from h1),xX]
  simp only [go_sem,ya,rW,wrap64 (n:=2*(k:Int)) (by omega) (by omega),wrap64 (n:=2*(k:Int)+2) (by omega) (by omega),show ¬(s.length:Int)<=2*(k:Int)+2 by omega,yy]
end
end
section
open Go (IntKind)
section
variable {P:aI} {L:Lib}
def alk (h:Ck P L) {s:List Nat} (h0:cm s=0):∃r,aj P L 62 [.str s] r/\dM r (bK s):=by
 obtain ⟨hR,_⟩:=Ea h0;have kr:=agN h0 (yr 2400);have hl:=IT kr;obtain ⟨r,e,hr⟩:=m62 h.toTx (a:=bK s) (by omega);rw [<-hR] at e;exact ⟨r,e,hr⟩
end
end
section
open Go (IntKind)
def im:dz (.int .i64 0)=some 0:=rfl
def BF:dz (.int .i64 1)=some 1:=rfl
def acj:∀{ps:List (List AV)},(∀p,p∈ps->p.length=4)->ps.flatten.length=ps.length*4
 | [],_=>by simp
 | p::ps,h=>by
  have:=acj (ps:=ps) (fun q hq=>h q (List.mem_cons_of_mem _ hq))
  rw [vA,yL,this,h p List.mem_cons_self,yz,Nat.add_mul];omega
def zW (v:AV) (l:List Rat):Prop:=∃cs,v= .aA true l.length cs/\QL cs l
def zW.fs {v:AV} {l:List Rat} (h:zW v l):cT v l:=by
 obtain ⟨cs,rfl,h⟩:=h;exact H0 true h
section
variable {P:aI} {L:Lib}
def alm (h:Ck P L) (qK:Has P L 161 Fb) {v:AV} {l:List (List Nat)} (hv:bZ v l) (hl:l.length<=1000000) (hs:∀s,s∈l->s.length<=1000000000):aj P L 161 [v] (ab (bW (l.map cm))):=by
 unfold aj;rw [aH qK];simp only [go_sem,ya,Fb,hv.len];have key:=fM (P:=P) (L:=L) (live:=[6,7,8]) (a:=MR)
  (I:=fun k s=>∃i:Nat,s=⟨[(6,v),(7,ab l.length),(8,ab i)],[],0,0⟩/\i+k=l.length/\bW ((l.drop i).map cm)=bW (l.map cm))
  (Q:=fun ex s=>∃tm ct,s=⟨tm,[],ct,0⟩/\((ex= .ret/\ai tm 2=ab (bW (l.map cm)))\/(ex= .exit 0/\bW (l.map cm)=0))) ?_
 ·generalize hq:D P L (.loop [6,7,8] MR) _=q;obtain ⟨ex,s,rfl,tm,ct,rfl,h2⟩:=bQ hq (key l.length) ⟨0,by simp only [go_sem,ya,ax,au hv.pu,ay _ hv.pu]<;>rfl,by omega,by simp⟩
  rcases h2 with ⟨rfl,h2⟩ | ⟨rfl,h2⟩
  ·simp only [go_sem,h2]
  ·rw [h2];simp only [go_sem,ax]
 ·rintro k s ⟨i,rfl,hk,hf⟩;simp only [go_sem,ya,MR];by_cases hi:i<l.length
  ·have dT:(i:Int)<l.length:=by omega
   have e1:=m86 h (hs l[i] (yF hi));unfold aj at e1;rw [aci hi] at hf;by_cases hz:cm l[i]=0
   ·left
    rw [hz] at e1;simp only [go_sem,ya,dT,hv.aQ hi,e1];refine ⟨_,k-1,rfl,by omega,i+1,?_,by omega,by rw [yQ hz] at hf;exact hf⟩
    rw [wrap64 (by omega) (by omega)];simp only [go_sem,ya,ax,au hv.pu,ay _ hv.pu]<;>rfl
   ·right
    simp only [go_sem,ya,dT,hv.aQ hi,e1,hz];rw [yB hz] at hf;refine ⟨_,_,rfl,by simp,_,_,rfl,.inl ⟨rfl,?_⟩⟩;simp only [go_sem,hf]
  ·right
   have dT:¬(i:Int)<l.length:=by omega
   simp only [go_sem,dT];refine ⟨_,_,rfl,by simp,_,_,rfl,.inr ⟨rfl,?_⟩⟩;rw [<-hf,xe (by omega)];rfl
def aCu (h:Ck P L) (sK:Has P L 88 jf) {v:AV} {l:List (List Nat)} (hv:bZ v l) (hl:l.length<=1000000) (hc:∀s,s∈l->cm s=0):∃r,aj P L 88 [v] r/\zW (shut r) (l.map bK):=by
 have zf:∀n,(ym (n+1) [AV.int .i64 0,.aa,.int .i64 0,.aa]).flatten= .int .i64 0:: .aa:: .int .i64 0:: .aa::(ym n [AV.int .i64 0,.aa,.int .i64 0,.aa]).flatten:=fun n=>by rw [wC,vA];rfl
 have zl:∀n,(ym n [AV.int .i64 0,.aa,.int .i64 0,.aa]).flatten.length=n*4:=fun n=>by
  rw [acj (fun p hp=>by rw [List.eq_of_mem_replicate hp];rfl),List.length_replicate]
 have key:=fM (P:=P) (L:=L) (live:=[3,9,10,11]) (a:=I8)
  (I:=fun k st=>∃(i:Nat) (qs:List AV),i+k=l.length/\QL qs ((l.take i).map bK)/\st=⟨[(3,.aB 0 0 l.length),(9,v),(10,ab l.length),(11,ab i)],[(0,.cells true true true 4 (qs++(ym (l.length-i) [AV.int .i64 0,.aa,.int .i64 0,.aa]).flatten))],1,0⟩)
  (Q:=fun ex st=>∃tm hp ct qs,QL qs (l.map bK)/\st=⟨tm,hp,ct,0⟩/\ex= .exit 0/\ai tm 3= .aB 0 0 l.length/\aq hp 0=some (.cells true true true 4 qs)) ?_
 ·unfold aj;rw [aH sK];have mk:qH 0 4 64 [AV.int .i64 0,.aa,.int .i64 0,.aa] (some l.length) (some l.length)=some (.aB 0 0 l.length,.cells true true true 4 (ym l.length [AV.int .i64 0,.aa,.int .i64 0,.aa]).flatten):=CL (by omega) (by omega) (by rfl) (by rfl);simp only [go_sem,ya,yb,jf,hv.len,LY (show (0:Int)<=l.length by omega),xY,mk];generalize hq:D P L (.loop [3,9,10,11] I8) _=q;obtain ⟨ex,st,rfl,tm,hp,ct,qs,lf,rfl,rfl,t3,g0⟩:=bQ hq (key l.length) ⟨0,[],by omega,trivial,by simp only [go_sem,ya,yb,ax,au hv.pu,ay _ hv.pu]<;>rfl⟩
  have oh:=lf.len;rw [yt] at oh;refine ⟨.bD true 4 l.length qs,?_,?_⟩
  ·simp only [go_sem,yb,ax,t3,g0];exact D3 (jn _ _ _) oh (by decide)
  ·exact ⟨qs,by rw [yt];rfl,lf⟩
 ·rintro k st ⟨i,qs,sn,lf,rfl⟩;by_cases hi:i<l.length
  ·left
   obtain ⟨r,e2,hr⟩:=alk h (hc _ (yF hi));have bn:=hr;obtain ⟨r1,r2,r3,r4,rfl,gr⟩:=hr.gen;have lq:qs.length=i*4:=by rw [lf.len,yt,yI,xn (by omega)]
   have pr:=gr.Hr;have aR:∀(hp:Hp) (ct:Nat),ji hp ct 0 (i*4) 4 [r1,r2,r3,r4] (some (.cells true true true 4 (qs++(ym (l.length-i) [AV.int .i64 0,.aa,.int .i64 0,.aa]).flatten)))=some (.ae [],bc hp 0 (.cells true true true 4 ((qs++[r1,r2,r3,r4])++(ym (l.length-(i+1)) [AV.int .i64 0,.aa,.int .i64 0,.aa]).flatten)),ct):=fun hp ct=>by
    rw [A8 (by rfl) (by rw [yL,lq,zl];omega) (by simp [cy,gr.o1,gr.o2,gr.o3,gr.o4])];have hov:over (i*4) [r1,r2,r3,r4] (qs++(ym (l.length-i) [AV.int .i64 0,.aa,.int .i64 0,.aa]).flatten)=(qs++[r1,r2,r3,r4])++(ym (l.length-(i+1)) [AV.int .i64 0,.aa,.int .i64 0,.aa]).flatten:=by
     rw [show l.length-i=(l.length-(i+1))+1 by omega,zf];unfold over;rw [<-lq,uf,show qs.length+[r1,r2,r3,r4].length=qs.length+4 from rfl,<-List.drop_drop,ug];rfl
    rw [hov];simp [aG,pr.1,pr.2.1,pr.2.2.1,pr.2.2.2]
   unfold aj at e2;simp only [go_sem,ya,I8,show (i:Int)<l.length by omega,hv.aQ hi,e2,b6,LY (show (0:Int)<=i by omega),xY,cM 0 0 hi,yf,aR];refine ⟨_,k-1,rfl,by omega,i+1,qs++[r1,r2,r3,r4],by omega,?_,?_⟩
   ·rw [yY hi,xu];exact lf.snoc bn
   ·rw [wrap64 (by omega) (by omega)];simp only [go_sem,ya,yb,ax,au hv.pu,ay _ hv.pu]<;>rfl
  ·right
   have:i=l.length:=by omega
   subst this;rw [yG (yr _)] at lf;simp only [go_sem,ya,I8,show ¬(l.length:Int)<l.length by omega,Nat.sub_self];exact ⟨_,_,rfl,by simp,_,_,_,qs,lf,rfl,rfl,by simp only [go_sem,ya],by simp only [go_sem];simp⟩
end
end
section
open Go (IntKind)
def lyT (w:AV) (hh sc st ox oy wx wy:List Nat):AV:= .agg [w,.str hh,.str sc,.str st,.str ox,.str oy,.str wx,.str wy]
noncomputable def aCv (s:List (List Int)) (hh sc st ox oy wx wy:List Nat):Int:=bW [apG s,alj hh 0,alj sc 1,cm st,bW [cm ox,cm oy],bW [cm wx,cm wy]]
def HA {a:Int} {l:List Int}:bW (a::l)=0↔a=0/\bW l=0:=by
 simp only [bW]
 grind
end
section
open Go (IntKind)
structure Lay where
 w:AV
 s:List (List Int)
 hh:List Nat
 sc:List Nat
 st:List Nat
 ox:List Nat
 oy:List Nat
 wx:List Nat
 wy:List Nat
def Lay.cs (a:Lay):List AV:=[a.w,.str a.hh,.str a.sc,.str a.st,.str a.ox,.str a.oy,.str a.wx,.str a.wy]
def Lay.T (a:Lay):AV:=lyT a.w a.hh a.sc a.st a.ox a.oy a.wx a.wy
noncomputable def Lay.E (a:Lay):Int:=aCv a.s a.hh a.sc a.st a.ox a.oy a.wx a.wy
end
section
open Go (IntKind)
def take_set {α:Type} {l:List α} {i:Nat} {a:α} (h:i<l.length):(l.set i a).take (i+1)=l.take i++[a]:=by
 rw [yY (by simpa using h),List.getElem_set_self,List.take_set_of_le (yr i)]
def stS {hp:Hp} {ct id o:Nat} {v:List Nat} {ex:Bool} {l:List (List Nat)} (h:o<l.length):ji hp ct id o 1 [.str v] (some (.cells true true ex 1 (l.map .str)))=some (.ae [],bc hp id (.cells true true ex 1 ((l.set o v).map .str)),ct):=by
 rw [A8 (by rfl) (by simp;omega) (by rfl)]
 have:over o [.str v] (l.map .str)=(l.set o v).map .str:=by
  simp only [over,yz,yO,yf];rw [List.map_set,vO,yQ (by simpa using h)]
  simp
 rw [this];rfl
def aCw (ct:Nat) {n:Nat} (h:n<=10000000000):qH ct 1 16 [.str []] (some n) (some n)=some (.aB ct 0 n,.cells true true true 1 ((ym n []).map .str)):=by
 rw [CL (sz:=1) (by omega) (by omega) (by rfl) (by rfl)]
 have:∀n,(ym n [AV.str []]).flatten=(ym n []).map .str:=fun n=>by
  induction n with
  | zero=>rfl
  | succ n ih=>rw [wC,vA,ih,wC,xc];rfl
 rw [this];rfl
def auY (l:List (List Nat)):bZ (.aA true l.length (l.map .str)) l:=MK true l
section
variable {P:aI} {L:Lib}
def aCx (h:Has P L 123 Jj) (hT:Tx P L) {v:AV} {l:List Rat} {K:Nat} (hv:cT v l) (hl:l.length<=1000000) (hk:∀x,x∈l->Hq K x) (hK:K<=4000000000):∃r,aj P L 123 [v] r/\bZ (shut r) (l.map RT):=by
 have key:=fM (P:=P) (L:=L) (live:=[3,9,10,11]) (a:=It)
  (I:=fun k st=>∃(i:Nat) (out:List (List Nat)),i+k=l.length/\out.length=l.length/\out.take i=(l.take i).map RT/\st=⟨[(3,.aB 0 0 l.length),(9,v),(10,ab l.length),(11,ab i)],[(0,.cells true true true 1 (out.map .str))],1,0⟩)
  (Q:=fun ex st=>∃tm hp ct,st=⟨tm,hp,ct,0⟩/\ex= .exit 0/\ai tm 3= .aB 0 0 l.length/\aq hp 0=some (.cells true true true 1 ((l.map RT).map .str))) ?_
 ·unfold aj;rw [aH h];simp only [go_sem,ya,yb,Jj,hv.len,LY (show (0:Int)<=l.length by omega),xY,aCw 0 (show l.length<=10000000000 by omega)];generalize hq:D P L (.loop [3,9,10,11] It) _=q;obtain ⟨ex,st,rfl,tm,hp,ct,rfl,rfl,t3,g0⟩:=bQ hq (key l.length) ⟨0,ym l.length [],by omega,by simp,by simp,by simp only [go_sem,ya,yb,ax,au hv.pu,ay _ hv.pu]<;>rfl⟩
  refine ⟨.bD true 1 l.length ((l.map RT).map .str),?_,?_⟩
  ·simp only [go_sem,yb,ax,t3,g0];exact D3 (jn _ _ _) (by simp) (by decide)
  ·have:=auY (l.map RT)
   rwa [yt] at this
 ·rintro k st ⟨i,out,sn,hlen,E5,rfl⟩;by_cases hi:i<l.length
  ·left
   obtain ⟨a,b,c,d,r,e1,hx⟩:=hv.aQ hi;have e2:=m46 hT hx (hk _ (yF hi)) hK;have gx:=hx.f4;unfold aj at e2
   simp only [go_sem,ya,yb,yh,It,show (i:Int)<l.length by omega,e1,oe,bh,gx.st,qw,gx.ak,yK,e2,LY (show (0:Int)<=i by omega),xY,cM 0 0 hi,yf,stS (l:=out) (o:=i) (by omega)];refine ⟨_,k-1,rfl,by omega,i+1,out.set i (RT l[i]),by omega,by simpa using hlen,?_,?_⟩
   ·rw [take_set (by omega),E5,yY hi,xu];rfl
   ·rw [wrap64 (by omega) (by omega)];simp only [go_sem,ya,yb,ax,au hv.pu,ay _ hv.pu]<;>rfl
  ·right
   have:i=l.length:=by omega
   subst this;rw [yG (by omega),yG (yr _)] at E5;subst E5;simp only [go_sem,ya,It,show ¬(l.length:Int)<l.length by omega];exact ⟨_,_,rfl,by simp,_,_,_,rfl,rfl,by simp only [go_sem,ya],by simp only [go_sem]⟩
end
end
section
open Go (IntKind)
noncomputable def Lay.low (sh:List Nat) (a:Lay):Bool:=ayN (bK sh) (bK a.hh)
def LJ {α:Type} {f:α->Int}:∀{l:List α},bW (l.map f)=0->∀a,a∈l->f a=0
 | [],_,_,h=>by cases h
 | x::l,h,a,ha=>by
  rw [xc,HA] at h;rcases List.mem_cons.1 ha with rfl | ha
  ·grind
  ·exact LJ h.2 a ha
end
section
open Go (IntKind)
def cf.snoc {α β:Type} {p:α->β->Prop}:∀{l:List α} {m:List β} {a:α} {b:β},cf p l m->p a b->cf p (l++[a]) (m++[b])
 | [],[],_,_,_,h=>⟨h,trivial⟩
 | _::_,_::_,_,_,h,k=>⟨h.1,cf.snoc h.2 k⟩
end
section
open Go (IntKind)
def cg {β:Type} (p:AV->β->Prop) (v:AV) (M:List β):Prop:=∃rows,cR v rows/\cf p rows M
section
variable {β:Type} {p:AV->β->Prop} {v:AV} {s:List β}
def cg.len (h:cg p v s) {hp:Hp}:fP hp 1 v=some (.int .i64 (s.length:Nat)):=by
 obtain ⟨rows,h1,h2⟩:=h;rw [<-h2.len];exact h1.len
def cg.pu (h:cg p v s):a6 v=true:=by obtain ⟨rows,h1,h2⟩:=h;exact h1.pu
def cg.ak (h:cg p v s) (n:Nat) {hp:Hp}:freeze (n+1) hp v=some (v,hp):=by obtain ⟨rows,h1,h2⟩:=h;exact h1.ak n
def cg.bH (h:cg p v s):VE.bH v=v:=by obtain ⟨rows,h1,h2⟩:=h;exact h1.bH
def cg.one (h:cg p v s):dh v=true:=by obtain ⟨rows,h1,h2⟩:=h;exact h1.one
def cg.cells (h:cg p v s):cellsOf v=[v]:=by obtain ⟨rows,h1,h2⟩:=h;exact h1.cells
def cg.aQ (h:cg p v s) {i:Nat} (hi:i<s.length):∃r rest,p r s[i]/\iN 1 i v=some (.b5 (r::rest)):=by
 obtain ⟨rows,h1,h2⟩:=h;have dT:i<rows.length:=by rw [h2.len];exact hi
 exact ⟨_,_,h2.get dT hi,h1.aQ dT⟩
def Q0:cg p .aa []:=⟨[],rq,trivial⟩
def AJ (e:Bool) {rows:List AV} (h:cf p rows s):cg p (.aA e s.length rows) s:=by
 have:=Ih e rows
 rw [h.len] at this;exact ⟨rows,this,h⟩
end
noncomputable def mT (w:Nat) (r:List (List Nat)):Int:=bW [if r.length=0 then 12 else 0,if 64<r.length then 5 else 0,if r.length=w then 0 else 2,bW (r.map cm)]
noncomputable def fj (M:List (List (List Nat))):Int:=if M.length=0 then 12 else if 64<M.length then 5 else bW (M.map (mT (M.getD 0 []).length))
def Je {β:Type} {M:List (List β)} (h:0<M.length):M.getD 0 []=M[0]:=by simp_all
def oV (id:Nat):Nat->AV
 | 0=> .aa
 | n+1=> .aB id 0 (n+1)
def oH (id z:Nat) (cs:List AV) (r:Hp):Nat->Hp
 | 0=>r
 | _+1=>(id,.cells true true false z cs)::r
def oC (id:Nat):Nat->Nat
 | 0=>id
 | _+1=>id+1
section
variable {P:aI} {L:Lib}
def aCy (h:Ck P L) (qK:Has P L 161 Fb) (Bz:Has P L 126 Jl) {v r:AV} {M:List (List (List Nat))} {l:List (List Nat)} (hv:cg bZ v M) (hM:0<M.length) (hr:bZ r l) (hl:l.length<=1000000) (hs:∀s,s∈l->s.length<=1000000000):aj P L 126 [r,.b5 [v]] (ab (mT (M.getD 0 []).length l)):=by
 obtain ⟨r0,rest,h0,e0⟩:=hv.aQ (i:=0) hM;rw [Je hM];have e1:=mH h.oc (decide ((l.length:Int)=0)) 12;have e2:=mH h.oc (decide ((64:Int)<l.length)) 5;have e3:=mH h.oc (!decide ((l.length:Int)=(M[0].length:Nat))) 2;have e4:=alm h qK hr hl hs;have q1:(if decide ((l.length:Int)=0)=true then (12:Int) else 0)=if l.length=0 then 12 else 0:=by
  simp only [xI];split<;>omega
 have q2:(if decide ((64:Int)<l.length)=true then (5:Int) else 0)=if 64<l.length then 5 else 0:=by
  simp only [xI];split<;>omega
 have q3:(if (!decide ((l.length:Int)=(M[0].length:Nat)))=true then (2:Int) else 0)=if l.length=M[0].length then 0 else 2:=by
  simp only [Bool.not_eq_true',vm];split<;>omega
 rw [q1] at e1;rw [q2] at e2;rw [q3] at e3;have e5:aj P L 125 _ _:=Nd.Kb h.Kc (lE true [if l.length=0 then (12:Int) else 0,if 64<l.length then 5 else 0,if l.length=M[0].length then 0 else 2,bW (l.map cm)]) (by simp);unfold mT;simp only [yz,yO,xc,vD] at e5;unfold aj at e1 e2 e3 e4 e5 ⊢;rw [aH Bz];simp only [go_sem,ya,yb,yD,yp,yh,Jl,hr.len,hr.ak,e1,e2,im,e0,h0.len,e3,e4,e5]
def aCz (BA:Has P L 127 Jm) {v:AV} {M:List (List (List Nat))} (hv:cg bZ v M) (hl:M.length<=1000000) {g:Nat} {cap:List AV} (hc:aG cap=true) (hz:∀(n:Nat) (hp:Hp),cI (n+900) hp cap=some (cap,hp)) {f:List (List Nat)->Int} (hg:∀w a,a∈M->bZ w a->aj P L g (w::cap) (ab (f a))):aj P L 127 [v,.fn (.f g) [] cap] (ab (bW (M.map f))):=by
 have pf:a6 (.fn (.f g) [] cap)=true:=by simp [a6,aG,hc]
 have key:=fM (P:=P) (L:=L) (live:=[1,8,9,10]) (a:=MQ)
  (I:=fun k s=>∃i:Nat,s=⟨[(1,.fn (.f g) [] cap),(8,v),(9,ab M.length),(10,ab i)],[],0,0⟩/\i+k=M.length/\bW ((M.drop i).map f)=bW (M.map f))
  (Q:=fun ex s=>∃tm ct,s=⟨tm,[],ct,0⟩/\((ex= .ret/\ai tm 4=ab (bW (M.map f)))\/(ex= .exit 0/\bW (M.map f)=0))) ?_
 ·unfold aj;rw [aH BA];simp only [go_sem,ya,Jm,hv.len];generalize hq:D P L (.loop [1,8,9,10] MQ) _=q;obtain ⟨ex,s,rfl,tm,ct,rfl,h2⟩:=bQ hq (key M.length) ⟨0,by simp only [go_sem,ya,ax,au hv.pu,ay _ hv.pu,au pf,ay _ pf]<;>rfl,by omega,by simp⟩
  rcases h2 with ⟨rfl,h2⟩ | ⟨rfl,h2⟩
  ·simp only [go_sem,h2]
  ·rw [h2];simp only [go_sem,ax]
 ·rintro k s ⟨i,rfl,hk,hf⟩;simp only [go_sem,ya,MQ];by_cases hi:i<M.length
  ·have dT:(i:Int)<M.length:=by omega
   obtain ⟨r,rest,hr,e0⟩:=hv.aQ hi;have e1:=hg r _ (yF hi) hr;rw [yU hi,xc] at hf;simp only [bW] at hf;by_cases eY:f M[i]=0
   ·left
    rw [eY] at e1;simp only [go_sem,ya,dT,e0,hr.ak,hz,e1];refine ⟨_,k-1,rfl,by omega,i+1,?_,by omega,by rw [yQ eY] at hf;exact hf⟩
    rw [wrap64 (by omega) (by omega)];simp only [go_sem,ya,ax,au hv.pu,ay _ hv.pu,au pf,ay _ pf]<;>rfl
   ·right
    simp only [go_sem,ya,dT,e0,hr.ak,hz,e1,eY];rw [yB eY] at hf;refine ⟨_,_,rfl,by simp,_,_,rfl,.inl ⟨rfl,?_⟩⟩;simp only [go_sem,hf]
  ·right
   have dT:¬(i:Int)<M.length:=by omega
   simp only [go_sem,dT];refine ⟨_,_,rfl,by simp,_,_,rfl,.inr ⟨rfl,?_⟩⟩;rw [<-hf,xe (by omega)];rfl
def P4 (h:Ck P L) (qK:Has P L 161 Fb) (Bz:Has P L 126 Jl) (BA:Has P L 127 Jm) (Hs:Has P L 84 pQ) {v:AV} {M:List (List (List Nat))} (hv:cg bZ v M) (hl:M.length<=1000000) (hr:∀r,r∈M->r.length<=1000000/\∀s,s∈r->s.length<=1000000000):aj P L 84 [v] (ab (fj M)):=by
 have e1:=mH h.oc (decide ((M.length:Int)=0)) 12;have e2:=mH h.oc (decide ((64:Int)<M.length)) 5;have e3:∀a b:Int,aj P L 125 _ _:=fun a b=>Nd.Kb h.Kc (lE true [a,b]) (by simp)
 unfold fj;unfold aj at e1 e2 e3 ⊢;rw [aH Hs];by_cases h0:M.length=0
 ·rw [yQ h0];rw [show decide ((M.length:Int)=0)=true by simp only [xI];omega] at e1;rw [show decide ((64:Int)<M.length)=false by simp only [vm];omega] at e2;have e4:bO P L (D P L) 125 [.aA true 2 [ab 12,ab 0]]=some (ab 12):=e3 12 0;simp only [xC,yN,xf] at e1 e2;simp only [go_sem,ya,yb,yD,yp,yh,pQ,hv.len,hv.pu,hv.one,hv.cells,Nf,show (M.length:Int)=0 by omega,yq,show ¬(64:Int)<0 by omega,yy,e1,e2,e4,uy,yP]
 rw [yB h0];rw [show decide ((M.length:Int)=0)=false by simp only [vm];omega] at e1;by_cases DP:64<M.length
 ·rw [yQ DP];rw [show decide ((64:Int)<M.length)=true by simp only [xI];omega] at e2;have e4:bO P L (D P L) 125 [.aA true 2 [ab 0,ab 5]]=some (ab 5):=e3 0 5;simp only [xC,yN,xf] at e1 e2;simp only [go_sem,ya,yb,yD,yp,yh,pQ,hv.len,hv.pu,hv.one,hv.cells,Nf,show ¬(M.length:Int)=0 by omega,yq,show (64:Int)<(M.length:Int) by omega,yy,e1,e2,e4,uy,yP]
 ·rw [yB DP];rw [show decide ((64:Int)<M.length)=false by simp only [vm];omega] at e2;have e4:bO P L (D P L) 125 [.aA true 2 [ab 0,ab 0]]=some (ab 0):=e3 0 0;have e5:=aCz BA hv hl (g:=126) (cap:=[.b5 [v]]) rfl (fun _ _=>rfl) (fun w a ha hw=>aCy h qK Bz hv (by omega) hw (hr a ha).1 (hr a ha).2);simp only [yN,xf] at e1 e2;simp only [go_sem,ya,yb,yD,yp,yh,pQ,hv.len,hv.pu,hv.ak,hv.one,hv.cells,Nf,show ¬(M.length:Int)=0 by omega,show ¬(64:Int)<(M.length:Int) by omega,yy,e1,e2,e4,e5,yq,yM]
end
end
section
open Go (IntKind)
def cf.take {α β:Type} {p:α->β->Prop}:∀{l:List α} {m:List β} (i:Nat),cf p l m->cf p (l.take i) (m.take i)
 | [],[],i,_=>by simp [cf]
 | _::_,_::_,0,_=>trivial
 | _::_,_::_,i+1,h=>⟨h.1,cf.take i h.2⟩
def cf.set {α β:Type} {p:α->β->Prop}:∀{l:List α} {m:List β} (i:Nat) {a:α} {b:β},cf p l m->p a b->cf p (l.set i a) (m.set i b)
 | [],[],i,_,_,_,_=>by simp [cf]
 | _::_,_::_,0,_,_,h,k=>⟨k,h.2⟩
 | _::_,_::_,i+1,_,_,h,k=>⟨h.1,cf.set i h.2 k⟩
section
variable {P:aI} {L:Lib}
def ai9 (h:Ck P L) (sK:Has P L 88 jf) (BB:Has P L 225 Jt) {v:AV} {M:List (List (List Nat))} (hv:cg bZ v M) (hl:M.length<=1000000) (hr:∀r,r∈M->r.length<=1000000/\∀s,s∈r->cm s=0):∃r,aj P L 225 [v] r/\cg zW (shut r) (M.map (xH bK)):=by
 have key:=fM (P:=P) (L:=L) (live:=[3,6,7,8]) (a:=Ez)
  (I:=fun k st=>∃(i:Nat) (rows:List AV),i+k=M.length/\cf zW rows ((M.take i).map (xH bK))/\st=⟨[(3,oV 0 i),(6,v),(7,ab M.length),(8,ab i)],oH 0 1 rows [] i,oC 0 i,0⟩)
  (Q:=fun ex st=>∃tm ct rows,st=⟨tm,oH 0 1 rows [] M.length,ct,0⟩/\ex= .exit 0/\ai tm 3=oV 0 M.length/\cf zW rows (M.map (xH bK))) ?_
 ·unfold aj;rw [aH BB];simp only [go_sem,ya,Jt,hv.len];generalize hq:D P L (.loop [3,6,7,8] Ez) _=q;obtain ⟨ex,st,rfl,tm,ct,rows,rfl,rfl,t3,hR⟩:=bQ hq (key M.length) ⟨0,[],by omega,trivial,by simp only [go_sem,ya,ax,au hv.pu,ay _ hv.pu]<;>rfl⟩
  have hlen:=hR.len;rw [yt] at hlen
  cases hn:M.length with
  | zero=>
   rw [hn] at t3;refine ⟨.aa,by simp only [go_sem,ax,t3,oV,oH],?_⟩;rw [yx hn];exact Q0
  | succ n=>
   rw [hn] at t3 hlen;refine ⟨.bD false 1 (n+1) rows,?_,?_⟩
   ·simp only [go_sem,yb,ax,t3,oV,oH];exact D3 (jn _ _ _) (by rw [hlen,yh]) (by decide)
   ·have:=AJ false hR
    rwa [yt,hn] at this
 ·rintro k st ⟨i,rows,hk,hR,rfl⟩;by_cases hi:i<M.length
  ·left
   obtain ⟨r,rest,ew,e0⟩:=hv.aQ hi;have hm:=hr _ (yF hi);obtain ⟨q,e1,hq⟩:=aCu h sK ew hm.1 hm.2;have lf:=hq.fs;have B9:cf zW (rows++[shut q]) ((M.take (i+1)).map (xH bK)):=by
    rw [yY hi,xu];exact hR.snoc hq
   have hlen:=hR.len;rw [yt,yI,xn (by omega)] at hlen
   cases i with
   | zero=>
    have:rows=[]:=yx hlen
    subst this;simp only [go_sem,ya,yb,xg,yD,yp,yh,Ez,oV,oH,oC,show ((0:Nat):Int)<M.length by omega,e0,ew.ak,e1,lf.pu,lf.one,lf.cells,gX];refine ⟨_,k-1,rfl,by omega,1,_,by omega,B9,?_⟩;simp only [go_sem,ya,yb,ax,au hv.pu,ay _ hv.pu]<;>rfl
   | succ i=>
    simp only [go_sem,ya,yb,yp,yh,Ez,oV,oH,oC,show ((i+1:Nat):Int)<M.length by omega,e0,ew.ak,e1,lf.pu,lf.one,lf.cells]
    rw [fY (ex:=false) (pu:=true) (cs:=rows) (by simp only [go_sem,ya]) (by rw [hlen,yh]) (by omega) (by omega) (by decide) (by simp only [go_sem,lf.one])];simp only [go_sem,ya,yb,lf.pu];refine ⟨_,k-1,rfl,by omega,i+1+1,_,by omega,B9,?_⟩;rw [wrap64 (by omega) (by omega)];simp only [go_sem,ya,yb,ax,au hv.pu,ay _ hv.pu]<;>rfl
  ·right
   have:i=M.length:=by omega
   subst this;rw [xx] at hR;simp only [go_sem,ya,Ez,show ¬(M.length:Int)<M.length by omega];exact ⟨_,_,rfl,by simp,_,_,rows,rfl,rfl,by simp only [go_sem,ya],hR⟩
def cf.imp {α β:Type} {p q:α->β->Prop} (h:∀a b,p a b->q a b):∀{l:List α} {m:List β},cf p l m->cf q l m
 | [],[],_=>trivial
 | _::_,_::_,⟨h1,h2⟩=>⟨h _ _ h1,cf.imp h h2⟩
def cg.imp {β:Type} {p q:AV->β->Prop} (h:∀a b,p a b->q a b) {v:AV} {s:List β} (hv:cg p v s):cg q v s:=by
 obtain ⟨rows,h1,h2⟩:=hv;exact ⟨rows,h1,h2.imp h⟩
def Yx (h:Ck P L) (sK:Has P L 88 jf) (BB:Has P L 225 Jt) {v:AV} {M:List (List (List Nat))} (hv:cg bZ v M) (hl:M.length<=1000000) (hr:∀r,r∈M->r.length<=1000000/\∀s,s∈r->cm s=0):∃r,aj P L 225 [v] r/\cg cT (shut r) (M.map (xH bK)):=by
 obtain ⟨r,h1,h2⟩:=ai9 h sK BB hv hl hr;exact ⟨r,h1,h2.imp fun _ _ h=>h.fs⟩
def aln (h:Fr' P L) (qM:Has P L 240 C5) {u v vx vy:AV} {a b:List Rat} {x y:Rat} {K:Nat} (hu:cT u a) (hv:cT v b) (hx:dM vx x) (hy:dM vy y) (hl:a.length=b.length) (hn:a.length<=1000000) (ka:∀z,z∈a->Hq K z) (kb:∀z,z∈b->Hq K z) (kx:Hq K x) (ky:Hq K y) (hK:K<=2000000000):∃r,aj P L 240 [u,v,vx,vy] r/\cT (shut r) (jS a b x y):=by
 have lc:=Ej (x:=x) (y:=y) hl;obtain ⟨x1,x2,x3,x4,rfl,gx⟩:=hx.gen;obtain ⟨y1,y2,y3,y4,rfl,gy⟩:=hy.gen;have key:=fM (P:=P) (L:=L) (live:=[0,1,6,7,9,12,13]) (a:=EC)
  (I:=fun k st=>∃(i:Nat) (cs:List AV),i+k=a.length/\QL cs ((jS a b x y).take i)/\st=⟨[(0,u),(1,v),(6,.ptr 0 0),(7,.ptr 1 0),(9,oV 2 i),(12,ab a.length),(13,ab i)],oH 2 4 cs [(1,.cells true true true 4 [y1,y2,y3,y4]),(0,.cells true true true 4 [x1,x2,x3,x4])] i,oC 2 i,0⟩)
  (Q:=fun ex st=>∃tm ct cs,st=⟨tm,oH 2 4 cs [(1,.cells true true true 4 [y1,y2,y3,y4]),(0,.cells true true true 4 [x1,x2,x3,x4])] a.length,ct,0⟩/\ex= .exit 0/\ai tm 9=oV 2 a.length/\QL cs (jS a b x y)) ?_
 ·unfold aj;rw [aH qM];simp only [go_sem,ya,yb,C5,hu.len,gx.bx,gy.bx];generalize hq:D P L (.loop [0,1,6,7,9,12,13] EC) _=q;obtain ⟨ex,st,rfl,tm,ct,cs,rfl,rfl,t9,hQ⟩:=bQ hq (key a.length) ⟨0,[],by omega,trivial,by simp only [go_sem,ya,yb,ax,au hu.pu,ay _ hu.pu,au hv.pu,ay _ hv.pu]<;>rfl⟩
  have hlen:=hQ.len;rw [lc] at hlen
  cases hn:a.length with
  | zero=>
   rw [hn] at t9;refine ⟨.aa,by simp only [go_sem,ax,t9,oV,oH],?_⟩;rw [yx (lc.trans hn)];exact aqB
  | succ n=>
   rw [hn] at t9 hlen;refine ⟨.bD false 4 (n+1) cs,?_,?_⟩
   ·simp only [go_sem,yb,ax,t9,oV,oH];exact D3 (jn _ _ _) hlen (by decide)
   ·have:=H0 false hQ
    rwa [lc,hn] at this
 ·rintro k st ⟨i,cs,hk,hQ,rfl⟩;by_cases hi:i<a.length
  ·left
   obtain ⟨p1,p2,p3,p4,pr,e1,hp⟩:=hu.aQ hi;obtain ⟨q1,q2,q3,q4,qr,e2,hq⟩:=hv.aQ (i:=i) (by omega);have kp:=ka _ (yF hi);have kq:=kb _ (yF (show i<b.length by omega));obtain ⟨s,e3,hs⟩:=ZM h hp hx kp kx (by omega);obtain ⟨t,e4,ht⟩:=ZM h hq hy kq ky (by omega);obtain ⟨z,e5,hz⟩:=m74 h hs ht ((kp.mul kx).mono (show K+K<=2*K by omega)) ((kq.mul ky).mono (show K+K<=2*K by omega)) (by omega);have eY:=hz;obtain ⟨s1,s2,s3,s4,rfl,gs⟩:=hs.gen;obtain ⟨t1,t2,t3,t4,rfl,gt⟩:=ht.gen;obtain ⟨z1,z2,z3,z4,rfl,gz⟩:=hz.gen;have gp:=hp.f4;have gq:=hq.f4;have bz:∀q,nT q [AV.int .i64 0,.aa,.int .i64 0,.aa] 0 4 [z1,z2,z3,z4] []=fill q [z1,z2,z3,z4] []:=fun q=>MZ gz.o1 gz.o2 gz.o3 gz.o4
   obtain ⟨Z3,Z4,Z5,Z6⟩:=gz.Hr;have pY:aG [z1,z2,z3,z4]=true:=by simp only [aG,Z3,Z4,Z5,Z6,xM]
   unfold aj at e3 e4 e5;have p6:QL (cs++[z1,z2,z3,z4]) ((jS a b x y).take (i+1)):=by
    rw [yY (by omega),ML hi (by omega)];exact hQ.snoc eY
   have hlen:=hQ.len;rw [yI,lc,xn (by omega)] at hlen
   cases i with
   | zero=>
    have:cs=[]:=yx (by omega)
    subst this;simp only [go_sem,ya,yb,xg,yD,yp,EC,oV,oH,oC,show ((0:Nat):Int)<a.length by omega,e1,e2,oe,qw,gx.ak,gy.ak,gp.ak,gq.ak,e3,e4,b6,gs.ak,gt.ak,e5,bz,Z3,Z4,Z5,Z6,xM,Bb,gX];refine ⟨_,k-1,rfl,by omega,1,_,by omega,p6,?_⟩;rw [wrap64 (by omega) (by omega)];simp only [go_sem,ya,yb,ax,au hu.pu,ay _ hu.pu,au hv.pu,ay _ hv.pu]<;>rfl
   | succ i=>
    simp only [go_sem,ya,yb,xg,EC,oV,oH,oC,show ((i+1:Nat):Int)<a.length by omega,e1,e2,oe,qw,gx.ak,gy.ak,gp.ak,gq.ak,e3,e4,b6,gs.ak,gt.ak,e5,bz,Z3,Z4,Z5,Z6,xM,Bb]
    rw [fY (ex:=false) (pu:=true) (cs:=cs) (by simp only [go_sem,ya]) hlen (by omega) (by omega) (by decide) (by simp only [go_sem,gz.o1,gz.o2,gz.o3,gz.o4])];simp only [go_sem,ya,yb,pY];refine ⟨_,k-1,rfl,by omega,i+1+1,_,by omega,p6,?_⟩;rw [wrap64 (by omega) (by omega)];simp only [go_sem,ya,yb,ax,au hu.pu,ay _ hu.pu,au hv.pu,ay _ hv.pu]<;>rfl
  ·right
   have:i=a.length:=by omega
   subst this;rw [yG (by omega)] at hQ;simp only [go_sem,ya,EC,show ¬(a.length:Int)<a.length by omega];exact ⟨_,_,rfl,by simp,_,_,cs,rfl,rfl,by simp only [go_sem,ya],hQ⟩
end
end
section
open Go (IntKind)
def alo (a:Rat):decide (df a.num=0)=decide (a=0):=by
 have:df a.num=0↔a=0:=by
  rw [<-Rat.num_eq_zero];unfold df
  grind
 grind
def Bc {rows:List AV} {p:Nat} (h:p<rows.length):ui p rows=rows[p]::ui (p+1) rows:=by simp_all
def No {hp:Hp} {ct id at_:Nat} {ex:Bool} {r:AV} {rows:List AV} (h:at_<rows.length) (h1:dh r=true) (h2:a6 r=true):ji hp ct id at_ 1 [r] (some (.cells true true ex 1 rows))=some (.ae [],bc hp id (.cells true true ex 1 (rows.set at_ r)),ct):=by
 rw [A8 (by rfl) (by omega) (by simp [cy,h1])]
 have:over at_ [r] rows=rows.set at_ r:=by
  simp only [over,yz,yO,yf];rw [vO,yQ h]
  simp
 rw [this];simp [aG,h2]
def aqD {hp:Hp} {id n h:Nat} {rw' pu ex:Bool} {cs:List AV} {tm:Env} {y:X} (hg:aq hp id=some (.cells rw' pu ex 1 cs)) (hy:dz (aD tm y)=some h) (h2:h<=n):
  eV hp (.sl 1) (.aB id 0 n) tm none (some y)=some (.aB id 0 h):=by
 have e1:cY tm 0 none=some 0:=rfl;have e2:cY tm n (some y)=some h:=hy;have e3:(yu 0 h&& !true)=false:=by simp_all
 simp only [eV,hg,e1,e2,yo (ud h),yo h2,wV,xM,yA,e3,yS,tN,y8,Nat.sub_zero]
def Pa (hp:Hp) (ct sz:Nat) (q:Option (Nat×List AV)) (d:AV):fS:=
 match q,d with
 | some (m,new),.aB id o n=>
  match aq hp id with
  | some (.cells true pu ex z cs)=>
   bif yu z sz&&(yE (o+n*sz) cs.length&&cy new) then
    some (.int .i64 (min m n:Nat),bc hp id (.cells true (pu&&aG new) ex z (over o (new.take (min m n*sz)) cs)),ct)
   else none
  | _=>none
 | _,_=>none
def ayP {P:aI} {L:Lib} {f:cA} {tm:Env} {hp:Hp} {ct:Nat} (sz:Nat) (d s:X):bf P L f tm hp ct (.mJ sz d s)=Pa hp ct sz (jD hp sz (aD tm s)) (aD tm d):=by
 show cJ tm hp ct (.mJ sz d s)=_
 simp only [cJ,Pa]
 cases jD hp sz (aD tm s) with
 | none=>rfl
 | some q=>obtain ⟨m,new⟩:=q;cases aD tm d<;>rfl
def auZ {hp:Hp} {ct id n:Nat} {ex:Bool} {cs new:List AV} (hg:aq hp id=some (.cells true true ex 1 cs)) (hl:cs.length=n) (hn:new.length=n) (ho:cy new=true) (ap:aG new=true):Pa hp ct 1 (some (n,new)) (.aB id 0 n)=some (.int .i64 n,bc hp id (.cells true true ex 1 new),ct):=by
 have e:over 0 (new.take (min n n*1)) cs=new:=by
  simp only [over,tZ,xG,yf]
  grind
 simp only [Pa,hg,wV,yf,yh,hl,yo (yr n),ho,xM,yA,ap,Nat.min_self]
 grind
def aqE {rows:List AV} {m:Mx} (h:cf cT rows m):cy rows=true/\aG rows=true:=by
 induction rows generalizing m with
 | nil=>exact ⟨rfl,rfl⟩
 | cons a r ih=>
  cases m with
  | nil=>exact h.elim
  | cons b s=>
   obtain ⟨h1,h2⟩:=ih h.2;exact ⟨by simp [cy,h1,h.1.one],by simp [aG,h2,h.1.pu]⟩
def aoZ {rows Ht:List AV} {n k:Nat} (hl:rows.length=n) (hk:k<=n) (hp:Ht.length=k):result [(1,.cells true true false 1 Ht),(0,.cells true true true 1 rows)] (.ae [.aB 0 0 k,.aB 1 0 k])=some (.ae [.bD (yu k n) 1 k (rows.take k),.bD false 1 k Ht]):=by
 have h1:Em [.aB 0 0 k,.aB 1 0 k]=some [0,1]:=rfl;have e2:yR 0 1=true:=rfl;have g0:aq [(1,Obj.cells true true false 1 Ht),(0,.cells true true true 1 rows)] 0=some (.cells true true true 1 rows):=rfl;have g1:aq (dP [(1,Obj.cells true true false 1 Ht),(0,.cells true true true 1 rows)] 0) 1=some (.cells true true false 1 Ht):=rfl;simp only [result,h1,sY,pc,g0,g1,yf,yh,hl,hp,yo hk,yo (yr k),yA,e2,vt,xQ,xX,slice,yK]
 grind
def aoe {rows:List AV} {n:Nat} (hl:rows.length=n) (hn:0<n):result [(0,.cells true true true 1 rows)] (.ae [.aB 0 0 0,.aa])=some (.ae [.bD false 1 0 [],.aa]):=by
 have h1:Em [.aB 0 0 0,.aa]=some [0]:=rfl;have e2:yR 0 1=true:=rfl;have g0:aq [(0,Obj.cells true true true 1 rows)] 0=some (.cells true true true 1 rows):=rfl;have e3:yu 0 n=false:=fW (by omega);have e4:∀ap,pc deep ap AV.aa=some (.aa,ap):=fun _=>rfl
 simp only [result,h1,sY,e4];simp only [pc,g0,yf,yh,hl,yo (ud n),yA,e2,vt,xQ,slice,yK,e3,tZ]
def b3 (rows o z:List AV):Hp:=[(2,.cells true true true 4 z),(1,.cells true true true 4 o),(0,.cells true true true 1 rows)]
section
variable {P:aI} {L:Lib}
def ayQ (h:Fr' P L) {rows o z pv:List AV} {m:Mx} (hR:cf cT rows m) {w:Nat} (hw:wid w m) {c:Nat} (hc:c<w) {n:Nat} (hn:m.length=n) (ij:n<=1000) {k a W F:Nat}:
  ∀(d:Nat) (st:St),(∃p:Nat,aS [4,5,6,7,8,9,10,11,24,25] st=⟨[(4,.aB 0 0 n),(5,.fn (.f 240) [] []),(6,.ptr 1 0),(7,.ptr 2 0),(8,oV 3 k),(9,ab c),(10,ab a),(11,ab p),(24,ab W),(25,ab c)],oH 3 1 pv (b3 rows o z) k,oC 3 k,0⟩/\p+d=n/\kC m c d p=F)->
   ∃ex s',D P L (.loop [4,5,6,7,8,9,10,11,24,25] CD) st=some (ex,s')/\∃tm ct,s'=⟨tm,oH 3 1 pv (b3 rows o z) k,ct,0⟩/\ex= .exit 2/\ai tm 4= .aB 0 0 n/\ai tm 5= .fn (.f 240) [] []/\ai tm 6= .ptr 1 0/\ai tm 7= .ptr 2 0/\ai tm 8=oV 3 k/\ai tm 9=ab c/\ai tm 10=ab a/\ai tm 11=ab F/\ai tm 24=ab W/\ai tm 25=ab c:=by
 intro dq sq;generalize bB:aS [4,5,6,7,8,9,10,11,24,25] sq=s0;revert bB s0 sq dq;apply dI;rintro d st ⟨p,rfl,hpd,hF⟩;have lr:=hR.len;by_cases hp:p<m.length
 ·have ic:p<rows.length:=by omega
  have ZZ:p<n:=by omega
  have h0:=hR.get ic hp;have wp:=hw p hp;rw [di hp] at wp;obtain ⟨a1,a2,a3,a4,r,e1,hx⟩:=h0.aQ (i:=c) (by omega);have e2:=akQ h hx;have gx:=hx.f4;obtain ⟨d,rfl⟩:∃d',d=d'+1:=⟨d-1,by omega⟩;simp only [kC,di hp,ir (show c<m[p].length by omega)] at hF;have e3:=alo (m[p][c]'(by omega));unfold aj at e2;by_cases hz:m[p][c]'(by omega)=0
  ·left
   rw [yQ hz] at hF;rw [xo hz] at e3;cases k
   all_goals
    simp only [oV,oH,oC,b3];simp only [go_sem,ya,yb,yh,CD,show (p:Int)<n by omega,yq,cM 0 0 ZZ,yf,Bc ic,EW,e1,oe,qw,gx.ak,e2,e3];refine ⟨_,d,rfl,by omega,p+1,?_,by omega,hF⟩;rw [wrap64 (by omega) (by omega)];simp only [go_sem,ya,yb,ax]<;>rfl
  ·right
   rw [yB hz] at hF;subst hF;rw [xa hz] at e3;cases k
   all_goals
    simp only [oV,oH,oC,b3];simp only [go_sem,ya,yb,yh,CD,show (p:Int)<n by omega,yq,cM 0 0 ZZ,yf,Bc ic,EW,e1,oe,qw,gx.ak,e2,e3];exact ⟨_,_,rfl,by simp,_,_,rfl,rfl,by simp only [go_sem,ya],by simp only [go_sem,ya],by simp only [go_sem,ya],by simp only [go_sem,ya],by simp only [go_sem,ya],by simp only [go_sem,ya],by simp only [go_sem,ya],by simp only [go_sem,ya],by simp only [go_sem,ya],by simp only [go_sem,ya]⟩
 ·right
  have:d=0:=by omega
  subst this;simp only [kC] at hF;subst hF;cases k
  all_goals
   simp only [oV,oH,oC,b3];simp only [go_sem,ya,yb,CD,show ¬(p:Int)<n by omega,yy];exact ⟨_,_,rfl,by simp,_,_,rfl,rfl,by simp only [go_sem,ya],by simp only [go_sem,ya],by simp only [go_sem,ya],by simp only [go_sem,ya],by simp only [go_sem,ya],by simp only [go_sem,ya],by simp only [go_sem,ya],by simp only [go_sem,ya],by simp only [go_sem,ya],by simp only [go_sem,ya]⟩
def ayR (h:Fr' P L) (qM:Has P L 240 C5) {o1 o2 o3 o4:AV} {z pv:List AV} {m:Mx} {w:Nat} (hw:wid w m) {c:Nat} (hc:c<w) (qX:w<=1000) {n:Nat} (hn:m.length=n) (ij:n<=1000) {a:Nat} (ha:a<m.length) {K:Nat} (hk:∀i,i<=m.length->cX K (eH m a c i)) (jT:2<=K) (hK:K<=2000000000) (ho:dM (.agg [o1,o2,o3,o4]) 1) {k W:Nat}:
  ∀(d:Nat) (st:St),(∃(i:Nat) (rows:List AV),aS [4,5,6,7,8,9,10,24,25,89,90] st=⟨[(4,.aB 0 0 n),(5,.fn (.f 240) [] []),(6,.ptr 1 0),(7,.ptr 2 0),(8,oV 3 k),(9,ab c),(10,ab a),(24,ab W),(25,ab c),(89,ab n),(90,ab i)],oH 3 1 pv (b3 rows [o1,o2,o3,o4] z) k,oC 3 k,0⟩/\i+d=n/\cf cT rows (eH m a c i))->
   ∃ex s',D P L (.loop [4,5,6,7,8,9,10,24,25,89,90] CE) st=some (ex,s')/\∃tm ct rows,s'=⟨tm,oH 3 1 pv (b3 rows [o1,o2,o3,o4] z) k,ct,0⟩/\ex= .exit 4/\ai tm 4= .aB 0 0 n/\ai tm 5= .fn (.f 240) [] []/\ai tm 6= .ptr 1 0/\ai tm 7= .ptr 2 0/\ai tm 8=oV 3 k/\ai tm 9=ab c/\ai tm 24=ab W/\ai tm 25=ab c/\cf cT rows (eH m a c n):=by
 intro dq sq;generalize bB:aS [4,5,6,7,8,9,10,24,25,89,90] sq=s0;revert bB s0 sq dq;apply dI;rintro d st ⟨i,rows,rfl,hid,hR⟩;have lr:=hR.len;have le:=AO m a c i;have go:=ho.f4;by_cases hi:i<m.length
 ·left
  have P5:i<rows.length:=by omega
  have et:i<n:=by omega
  have han:a<n:=by omega
  have P6:i<(eH m a c i).length:=by omega
  have har:a<rows.length:=by omega
  have P7:a<(eH m a c i).length:=by omega
  have h0:=hR.get P5 P6;have hA:=hR.get har P7;have wi:=hw.eH ha c i (by omega) i P6;have wa:=hw.eH ha c i (by omega) a P7;have ki:=hk i (by omega) i P6;have kA:=hk i (by omega) a P7;have sL:eH m a c (i+1)=oK (eH m a c i) a c i:=rfl;unfold oK at sL;rw [di P6] at wi ki sL;rw [di P7] at wa kA sL;obtain ⟨a1,a2,a3,a4,r,e1,hx⟩:=h0.aQ (i:=c) (by omega);have e2:=akQ h hx;have gx:=hx.f4;have e3:=alo ((eH m a c i)[i][c]'(by omega));rw [ir (show c<(eH m a c i)[i].length by omega)] at sL;have kx:=ki _ (yF (show c<(eH m a c i)[i].length by omega));have Z7:IntKind.wrap .i64 ((i:Int)+1)=((i+1:Nat):Int):=wrap64 (by omega) (by omega);unfold aj at e2;by_cases mb:i=a
  ·subst mb;rw [yB (fun q=>q.1 rfl)] at sL;rw [<-sL] at hR;cases k
   all_goals
    simp only [oV,oH,oC,b3];simp only [go_sem,ya,yb,CE,show (i:Int)<n by omega,yq,yM];refine ⟨_,d-1,rfl,by omega,i+1,rows,?_,by omega,hR⟩;rw [Z7];simp only [go_sem,ya,yb,ax]<;>rfl
  ·by_cases hz:(eH m a c i)[i][c]'(by omega)=0
   ·rw [yB (fun q=>q.2 hz)] at sL;rw [<-sL] at hR;rw [xo hz] at e3;cases k
    all_goals
     simp only [oV,oH,oC,b3];simp only [go_sem,ya,yb,yh,CE,show (i:Int)<n by omega,yq,show ¬(i:Int)=a by omega,yy,yP,cM 0 0 et,yf,Bc P5,EW,e1,oe,qw,gx.ak,e2,e3,yM];refine ⟨_,d-1,rfl,by omega,i+1,rows,?_,by omega,hR⟩;rw [Z7];simp only [go_sem,ya,yb,ax]<;>rfl
   ·rw [yQ ⟨mb,hz⟩] at sL;rw [xa hz] at e3;obtain ⟨ng,e4,hng⟩:=aBJ h hx kx (by omega);obtain ⟨y,e5,hy⟩:=aln h qM h0 hA ho hng (by omega) (by omega) ki kA (aCt.mono (by omega)) kx.neg hK;obtain ⟨n1,n2,n3,n4,rfl,gn⟩:=hng.gen;have B9:cf cT (rows.set i (shut y)) (eH m a c (i+1)):=by rw [sL];exact hR.set i hy
    unfold aj at e4 e5;cases k
    all_goals
     simp only [oV,oH,oC,b3];simp only [go_sem,ya,yb,yh,CE,show (i:Int)<n by omega,yq,show ¬(i:Int)=a by omega,yy,yP,cM 0 0 et,cM 0 0 han,yf,Bc P5,Bc har,EW,e1,oe,ix,yK,gx.ak,e2,e3,e4,b6,h0.ak,hA.ak,go.ak,gn.ak,e5,hy.cells,No P5 hy.one hy.pu];refine ⟨_,d-1,rfl,by omega,i+1,_,?_,by omega,B9⟩;rw [Z7];simp only [go_sem,ya,yb,ax]<;>rfl
 ·right
  have:i=n:=by omega
  subst this;cases k
  all_goals
   simp only [oV,oH,oC,b3];simp only [go_sem,ya,yb,CE,show ¬(i:Int)<i by omega,yy];exact ⟨_,_,rfl,by simp,_,_,rows,rfl,rfl,by simp only [go_sem,ya],by simp only [go_sem,ya],by simp only [go_sem,ya],by simp only [go_sem,ya],by simp only [go_sem,ya],by simp only [go_sem,ya],by simp only [go_sem,ya],by simp only [go_sem,ya],hR⟩
end
end
end VE
