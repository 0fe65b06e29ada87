import Derived.Test.YtflgmingejdfnaaGreatDoorXas
import Derived.Test.YtflgmingejdfnaaGreatDoorXar
set_option linter.all false
set_option maxRecDepth 100000
open Bool renaming and_true→uq,false_and→uh,false_eq_true→yt,not_false→xB,not_true→y9,true_and→tf,true_eq_false→tj
open Int renaming gcd→xL,natAbs_ediv_of_dvd→wZ,natAbs_natCast→uj,tdiv_eq_ediv_of_nonneg→xu,toNat_natCast→wo
open Int.ofNat renaming inj→th
open List renaming cons_append→yH,drop_left→uV,drop_zero→vc,eq_nil_of_length_eq_zero→yP,getElem_cons_zero→uC,length_append→yW,length_cons→yz,length_drop→wA,length_map→yU,length_nil→y5,length_take→yK,map_append→xG,map_cons→yV,map_nil→wU,nil_append→xE,replicate→yx,take_left→sD,take_length→wi
open Nat renaming add_comm→yaz,add_zero→xS,beq→yq,ble→yA,ble_eq_true_of_le→yv,div_eq_of_lt→tV,eq_zero_or_pos→xp,gcd→xU,gcd_comm→vI,le_of_ble_eq_true→yr,le_refl→yC,le_trans→xz,lt_of_lt_of_le→yX,mod_add_div→sC,mod_eq_of_lt→vG,mul_add→xY,mul_assoc→xZ,mul_comm→uR,mul_le_mul_left→xq,mul_lt_mul''→uE,mul_lt_mul_of_pos_right→ui,mul_one→yh,mul_pos→yaw,mul_zero→vD,pow_le_pow_left→ua,pow_lt_pow_iff_right→uz,pow_pos→yaK,pow_succ→xy,reduceAdd→yc,reduceEqDiff→ya,reduceLT→yj,reduceLeDiff→yd,reduceMul→yo,zero_add→yy
open Rat renaming divInt→xQ
namespace VE
section
open Go (IntKind)
section
variable {P:aA} {L:Lib}
def ad4 {v w:AV} {a vs:List Int} {f:Int} (hv:aX v a) (hw:aX w vs) {n:Nat} (la:a.length<=9000000000) {A:Nat}:
  ∀k st,(∃us:List Int,bw [0,8,9,10,11] st=⟨[(0,v),(8,.aq 0 0 1),(9,w),(10,aa n),(11,.aq 1 0 us.length)],[(1,.cells true true false 1 (us.map aa)),(0,.cells false true true 1 [aa f])],2,0⟩/\us.length+k=a.length+1/\dg us/\dv us=A)->
   ∃ex st',D P L (.loop [0,8,9,10,11] Bp) st=some (ex,st')/\∃tm us,st'=⟨tm,[(1,.cells true true false 1 (us.map aa)),(0,.cells false true true 1 [aa f])],2,0⟩/\ex= .exit 0/\ah tm 8= .aq 0 0 1/\ah tm 9=w/\ah tm 10=aa n/\ah tm 11= .aq 1 0 (a.length+1)/\us.length=a.length+1/\dg us/\dv us=A:=by
 refine cG (I:=fun k st=>∃us:List Int,st=⟨[(0,v),(8,.aq 0 0 1),(9,w),(10,aa n),(11,.aq 1 0 us.length)],[(1,.cells true true false 1 (us.map aa)),(0,.cells false true true 1 [aa f])],2,0⟩/\us.length+k=a.length+1/\dg us/\dv us=A)
  (Q:=fun ex st'=>∃tm us,st'=⟨tm,[(1,.cells true true false 1 (us.map aa)),(0,.cells false true true 1 [aa f])],2,0⟩/\ex= .exit 0/\ah tm 8= .aq 0 0 1/\ah tm 9=w/\ah tm 10=aa n/\ah tm 11= .aq 1 0 (a.length+1)/\us.length=a.length+1/\dg us/\dv us=A) ?_
 rintro k st ⟨us,rfl,hk,gu,bC⟩;have ea:((a.length:Nat):Int)+1=((a.length+1:Nat):Int):=rfl;by_cases hi:us.length<a.length+1
 ·left
  simp only [go_sem,ya,yc,yd,yh,Bp,hv.len,ea,wrapN (n:=a.length+1) (by omega),show ((us.length:Nat):Int)<((a.length+1:Nat):Int) by omega]
  rw [mr (ex:=false) (pu:=true) (cs:=us.map aa) (by simp only [go_sem,ya]) (by simp) (by omega) (by omega) (by decide) (by simp only [go_sem])];refine ⟨_,k-1,rfl,by omega,us++[0],?_,by simp;omega,fc.2 ⟨gu,iP.2 (by decide)⟩,by rw [jy];simp [dv,bC]⟩;rw [xG,yW];simp only [go_sem,ya,yc,aJ,aP hv.pu,aS _ hv.pu,aP hw.pu,aS _ hw.pu]<;>rfl
 ·right
  have hl:us.length=a.length+1:=by omega
  rw [hl]
  simp only [go_sem,ya,Bp,hv.len,ea,wrapN (n:=a.length+1) (by omega),show ¬((a.length+1:Nat):Int)<((a.length+1:Nat):Int) by omega];exact ⟨_,_,rfl,by simp,_,us,rfl,rfl,by simp only [go_sem,ya],by simp only [go_sem,ya],by simp only [go_sem,ya],by simp only [go_sem,ya],hl,gu,bC⟩
end
def RC:∀l:List Int,bT (l.map aa)=true
 | []=>rfl
 | a::r=>by rw [yV,Nl,RC r];rfl
def RD:∀l:List Int,ax (l.map aa)=true
 | []=>rfl
 | a::r=>by rw [yV,ax,RD r];rfl
def ad5 {hp:Hp} {ct:Nat} {e:Bool} {us:List Int} {o:Obj} (h:us.length<=100000000000):
  rM ((1,.cells true true true 1 [])::(0,o)::hp) ct 1 8 (.aq 1 0 0) (lD ((1,.cells true true true 1 [])::(0,o)::hp) 1 (.aC e us.length (us.map aa)))=some (.aq ct 0 us.length,(ct,.cells true true false 1 (us.map aa))::cp ((1,.cells true true true 1 [])::(0,o)::hp) 1,ct+1):=by
 have h1:lD ((1,.cells true true true 1 [])::(0,o)::hp) 1 (.aC e us.length (us.map aa))=some (us.length,us.map aa):=by
  simp [lD]
 rw [h1,mr (cs:=[]) (pu:=true) (ex:=true) rfl (by simp) (by omega) (by omega) (by decide) (RC us),RD,yy];rfl
def agG {l:List Int} (hd:dg l) (hn:nz l) (h:0<l.length):1000000000^(l.length-1)<=dv l:=E0 hn hd (fun e=>by subst e;simp at h)
def abS {n top f V:Nat} (hf:f=1000000000/(top+1)) (KZ:0<top) (ht:top<1000000000) (h1:V<1000000000^(n-1)*(top+1)) (hn:0<n):0<f/\f<1000000000/\V*f<1000000000^n:=by
 have h2:f*(top+1)<=1000000000:=by rw [hf];exact Nat.div_mul_le_self _ _
 have h3:0<f:=by rw [hf];exact Nat.div_pos (by omega) (by omega)
 refine ⟨h3,?_,?_⟩
 ·have:=xq f (show 2<=top+1 by omega)
  omega
 ·have e1:=ui h1 h3;have e2:=xq (1000000000^(n-1)) h2;rw [<-xy,show (n-1).succ=n by omega] at e2
  grind
section
variable {P:aA} {L:Lib}
def agH (h:Has P L 289 mJ) (jq:Has P L 293 pq) (kM:Has P L 299 pw) (cU:Has P L 300 jn) (lP:Has P L 301 nT) {v w:AV} {a b:List Int} (hv:aX v a) (hw:aX w b) (ha:dg a) (hb:dg b) (na:nz a) (nb:nz b) (la:a.length<=8000000000) (lb:2<=b.length) (ec:an P L 296 [v,w] (aa (iC (dv a) (dv b)))) (hc:dv b<=dv a):
  ∃q r lq lr,an P L 289 [v,w] (.ay [q,r])/\aX q lq/\aX r lr/\dg lq/\nz lq/\dg lr/\nz lr/\dv lq=dv a/dv b/\dv lr=dv a%dv b:=by
 have gS:¬iC (dv a) (dv b)<0:=by unfold iC;rw [yD (by omega)];split<;>decide
 have ah6:=agG hb nb (by omega);have hba:b.length<=a.length:=by
  have:=iy ha
  have h1:1000000000^(b.length-1)<1000000000^a.length:=by omega
  have:=(uz (show 1<1000000000 by decide)).1 h1
  omega
 obtain ⟨n,hn⟩:∃n,n=b.length:=⟨_,rfl⟩;have ajJ:=gb hb (n-1);have SH:=last_pos hb nb (by omega);rw [<-hn] at SH;obtain ⟨top,rQ⟩:∃v:Nat,b.getD (n-1) 0=v:=⟨(b.getD (n-1) 0).toNat,by omega⟩;have UG:=lK hw (i:=n-1) (by omega);rw [rQ] at ajJ SH UG;have hbt:=oU (l:=b) (n-1);rw [show n-1+1=n by omega,List.take_of_length_le (by omega),rQ,wo] at hbt;have ah7:=iy (qM hb (n-1));rw [yK,Nat.min_eq_left (by omega)] at ah7;obtain ⟨f,hf⟩:∃f,f=1000000000/(top+1):=⟨_,rfl⟩;obtain ⟨sn,V5,hfV⟩:=abS (n:=n) (V:=dv b) hf (by omega) (by omega) (by rw [xY,yh];omega) (by omega);have V6:aX (.aC true 1 [aa f]) [(f:Int)]:=fM true [(f:Int)];have gf:dg [(f:Int)]:=iP.2 (by omega);have vf:dv [(f:Int)]=f:=by simp [dv]
 obtain ⟨v',vs,e1,ju,hsv,GF,V7,C4⟩:=JN jq cU hw V6 hb gf (by omega) (by simp);obtain ⟨u',p8,e2,hu',se,V8,nus,C5⟩:=JN jq cU hv V6 ha gf (by omega) (by simp);rw [vf] at C4 C5;have ow:0<dv b:=by have:=yaK (n:=b.length-1) (show 0<1000000000 by decide);omega
 have K7:vs.length=n:=by
  have h1:vs.length<=n:=iv GF V7 (by rw [C4];exact hfV)
  have h2:dv b<=dv vs:=by rw [C4];exact Nat.le_mul_of_pos_right _ sn
  have h3:=iy GF;have h4:1000000000^(n-1)<1000000000^vs.length:=by rw [hn];omega
  have:=(uz (show 1<1000000000 by decide)).1 h4
  omega
 have lus:p8.length<=a.length+1:=by
  refine iv V8 nus ?_;rw [C5,xy];exact uE (iy ha) V5
 have UH:0<p8.length:=by
  rcases xp p8.length with e | e
  ·have h1:0<dv a*f:=yaw (by omega) sn;rw [yP e] at C5;simp only [dv] at C5;omega
  ·exact e
 have eI:0<vs.getD (n-1) 0:=by
  have:=last_pos GF V7 (by omega)
  rwa [K7] at this
 obtain ⟨m,hm⟩:∃m,m=a.length+1-n:=⟨_,rfl⟩;have bW:∀ct:Nat,py ct 1 8 [.int .i64 0] (some m) (some m)=some (.aq ct 0 m,.cells true true true 1 ((yx m (0:Int)).map aa)):=fun ct=>by
  rw [By (sz:=1) (by omega) (by omega) (by rfl) (by rfl),Hk];rfl
 obtain ⟨e,rfl⟩:∃e,u'= .aC e p8.length (p8.map aa):=by
  rcases hu' with ⟨rfl,h0⟩ | ⟨e,rfl⟩
  ·rw [List.map_eq_nil_iff] at h0;rw [h0] at UH;simp at UH
  ·exact ⟨e,by rw [yU]⟩
 have ah8:∀us:List Int,us.length=a.length+1->dv us=dv a*f->dv (us.drop m)<dv vs:=fun us hl hd=>by
  have e1:=Im us m (by omega);have e2:=iy ha;have e3:=ui e2 sn;have e4:1000000000^a.length=1000000000^m*1000000000^(n-1):=by rw [<-Nat.pow_add];congr 1;omega
  rw [<-hd,e4,xZ] at e3;have e5:1000000000^m*dv (us.drop m)<1000000000^m*(1000000000^(n-1)*f):=by omega
  refine yX (Nat.lt_of_mul_lt_mul_left e5) ?_;rw [C4,hn];exact Nat.mul_le_mul_right _ ah6
 have Ci:∃us qs,(us.length=a.length+1/\qs.length=m/\dg us/\dg qs/\dv us+dv qs*dv vs=dv a*f/\dv us<dv vs)/\
   ∃q1 r1 lr,aX q1 (di qs)/\aX r1 lr/\dg lr/\nz lr/\dv lr=dv (us.take n)/f/\an P L 289 [v,w] (.ay [q1,r1]):=by
  unfold an at ec e1 e2;unfold an;rw [aT h];have JS:IntKind.wrap .i64 ((1000000000:Int).tdiv ((top+1:Nat):Int))=(f:Int):=by
   rw [xu (by decide),show (1000000000:Int)/((top+1:Nat):Int)=((1000000000/(top+1):Nat):Int) from rfl,<-hf,wrap64 (by omega) (by omega)]
  simp only [go_sem,ya,yc,yj,yd,yh,mJ,hv.aE,hw.len,hw.aE,ec,gS,show ¬(n:Int)=1 by omega,<-hn,show (n:Int)-1=((n-1:Nat):Int) by omega,wrapN (n:=n-1) (by omega),UG,show ((top:Nat):Int)+1=((top+1:Nat):Int) from rfl,wrapN (n:=top+1) (by omega),er _ _ _ (show ((top+1:Nat):Int)≠0 by omega),JS,e1,hsv,ju.len,K7,e2,se,ad5 (us:=p8) (e:=e) (by omega)];generalize hq0:D P L (.loop [0,8,9,10,11] Bp) _=q0;obtain ⟨ex,st,rfl,tm,us,rfl,rfl,t8,t9,t10,t11,lu,gu,vu⟩:=cm hq0 (ad4 (P:=P) (L:=L) (f:=(f:Int)) (n:=n) (A:=dv a*f) hv ju (by omega) (a.length+1-p8.length)) ⟨p8,by
   simp only [go_sem,ya,yc,aJ,aP hv.pu,aS _ hv.pu,aP ju.pu,aS _ ju.pu]<;>rfl,by omega,V8,C5⟩
  have em:((a.length+1:Nat):Int)-(n:Int)=(m:Int):=by omega
  have em1:(m:Int)-1=((m-1:Nat):Int):=by omega
  simp only [go_sem,ya,yc,aJ,aP ju.pu,aS _ ju.pu,t8,t9,t10,t11,em,wrapN (n:=m) (by omega),bW,em1,wrapN (n:=m-1) (by omega)];generalize ja:D P L (.loop [8,9,10,11,12,13] Br) _=q1;obtain ⟨ex,st,rfl,mN,p9,qs,rfl,rfl,t8,t10,t11,t12,lu1,GG,V9,gq1,bC,aU⟩:=cm ja (ad3 (P:=P) (L:=L) lP (f:=(f:Int)) ju GF K7 (by omega) (show n<a.length+1 by omega) (by omega) (by omega) eI (U0:=dv a*f) m) ⟨m,us,yx m 0,by
   rw [show ((m-1:Nat):Int)=(m:Int)-1 by omega]
   simp only [go_sem,ya,yc,aJ,aP ju.pu,aS _ ju.pu]<;>rfl,rfl,yC _,lu,by simp,gu,Oi m,fun i _=>MJ m i,by rw [Oh,Nat.zero_mul,xS,vu],ah8 us lu vu⟩
  have pz:∀(hp:Hp) tm (y:X),aj hp 1=some (.cells true true false 1 (p9.map aa))->cI tm (a.length+1) (some y)=some n->fg hp (.sl 1) (.aq 1 0 (a.length+1)) tm none (some y)=some (.aq 1 0 n):=fun hp tm y h1 h2=>abP h1 h2 (by omega) (by omega)
  obtain ⟨e',hfp⟩:∃e',∀hp:Hp,kI 0 n (some (false,1,p9.map aa,hp))=some (.aC e' n ((p9.take n).map aa),hp):=by
   refine ⟨false&&Nat.blt 0 1&&yq n (p9.map aa).length,fun hp=>?_⟩;simp only [kI,yy,yh,slice,vc,<-List.map_take];rw [yv (by simp;omega)];rfl
  have ltk:(p9.take n).length=n:=by rw [yK];omega
  have iL:=fM e' (p9.take n);rw [ltk] at iL;obtain ⟨r0,f1,oe,ajK⟩:=zP cU iL (by omega);obtain ⟨r1,lr,f2,bG,anC,ah9,dr,nr,vr⟩:=Ut kM cU oe (qG (qM V9 n)) (by have:=DI (p9.take n);omega) sn V5;have Wa:=fM true qs;rw [GG] at Wa;obtain ⟨q1,f3,ja,ajL⟩:=zP cU Wa (by omega);rw [qF] at vr;unfold an at f1 f2 f3;refine ⟨p9,qs,⟨lu1,GG,V9,gq1,bC,aU⟩,q1,r1,lr,ja,bG,dr,nr,vr,?_⟩;have Gp:fh 1 0 (AV.aq 0 0 1)=some (.ptr 0 0):=fL 0 0 (show 0<1 by omega)
  simp only [go_sem,ya,yc,aJ,t8,t10,t11,t12,pz,dF,hfp,f1,ajK,oe.aE,Gp,f2,ah9,fun hp=>jz (hp:=hp) (k:=m) (sz:=1) (cs:=qs.map aa) true (by simp [GG]) (by decide),f3,ajL];rcases ja with ⟨rfl,_⟩ | ⟨_,rfl⟩<;>rcases bG with ⟨rfl,_⟩ | ⟨_,rfl⟩<;>rfl
 obtain ⟨us,qs,⟨lu,lq,gu,gq,bC,aU⟩,q1,r1,lr,ja,bG,dr,nr,vr,e⟩:=Ci;rw [C4] at bC aU;have JS:dv qs=dv a/dv b:=by
  rw [<-Nat.mul_div_mul_right _ _ sn,<-bC,yaz,uR,Nat.mul_add_div (yaw ow sn),tV aU,xS]
 have hus:dv us=(dv a%dv b)*f:=by
  rw [<-Nat.mul_mod_mul_right,<-bC,yaz,uR (dv qs),Nat.mul_add_mod,vG aU]
 have jF:=Im us n (by omega);have sj:dv (us.drop n)=0:=by
  rcases xp (dv (us.drop n)) with h0 | h0
  ·exact h0
  ·have:=xq (1000000000^n) h0
   omega
 rw [sj,vD,xS] at jF;rw [<-jF,hus,Nat.mul_div_cancel _ sn] at vr;exact ⟨q1,r1,_,lr,e,ja,bG,qG gq,A9 _,dr,nr,by rw [qF,JS],vr⟩
def SI (h:Has P L 289 mJ) (jq:Has P L 293 pq) (mK:Has P L 296 nS) (kM:Has P L 299 pw) (cU:Has P L 300 jn) (lP:Has P L 301 nT) {v w:AV} {a b:List Int} (hv:aX v a) (hw:aX w b) (ha:dg a) (hb:dg b) (na:nz a) (nb:nz b) (la:a.length<=8000000000) (lb:b.length<=8000000000) (h0:0<dv b):
  ∃q r lq lr,an P L 289 [v,w] (.ay [q,r])/\aX q lq/\aX r lr/\dg lq/\nz lq/\dg lr/\nz lr/\dv lq=dv a/dv b/\dv lr=dv a%dv b:=by
 by_cases hl:b.length<=1
 ·exact ajr h mK kM cU hv hw ha hb na nb (by omega) hl h0
 have ec:=Uq mK hv hw ha hb na nb (by omega) (by omega);by_cases hc:dv a<dv b
 ·unfold an at ec;have gS:iC (dv a) (dv b)= -1:=by unfold iC;rw [yS hc]
  rw [gS] at ec;refine ⟨.ab,v,[],a,?_,oP,hv,rfl,rfl,ha,na,?_,?_⟩
  ·unfold an;rw [aT h];simp only [go_sem,ya,mJ,hv.aE,hw.aE,ec,show (-1:Int)<0 by decide];rcases hv with ⟨rfl,_⟩ | ⟨e,rfl⟩<;>rfl
  ·rw [tV hc];rfl
  ·rw [vG hc]
 ·exact agH h jq kM cU lP hv hw ha hb na nb la (by omega) ec (by omega)
def SJ (h:Has P L 275 Fp) (Cm:Has P L 289 mJ) (jq:Has P L 293 pq) (mK:Has P L 296 nS) (kM:Has P L 299 pw) (cU:Has P L 300 jn) (lP:Has P L 301 nT) {v w:AV} {a b:List Int} (hv:aX v a) (hw:aX w b) (ha:dg a) (hb:dg b) (na:nz a) (nb:nz b) (la:a.length<=8000000000) (lb:b.length<=8000000000):
  ∃r l,an P L 275 [v,w] r/\aX r l/\dg l/\nz l/\dv l=xU (dv a) (dv b):=by
 have key:=cG (P:=P) (L:=L) (live:=[0,1]) (a:=Bn)
  (I:=fun k st=>∃x y lx ly,st=⟨[(0,x),(1,y)],[],0,0⟩/\aX x lx/\aX y ly/\dg lx/\nz lx/\dg ly/\nz ly/\lx.length<=8000000000/\ly.length<=8000000000/\dv ly=k/\xU (dv lx) (dv ly)=xU (dv a) (dv b))
  (Q:=fun ex st=>∃tm ct,st=⟨tm,[],ct,0⟩/\ex= .exit 0/\∃x lx,ah tm 0=x/\aX x lx/\dg lx/\nz lx/\dv lx=xU (dv a) (dv b)) ?_
 ·unfold an;rw [aT h];simp only [go_sem,Fp];generalize hq:D P L (.loop [0,1] Bn) _=q;obtain ⟨ex,st,rfl,tm,ct,rfl,rfl,x,lx,h2,hx,dx,nx,vx⟩:=cm hq (key (dv b)) ⟨v,w,a,b,by simp only [go_sem,ya,aJ,aP hv.pu,aS _ hv.pu,aP hw.pu,aS _ hw.pu]<;>rfl,hv,hw,ha,na,hb,nb,la,lb,rfl,rfl⟩
  refine ⟨x,lx,?_,hx,dx,nx,vx⟩;simp only [go_sem,aJ,h2,hx.bF,aP hx.pu,aS _ hx.pu]
 ·rintro k st ⟨x,y,lx,ly,rfl,hx,hy,dx,nx,dy,ny,llx,Wb,rfl,hg⟩;by_cases h0:ly=[]
  ·right
   subst h0;simp only [go_sem,ya,Bn,hy.len,y5,show ¬(0:Int)<((0:Nat):Int) by omega];refine ⟨_,_,rfl,by simp,_,_,rfl,rfl,x,lx,by simp only [go_sem,ya],hx,dx,nx,?_⟩;rw [<-hg];simp [dv]
  ·left
   have hp:0<dv ly:=by
    rcases xp (dv ly) with e | e
    ·exact absurd (PL ny dy e) h0
    ·exact e
   have hl:0<ly.length:=List.length_pos_iff.2 h0;obtain ⟨q,r,lq,lr,e1,hq,hr,dq,nq,dr,nr,vq,vr⟩:=SI Cm jq mK kM cU lP hx hy dx dy nx ny llx Wb hp;have aU:dv lr<dv ly:=by rw [vr];exact Nat.mod_lt _ hp
   have hB:=iy dy;simp only [go_sem,ya,Bn,hx.aE,hy.len,hy.aE,show (0:Int)<ly.length by omega,e1,hq.bg,hr.bg];refine ⟨_,dv lr,rfl,aU,y,r,ly,lr,?_,hy,hr,dy,ny,dr,nr,by omega,xz (iv dr nr (Nat.lt_trans aU hB)) Wb,rfl,?_⟩
   ·simp only [go_sem,ya,aJ,aP hy.pu,aS _ hy.pu,aP hr.pu,aS _ hr.pu]<;>rfl
   ·rw [<-hg,vr,vI (dv ly),<-Nat.gcd_rec,vI]
end
end
section
open Go (IntKind)
section
variable {P:aA} {L:Lib}
def agI (nX:Has P L 290 zI) {neg:Bool} {N:Nat} (hN:(az N).length<=180000000000):
  ∀k s,(∃(i m:Nat) (out:List Int),m=k/\out.length=i/\dg out/\dv out+1000000000^i*m=N/\(az m).length+9*i<=180000000000/\
    ((i=0/\bw [0,2,3,4] s=⟨[(0,.str (az m)),(2,.ptr 0 0),(3,.bool neg),(4,.ab)],[(0,.cells true true true 2 [.bool false,.ab])],1,0⟩)\/
    (0<i/\bw [0,2,3,4] s=⟨[(0,.str (az m)),(2,.ptr 0 0),(3,.bool neg),(4,.aq 1 0 i)],[(1,.cells true true false 1 (out.map aa)),(0,.cells true true true 2 [.bool false,.ab])],2,0⟩)))->
   ∃ex s',D P L (.loop [0,2,3,4] nC) s=some (ex,s')/\∃tm i m out,ex= .exit 0/\m<1000000000/\out.length=i/\dg out/\dv out+1000000000^i*m=N/\i<20000000000/\ah tm 0= .str (az m)/\ah tm 2= .ptr 0 0/\ah tm 3= .bool neg/\
    ((i=0/\ah tm 4= .ab/\s'=⟨tm,[(0,.cells true true true 2 [.bool false,.ab])],1,0⟩)\/(0<i/\ah tm 4= .aq 1 0 i/\s'=⟨tm,[(1,.cells true true false 1 (out.map aa)),(0,.cells true true true 2 [.bool false,.ab])],2,0⟩)):=by
 refine cG (I:=fun k s=>∃(i m:Nat) (out:List Int),m=k/\out.length=i/\dg out/\dv out+1000000000^i*m=N/\(az m).length+9*i<=180000000000/\
    ((i=0/\s=⟨[(0,.str (az m)),(2,.ptr 0 0),(3,.bool neg),(4,.ab)],[(0,.cells true true true 2 [.bool false,.ab])],1,0⟩)\/
    (0<i/\s=⟨[(0,.str (az m)),(2,.ptr 0 0),(3,.bool neg),(4,.aq 1 0 i)],[(1,.cells true true false 1 (out.map aa)),(0,.cells true true true 2 [.bool false,.ab])],2,0⟩)))
  (Q:=fun ex s'=>∃tm i m out,ex= .exit 0/\m<1000000000/\out.length=i/\dg out/\dv out+1000000000^i*m=N/\i<20000000000/\ah tm 0= .str (az m)/\ah tm 2= .ptr 0 0/\ah tm 3= .bool neg/\
    ((i=0/\ah tm 4= .ab/\s'=⟨tm,[(0,.cells true true true 2 [.bool false,.ab])],1,0⟩)\/(0<i/\ah tm 4= .aq 1 0 i/\s'=⟨tm,[(1,.cells true true false 1 (out.map aa)),(0,.cells true true true 2 [.bool false,.ab])],2,0⟩))) ?_
 rintro k s ⟨i,m,out,rfl,hlen,hd,bC,hl,hs⟩;by_cases hm:1000000000<=m
 ·left
  obtain ⟨q,hq⟩:∃q,q=m/1000000000:=⟨_,rfl⟩;obtain ⟨r,hr⟩:∃r,r=m%1000000000:=⟨_,rfl⟩;have pz:=abL hm;rw [<-hq,<-hr] at pz;have mR:=Ig 9 r;have hqp:=qI q;have hlm:(az m).length=(az q).length+9:=by rw [pz,yW,mR]
  have c1:fW (az m) (some (az q).length) (some (az m).length)=some (.str (fV 9 r)):=by
   rw [jC (by omega) (yC _),wi,pz,uV]
  have c2:fW (az m) (some 0) (some (az q).length)=some (.str (az q)):=by
   rw [jC (by omega) (by omega),vc,pz,sD]
  have e1:=Ch nX (s:=fV 9 r) (v:=r) (by omega) (by rw [Om 9 r 0 (by omega)];simp)
  unfold an at e1;have rR:dg (out++[(r:Int)]):=fc.2 ⟨hd,iP.2 (by omega)⟩;have E4:dv (out++[(r:Int)])+1000000000^(i+1)*q=N:=by
   rw [jy,hlen,<-bC,xy];have e:=sC m 1000000000;rw [<-hr,<-hq] at e;rw [<-e];simp only [dv,wo,vD,xS,xY,xZ];omega
  have E9:((az m).length:Int)-9=((az q).length:Int):=by omega
  rcases hs with ⟨h0,rfl⟩ | ⟨h0,rfl⟩
  ·subst h0;have lQ:out=[]:=yP hlen;subst lQ
   simp only [go_sem,ya,yc,yo,yj,yd,yh,nC,show (9:Int)<((az m).length:Int) by omega,E9,wrapN (n:=(az q).length) (by omega),dN,et,dF,c1,c2,e1,mq];refine ⟨_,q,rfl,by omega,1,q,[]++[(r:Int)],rfl,rfl,rR,E4,by omega,.inr ⟨by omega,?_⟩⟩;rfl
  ·simp only [go_sem,ya,yc,yd,yh,nC,show (9:Int)<((az m).length:Int) by omega,E9,wrapN (n:=(az q).length) (by omega),dN,et,dF,c1,e1]
   rw [mr (ex:=false) (pu:=true) (cs:=out.map aa) (by simp only [go_sem,ya]) (by rw [yU,hlen,yh]) (by omega) (by omega) (by decide) (by simp only [go_sem])]
   simp only [go_sem,ya,yc,dN,et,dF,E9,wrapN (n:=(az q).length) (by omega),c2];refine ⟨_,q,rfl,by omega,i+1,q,out++[(r:Int)],rfl,by simp [hlen],rR,E4,by omega,.inr ⟨by omega,?_⟩⟩;rw [xG];simp only [go_sem,ya,yc,aJ]<;>rfl
 ·right
  have h9:(az m).length<=9:=oR (k:=8) (by omega);have hp0:=qI m;rcases hs with ⟨h0,rfl⟩ | ⟨h0,rfl⟩
  ·simp only [go_sem,nC,show ¬(9:Int)<((az m).length:Int) by omega];exact ⟨_,_,rfl,by simp,_,i,m,out,rfl,by omega,hlen,hd,bC,by omega,by simp only [go_sem,ya],by simp only [go_sem,ya],by simp only [go_sem,ya],.inl ⟨h0,by simp only [go_sem,ya],rfl⟩⟩
  ·simp only [go_sem,nC,show ¬(9:Int)<((az m).length:Int) by omega];exact ⟨_,_,rfl,by simp,_,i,m,out,rfl,by omega,hlen,hd,bC,by omega,by simp only [go_sem,ya],by simp only [go_sem,ya],by simp only [go_sem,ya],.inr ⟨h0,by simp only [go_sem,ya],rfl⟩⟩
end
end
section
open Go (IntKind)
section
variable {P:aA} {L:Lib}
def UI (h:Rb P L) {n:Int} (hn:(az n.natAbs).length<=180000000000):∃r,an P L 288 [.str (bz n)] r/\iK r n:=by
 obtain ⟨u,hu⟩:∃u,u=az n.natAbs:=⟨_,rfl⟩;obtain ⟨b,t,hb,pV,hb2⟩:=Np n.natAbs;have hs:bz n=(if n<0 then [45] else [])++u:=by rw [hu,oL]
 have Ai:0<u.length:=by rw [hu];exact qI _
 have lY:u[0]=b:=by
  have:u=b::t:=by rw [hu,hb]
  simp [this]
 have key:∀(s:St),bw [0,2,3,4] s=⟨[(0,.str u),(2,.ptr 0 0),(3,.bool (decide (n<0))),(4,.ab)],[(0,.cells true true true 2 [.bool false,.ab])],1,0⟩->
   ∃ex s',D P L (.loop [0,2,3,4] nC) s=some (ex,s')/\∃tm i m out,ex= .exit 0/\m<1000000000/\out.length=i/\dg out/\dv out+1000000000^i*m=n.natAbs/\i<20000000000/\ah tm 0= .str (az m)/\ah tm 2= .ptr 0 0/\ah tm 3= .bool (decide (n<0))/\
    ((i=0/\ah tm 4= .ab/\s'=⟨tm,[(0,.cells true true true 2 [.bool false,.ab])],1,0⟩)\/(0<i/\ah tm 4= .aq 1 0 i/\s'=⟨tm,[(1,.cells true true false 1 (out.map aa)),(0,.cells true true true 2 [.bool false,.ab])],2,0⟩)):=fun s hc=>
  agI (P:=P) (L:=L) h.nX (neg:=decide (n<0)) hn n.natAbs s ⟨0,n.natAbs,[],rfl,rfl,rfl,by simp [dv],by omega,.inl ⟨rfl,by rw [hc,hu]⟩⟩
 have fin:∀(i m:Nat) (out:List Int),m<1000000000->out.length=i->dg out->dv out+1000000000^i*m=n.natAbs->i<20000000000->∃w l,cf P L (D P L) 294 [.bool (decide (n<0)),.aC false (i+1) ((out++[(m:Int)]).map aa)]=some (.agg [.bool (decide (n<0)),w])/\aX w l/\dg l/\nz l/\dv l=n.natAbs:=fun i m out h1 h2 h3 h4 h5=>by
  have hv:=fM false (out++[(m:Int)]);have hd:dg (out++[(m:Int)]):=fc.2 ⟨h3,iP.2 (by omega)⟩;have bC:dv (out++[(m:Int)])=n.natAbs:=by rw [jy,h2];simp [dv];exact h4
  obtain ⟨r,e,hr⟩:=pC h.jo h.cU (decide (n<0)) hv hd (by simp;omega);have K8:ij (decide (n<0)) (dv (out++[(m:Int)]))=n:=by
   rw [bC];unfold ij;by_cases h0:n<0
   ·simp only [h0,yE,yQ];omega
   ·simp only [h0,yF,yt,yG];omega
  rw [K8] at hr;obtain ⟨w,l,rfl,hw,eH,iW,cR⟩:=hr;simp only [yW,List.length_singleton,h2] at e;exact ⟨w,l,e,hw,eH,iW,cR⟩
 unfold an;rw [hs];by_cases h0:n<0
 ·rw [yS h0,aT h.UC];have mW:fW (45::u) (some 1) (some (u.length+1))=some (.str u):=by rw [jC (s:=45::u) (l:=1) (h:=u.length+1) (by omega) (by simp)];simp
  simp only [h0,yE] at key fin ⊢;simp only [go_sem,ya,yc,Fu,b9,show (0:Int)<((u.length+1:Nat):Int) by omega,yH,xE,zO,yE,dN,et,dF,mW];generalize hq:D P L (.loop [0,2,3,4] nC) _=q;obtain ⟨ex,s,rfl,tm,i,m,out,rfl,hm,hlen,hd,bC,hi,t0,t2,t3,BY⟩:=cm hq key (by simp only [go_sem,ya,yc,aJ]<;>rfl)
  have e1:=Ch h.nX (s:=az m) (v:=m) (by have:=oR (k:=8) (n:=m) (by omega);omega) (qC m);have bP:i<20000000000:=hi;obtain ⟨w,l,e2,hw,eH,iW,cR⟩:=fin i m out hm hlen hd bC bP;refine ⟨_,?_,w,l,rfl,hw,eH,iW,cR⟩;unfold an at e1;rcases BY with ⟨qc,t4,rfl⟩ | ⟨qc,t4,rfl⟩
  ·subst qc;have lQ:out=[]:=yP hlen;subst lQ;have iL:∀hp:Hp,kI 0 1 (some (false,1,[AV.int .i64 (m:Int)],hp))=some (.aC false 1 [AV.int .i64 (m:Int)],hp):=fun hp=>rfl
   simp only [xE,yV,wU,yy] at e2;simp only [go_sem,ya,yc,yo,yj,yd,yh,aJ,t0,t2,t3,t4,e1,mq,iL,e2,dM,hw.pu,hw.one,gl];rcases hw with ⟨rfl,_⟩ | ⟨e,rfl⟩<;>simp only [h0,yE]<;>rfl
  ·simp only [go_sem,ya,yc,yd,yh,aJ,t0,t2,t3,t4,e1]
   rw [mr (ex:=false) (pu:=true) (cs:=out.map aa) (by simp only [go_sem,ya]) (by rw [yU,hlen,yh]) (by omega) (by omega) (by decide) (by simp only [go_sem])];have iL:∀hp:Hp,kI 0 (i+1) (some (false,1,out.map aa++[AV.int .i64 (m:Int)],hp))=some (.aC false (i+1) (out.map aa++[AV.int .i64 (m:Int)]),hp):=fun hp=>jz false (by simp [hlen]) (by decide)
   simp only [xG,yV,wU] at e2;simp only [go_sem,ya,yc,iL,e2,dM,hw.pu,hw.one,gl,uq];rcases hw with ⟨rfl,_⟩ | ⟨e,rfl⟩<;>simp only [h0,yE]<;>rfl
 ·rw [yD h0,aT h.UC,xE];simp only [h0,yF] at key fin ⊢;simp only [go_sem,ya,yc,Fu,b9,show (0:Int)<(u.length:Int) by omega,lF Ai,lY,show ¬((b:Nat):Int)=45 by omega];generalize hq:D P L (.loop [0,2,3,4] nC) _=q;obtain ⟨ex,s,rfl,tm,i,m,out,rfl,hm,hlen,hd,bC,hi,t0,t2,t3,BY⟩:=cm hq key (by simp only [go_sem,ya,yc,aJ]<;>rfl)
  have e1:=Ch h.nX (s:=az m) (v:=m) (by have:=oR (k:=8) (n:=m) (by omega);omega) (qC m);have bP:i<20000000000:=hi;obtain ⟨w,l,e2,hw,eH,iW,cR⟩:=fin i m out hm hlen hd bC bP;refine ⟨_,?_,w,l,rfl,hw,eH,iW,cR⟩;rcases BY with ⟨qc,t4,rfl⟩ | ⟨qc,t4,rfl⟩
  ·subst qc;have lQ:out=[]:=yP hlen;subst lQ;have iL:∀hp:Hp,kI 0 1 (some (false,1,[AV.int .i64 (m:Int)],hp))=some (.aC false 1 [AV.int .i64 (m:Int)],hp):=fun hp=>rfl
   simp only [xE,yV,wU,yy] at e2;simp only [go_sem,ya,yc,yo,yj,yd,yh,aJ,t0,t2,t3,t4,e1,mq,iL,e2,dM,hw.pu,hw.one,gl];rcases hw with ⟨rfl,_⟩ | ⟨e,rfl⟩<;>simp only [h0,yF]<;>rfl
  ·simp only [go_sem,ya,yc,yd,yh,aJ,t0,t2,t3,t4,e1]
   rw [mr (ex:=false) (pu:=true) (cs:=out.map aa) (by simp only [go_sem,ya]) (by rw [yU,hlen,yh]) (by omega) (by omega) (by decide) (by simp only [go_sem])];have iL:∀hp:Hp,kI 0 (i+1) (some (false,1,out.map aa++[AV.int .i64 (m:Int)],hp))=some (.aC false (i+1) (out.map aa++[AV.int .i64 (m:Int)]),hp):=fun hp=>jz false (by simp [hlen]) (by decide)
   simp only [xG,yV,wU] at e2;simp only [go_sem,ya,yc,iL,e2,dM,hw.pu,hw.one,gl,uq];rcases hw with ⟨rfl,_⟩ | ⟨e,rfl⟩<;>simp only [h0,yF]<;>rfl
end
end
section
open Go (IntKind)
def L0 (n:Int) (r:List Nat):bR (bz n++r)=(bz n).length+bR r:=by
 rw [<-oL]
 split
 ·simp only [yH,xE,bR,yz];rw [yD (by decide),AE r (qB _)];omega
 ·rw [xE];exact AE r (qB _)
def Ow:∀{a b:List Nat},dI a b=true->a=b
 | [],[],_=>rfl
 | [],_::_,h=>by simp [dI] at h
 | _::_,[],h=>by simp [dI] at h
 | x::a,y::b,h=>by
  simp only [dI,Bool.and_eq_true] at h;rw [Nat.eq_of_beq_eq_true h.1,Ow h.2]
section
variable {P:aA} {L:Lib}
def agJ (h:Rb P L):∃r,an P L 281 [aa 1] r/\iK r 1:=by
 obtain ⟨r,e,hr⟩:=pC h.jo h.cU false (fM false [(1:Int)]) (by decide) (by decide);obtain ⟨w,l,rfl,hw,hd,hz,hv⟩:=hr;refine ⟨_,?_,w,l,rfl,hw,hd,hz,hv⟩;simp only [yV,wU,yz,y5,yy] at e;have iL:∀hp:Hp,kI 0 1 (some (false,1,[AV.int .i64 1],hp))=some (.aC false 1 [AV.int .i64 1],hp):=fun hp=>rfl
 unfold an at e ⊢;rw [aT h.UB];simp only [go_sem,ya,yc,yo,yj,yd,yh,Ft,b9,Int.reduceLT,yF,IS,aJ,mw,Int.reduceEq,xB,y9,yE,dw _ _ _ (show (1000000000:Int)≠0 by decide),er _ _ _ (show (1000000000:Int)≠0 by decide),show Int.tmod 1 1000000000=1 from rfl,show Int.tdiv 1 1000000000=0 from rfl,show IntKind.wrap .i64 0=0 from rfl,mq,iL,e,hw.pu,hw.one,dM,gl];rcases hw with ⟨rfl,_⟩ | ⟨e,rfl⟩<;>rfl
def UJ (h:Rb P L) {n:Int} {d:Nat} (hn:(az n.natAbs).length<=144000000000) (hd:(az d).length<=144000000000):
  ∃x y,an P L 274 [.str (TT n d)] (.ay [x,y])/\iK x n/\iK y d:=by
 obtain ⟨x,e1,hx⟩:=UI h (n:=n) (by omega);have hli:(bz n).length<=(az n.natAbs).length+1:=by rw [<-oL];split<;>simp
 by_cases h1:d=1
 ·subst h1;obtain ⟨y,e2,hy⟩:=agJ h;have hT:TT n 1=bz n:=by unfold TT;simp
  have hs:=L0 n [];rw [List.append_nil] at hs;have e3:=Cg h.rO (s:=bz n) (by omega);rw [hs] at e3;refine ⟨x,y,?_,hx,hy⟩;obtain ⟨xw,xl,rfl,eM,_,_,_⟩:=hx;obtain ⟨yw,yl,rfl,eN,_,_,_⟩:=hy;rw [hT];unfold an at e1 e2 e3 ⊢;rw [aT h.Uz];simp only [go_sem,ya,yc,Fo,b9,e3,bR,xS,yE,e1,e2,dM,eM.pu,eM.one,eN.pu,eN.one,gl];rcases eM with ⟨rfl,_⟩ | ⟨e,rfl⟩<;>rcases eN with ⟨rfl,_⟩ | ⟨e',rfl⟩<;>rfl
 ·obtain ⟨y,e2,hy⟩:=UI h (n:=(d:Int)) (by simp;omega);rw [qH] at e2;obtain ⟨s,Wc⟩:∃s,s=TT n d:=⟨_,rfl⟩;have hT:s=bz n++47::az d:=by rw [Wc];unfold TT;rw [yD h1]
  have hs:bR s=(bz n).length:=by rw [hT,L0];rfl
  have hlen:s.length=(bz n).length+(az d).length+1:=by rw [hT];simp;omega
  have e3:=Cg h.rO (s:=s) (by omega);rw [hs] at e3;have c1:fW s (some 0) (some (bz n).length)=some (.str (bz n)):=by
   rw [jC (by omega) (by omega),vc,hT,sD]
  have c2:fW s (some ((bz n).length+1)) (some s.length)=some (.str (az d)):=by
   rw [jC (by omega) (yC _),wi,hT,show bz n++47::az d=(bz n++[47])++az d by simp,show (bz n).length+1=(bz n++[47]).length by simp,uV]
  refine ⟨x,y,?_,hx,hy⟩;obtain ⟨xw,xl,rfl,eM,_,_,_⟩:=hx;obtain ⟨yw,yl,rfl,eN,_,_,_⟩:=hy;rw [<-Wc];unfold an at e1 e2 e3 ⊢;rw [aT h.Uz]
  simp only [go_sem,ya,yc,Fo,b9,e3,show ¬((bz n).length:Int)=(s.length:Int) by omega,dN,et,dF,c1,wrapN (n:=(bz n).length+1) (by omega),show ((bz n).length:Int)+1=(((bz n).length+1:Nat):Int) from rfl,c2,e1,e2,dM,eM.pu,eM.one,eN.pu,eN.one,gl];rcases eM with ⟨rfl,_⟩ | ⟨e,rfl⟩<;>rcases eN with ⟨rfl,_⟩ | ⟨e',rfl⟩<;>rfl
end
end
section
open Go (IntKind)
def IY (a b:AV) (r:List AV):gB 2 true (a::b::r)=some (.agg [a,b]):=rfl
def ad6 (k:Nat):2^k<=1000000000^k:=ua (by decide) k
def Bd.r {k:Nat} {z:Int} (h:Bd k z):z.natAbs<1000000000^k:=yX h (ad6 k)
def SK (r:Rat):RT r=TT r.num r.den:=rfl
def IJ {n d:Int} (hd:0<d):RT (xQ n d)=fU n d:=by
 obtain ⟨h1,h2⟩:=GU (a:=n) hd;rw [adO hd,SK,h1]
 congr 1
 exact th (show ((xQ n d).den:Int)=((bm n d).toNat:Int) by rw [h2];have:=oQ (a:=n) hd;unfold bm at this ⊢;omega)
structure Rm (P:aA) (L:Lib):Prop extends Rb P L where
 ajM:Has P L 263 cA
 JT:Has P L 273 rJ
 anD:Has P L 284 TS
 anE:Has P L 285 TU
 anF:Has P L 286 TV
 Cn:Has P L 287 B8
 lP:Has P L 301 nT
structure Rp (P:aA) (L:Lib):Prop extends V4 P L,Rm P L
structure Rn (P:aA) (L:Lib):Prop extends Ra P L,Rp P L
section
variable {P:aA} {L:Lib}
def SL (h:Rm P L) {v w:AV} {a b:List Int} (hv:aX v a) (hw:aX w b) (ha:dg a) (hb:dg b) (na:nz a) (nb:nz b) (la:a.length<=8000000000) (lb:b.length<=8000000000) (h0:0<dv b):
  ∃q r lq lr,an P L 289 [v,w] (.ay [q,r])/\aX q lq/\aX r lr/\dg lq/\nz lq/\dg lr/\nz lr/\dv lq=dv a/dv b/\dv lr=dv a%dv b:=
 SI h.Cm h.jq h.mK h.kM h.cU h.lP hv hw ha hb na nb la lb h0
def agK (h:Rm P L) {x y:AV} {a b:List Int} {n d:Int} {K:Nat} (hK:K<=8000000000) (hx:aX x a) (ha:dg a) (na:nz a) (va:dv a=n.natAbs) (hy:aX y b) (hb:dg b) (nb:nz b) (vb:dv b=d.natAbs) (kn:Bd K n) (kd:Bd K d) (hd:0<d) {tm:Env} (t2:ah tm 2= .ptr 0 0) (t3:ah tm 3= .ptr 1 0):
  jL [.t 4] (D P L (bp (bp jK.body)) ⟨tm,[(1,.cells true true true 2 [.bool (decide (d<0)),y]),(0,.cells true true true 2 [.bool (decide (n<0)),x])],2,0⟩)=some (.str (RT (xQ n d))):=by
 rw [IJ hd];have la:=xz (iv ha na (by rw [va];exact kn.r)) hK
 have lb:=xz (iv hb nb (by rw [vb];exact kd.r)) hK
 obtain ⟨g,lg,e1,hg,K9,ng,vg⟩:=SJ h.UA h.Cm h.jq h.mK h.kM h.cU h.lP hx hy ha hb na nb la lb;rw [va,vb,show xU n.natAbs d.natAbs=xL n d from rfl] at vg;have CH:=El (a:=n) hd;have ajN:xL n d<=d.natAbs:=Int.gcd_le_natAbs_right n (by omega);have We:lg.length<=8000000000:=xz (iv K9 ng (by rw [vg];exact Nat.lt_of_le_of_lt ajN kd.r)) hK
 obtain ⟨p,p',lp,lp',e2,hp,ai,dp,np,dp',np',vp,vp'⟩:=SL h hx hg ha K9 na ng la We (by omega);obtain ⟨q,q',lq,lq',e3,hq,bI,dq,nq,dq',nq',vq,vq'⟩:=SL h hy hg hb K9 nb ng lb We (by omega);rw [va,vg] at vp;rw [vb,vg] at vq;have hrn:(bi n d).natAbs=n.natAbs/xL n d:=by unfold bi;rw [wZ (Int.gcd_dvd_left n d)];rfl
 have gT:(bm n d).natAbs=d.natAbs/xL n d:=by unfold bm;rw [wZ (Int.gcd_dvd_right n d)];rfl
 have hdp:=oQ (a:=n) hd;rw [<-hrn] at vp;rw [<-gT] at vq;have anG:=BA n d;have K8:ij (decide (n<0)) (dv lp)=bi n d:=by
  rw [vp];unfold ij;by_cases h0:n<0
  ·have:¬0<=bi n d:=fun h1=>by have:=Int.mul_nonneg (Int.le_of_lt CH) h1;omega
   simp only [h0,yE,yQ];omega
  ·have:¬bi n d<0:=fun h1=>by have:=Int.mul_neg_of_pos_of_neg CH h1;omega
   simp only [h0,yF,yt,yG];omega
 have Wf:Bd K (bi n d):=kn.le (ni n d);have J0:Bd K (bm n d):=kd.le (nj n d);have lp1:lp.length<=8000000000:=xz (iv dp np (by rw [vp];exact Wf.r)) hK
 have GG:lq.length<=8000000000:=xz (iv dq nq (by rw [vq];exact J0.r)) hK
 obtain ⟨s,e4,hs⟩:=pC h.jo h.cU (decide (n<0)) hp dp (by omega);rw [K8] at hs;obtain ⟨e5,l5⟩:=JQ (K:=K) h.JR h.kL (by omega) hs Wf.r;obtain ⟨u,e6,hu⟩:=pC h.jo h.cU false hq dq (by omega);have Gn:ij false (dv lq)=bm n d:=by rw [vq];unfold ij;simp only [yt,yG];omega
 rw [Gn] at hu;obtain ⟨e7,l7⟩:=JQ (K:=K) h.JR h.kL (by omega) hu J0.r;obtain ⟨sw,sl,rfl,so,_,_,_⟩:=hs;obtain ⟨uw,ul,rfl,Wg,_,_,_⟩:=hu;have amL:0<lq.length:=by
  rcases xp lq.length with e | e
  ·rw [yP e] at vq;simp [dv] at vq;omega
  ·exact e
 by_cases La:lq.length=1
 ·obtain ⟨z,rfl⟩:∃z,lq=[z]:=by
   cases lq with
   | nil=>simp at La
   | cons z r=>cases r with
    | nil=>exact ⟨z,rfl⟩
    | cons y r=>simp at La
  have C6:z=bm n d:=by simp [dv] at vq;omega
  have e8:=hq.a7 (i:=0) (by simp);simp only [uC] at e8;by_cases h1:bm n d=1
  ·have hT:fU n d=bz (bi n d):=by unfold fU;rw [yS h1]
   rw [hT];simp only [go_sem,ya,jK,bp,t2,t3,hx.aE,hy.aE,dE,yy,gk,show ¬d<0 by omega,yF,e1,hg.aE,hg.shut,e2,hp.aE,hp.bg,ai.bg,e3,hq.len,hq.bg,bI.bg,e4,so.aE,ef,dM,e5,yz,y5,show ((1:Nat):Int)=(1:Int) from rfl,yE,e8,C6,h1]
  ·have hT:fU n d=(bz (bi n d)++[47])++bz (bm n d):=by unfold fU;rw [yD h1]
   rw [hT]
   simp only [go_sem,ya,jK,bp,t2,t3,hx.aE,hy.aE,dE,yy,gk,show ¬d<0 by omega,yF,e1,hg.aE,hg.shut,e2,hp.aE,hp.bg,ai.bg,e3,hq.len,hq.aE,hq.bg,bI.bg,e4,so.aE,ef,dM,e5,yz,y5,show ((1:Nat):Int)=(1:Int) from rfl,yE,e8,C6,h1,fN (a:=bz (bi n d)) (b:=[47]) (by simp;omega),e6,Wg.aE,e7,fN (a:=bz (bi n d)++[47]) (b:=bz (bm n d)) (by simp;omega)]
 ·have h1:¬bm n d=1:=fun h1=>La (by
   have h2:lq.length<=1:=PO dq nq (by rw [vq,h1];decide)
   omega)
  have hT:fU n d=(bz (bi n d)++[47])++bz (bm n d):=by unfold fU;rw [yD h1]
  rw [hT]
  simp only [go_sem,ya,jK,bp,t2,t3,hx.aE,hy.aE,dE,yy,gk,show ¬d<0 by omega,yF,e1,hg.aE,hg.shut,e2,hp.aE,hp.bg,ai.bg,e3,hq.len,hq.aE,hq.bg,bI.bg,e4,so.aE,ef,dM,e5,show ¬(lq.length:Int)=1 by omega,fN (a:=bz (bi n d)) (b:=[47]) (by simp;omega),e6,Wg.aE,e7,fN (a:=bz (bi n d)++[47]) (b:=bz (bm n d)) (by simp;omega)]
def Xx (n d:Int):xQ (-n) (-d)=xQ n d:=by rw [Rat.divInt_neg',Int.neg_neg]
def aia (h:Rm P L) {v w:AV} {n d:Int} {K:Nat} (hK:K<=8000000000) (hv:iK v n) (hw:iK w d) (kn:Bd K n) (kd:Bd K d) (hd:d≠0):an P L 280 [v,w] (.str (RT (xQ n d))):=by
 have fin:∀{x y:AV} {a b:List Int} {n' d':Int},aX x a->dg a->nz a->dv a=n'.natAbs->aX y b->dg b->nz b->dv b=d'.natAbs->Bd K n'->Bd K d'->0<d'->xQ n' d'=xQ n d->∀tm,ah tm 2= .ptr 0 0->ah tm 3= .ptr 1 0->
   D P L (.seq (ew jK.body) (ew (bp jK.body))) ⟨[(0,v),(1,w)],[],0,0⟩=some (.normal,⟨tm,[(1,.cells true true true 2 [.bool (decide (d'<0)),y]),(0,.cells true true true 2 [.bool (decide (n'<0)),x])],2,0⟩)->an P L 280 [v,w] (.str (RT (xQ n d))):=fun {x y a b n' d'} hx ha na va hy hb nb vb kn kd hd hq tm t2 t3 e=>by
  unfold an;rw [aT h.ajH];show jL [.t 4] (D P L (.seq (ew jK.body) (.seq (ew (bp jK.body)) (bp (bp jK.body)))) ⟨[(0,v),(1,w)],[],0,0⟩)=_
  rw [Il,e,jB,<-hq];exact agK h hK hx ha na va hy hb nb vb kn kd hd t2 t3
 have ju:=hv;have hw':=hw;obtain ⟨x,a,rfl,hx,ha,na,va⟩:=hv;obtain ⟨y,b,rfl,hy,hb,nb,vb⟩:=hw;by_cases h0:d<0
 ·obtain ⟨r,e1,hr⟩:=Un (K:=K) h.UD h.jo h.cU (by omega) ju kn.r;obtain ⟨s,e2,hs⟩:=Un (K:=K) h.UD h.jo h.cU (by omega) hw' kd.r;obtain ⟨x',a',rfl,Lb,Kk,na',va'⟩:=hr;obtain ⟨y',b',rfl,Lc,dn,nb',vb'⟩:=hs;simp only [h0,yE] at e2
  refine fin Lb Kk na' va' Lc dn nb' vb' kn.neg kd.neg (by omega) (Xx n d) _ ?_ ?_ (by
   simp only [go_sem,ya,yc,jK,ew,bp,b9,hx.pu,hx.aE,hx.one,hy.pu,hy.aE,hy.one,Lb.pu,Lb.one,Lc.pu,Lc.one,dE,yy,h0,yE,IY,ef,e1,e2,dM,gl]<;>rfl)<;>simp only [go_sem,ya]
 ·refine fin hx ha na va hy hb nb vb kn kd (by omega) rfl _ ?_ ?_ (by simp only [go_sem,ya,yc,jK,ew,bp,b9,hx.pu,hx.one,hy.pu,hy.one,dE,yy,h0,yF]<;>rfl)<;>simp only [go_sem,ya]
end
end
section
open Go (IntKind)
def aib (z:Int) (m:Nat) (h:z.natAbs=m):(z.tdiv 1000000000).natAbs=m/1000000000/\(if z.tmod 1000000000<0 then 0-z.tmod 1000000000 else z.tmod 1000000000)=((m%1000000000:Nat):Int)/\(z<0->z.tdiv 1000000000<=0)/\(0<=z->0<=z.tdiv 1000000000):=by
 rcases Int.lt_or_le z 0 with h0 | h0
 ·obtain ⟨n,rfl⟩:∃n:Nat,z= -(n:Int):=⟨z.natAbs,by omega⟩;rw [Int.neg_tdiv,Int.neg_tmod,xu (by omega),Int.tmod_eq_emod_of_nonneg (by omega)]
  grind
 ·grind
section
variable {P:aA} {L:Lib}
def agL {neg:Bool} {N:Nat} (hN:N<=9223372036854775808):
  ∀k s,(∃(i:Nat) (z:Int) (out:List Int),z.natAbs=k/\out.length=i/\dg out/\dv out+1000000000^i*z.natAbs=N/\(neg=true->z<=0)/\(neg=false->0<=z)/\i<=3/\
    ((i=0/\bw [0,2,3,4] s=⟨[(0,aa z),(2,.ptr 0 0),(3,.ab),(4,.bool neg)],[(0,.cells true true true 2 [.bool false,.ab])],1,0⟩)\/
    (0<i/\bw [0,2,3,4] s=⟨[(0,aa z),(2,.ptr 0 0),(3,.aq 1 0 i),(4,.bool neg)],[(1,.cells true true false 1 (out.map aa)),(0,.cells true true true 2 [.bool false,.ab])],2,0⟩)))->
   ∃ex s',D P L (.loop [0,2,3,4] mw) s=some (ex,s')/\∃tm i out,ex= .exit 0/\out.length=i/\i<=3/\dg out/\dv out=N/\ah tm 2= .ptr 0 0/\ah tm 4= .bool neg/\
    ((i=0/\ah tm 3= .ab/\s'=⟨tm,[(0,.cells true true true 2 [.bool false,.ab])],1,0⟩)\/(0<i/\ah tm 3= .aq 1 0 i/\s'=⟨tm,[(1,.cells true true false 1 (out.map aa)),(0,.cells true true true 2 [.bool false,.ab])],2,0⟩)):=by
 refine cG (I:=fun k s=>∃(i:Nat) (z:Int) (out:List Int),z.natAbs=k/\out.length=i/\dg out/\dv out+1000000000^i*z.natAbs=N/\(neg=true->z<=0)/\(neg=false->0<=z)/\i<=3/\
    ((i=0/\s=⟨[(0,aa z),(2,.ptr 0 0),(3,.ab),(4,.bool neg)],[(0,.cells true true true 2 [.bool false,.ab])],1,0⟩)\/
    (0<i/\s=⟨[(0,aa z),(2,.ptr 0 0),(3,.aq 1 0 i),(4,.bool neg)],[(1,.cells true true false 1 (out.map aa)),(0,.cells true true true 2 [.bool false,.ab])],2,0⟩)))
  (Q:=fun ex s'=>∃tm i out,ex= .exit 0/\out.length=i/\i<=3/\dg out/\dv out=N/\ah tm 2= .ptr 0 0/\ah tm 4= .bool neg/\
    ((i=0/\ah tm 3= .ab/\s'=⟨tm,[(0,.cells true true true 2 [.bool false,.ab])],1,0⟩)\/(0<i/\ah tm 3= .aq 1 0 i/\s'=⟨tm,[(1,.cells true true false 1 (out.map aa)),(0,.cells true true true 2 [.bool false,.ab])],2,0⟩))) ?_
 rintro k s ⟨i,z,out,rfl,hlen,hd,bC,eB,iE,Wh,hs⟩;by_cases hz:z=0
 ·right
  subst hz;have hv:dv out=N:=by simpa using bC
  rcases hs with ⟨h0,rfl⟩ | ⟨h0,rfl⟩
  ·simp only [go_sem,mw,yE,y9];exact ⟨_,_,rfl,by simp,_,i,out,rfl,hlen,Wh,hd,hv,by simp only [go_sem,ya],by simp only [go_sem,ya],.inl ⟨h0,by simp only [go_sem,ya],rfl⟩⟩
  ·simp only [go_sem,mw,yE,y9];exact ⟨_,_,rfl,by simp,_,i,out,rfl,hlen,Wh,hd,hv,by simp only [go_sem,ya],by simp only [go_sem,ya],.inr ⟨h0,by simp only [go_sem,ya],rfl⟩⟩
 ·left
  obtain ⟨m,hm⟩:∃m,z.natAbs=m:=⟨_,rfl⟩;have GD:0<m:=by omega
  rw [hm] at bC;have hi2:i<3:=by
   rcases Nat.lt_or_ge i 3 with h | h
   ·exact h
   ·have e3:i=3:=by omega
    subst e3
    have:=xq (1000000000^3) GD
    omega
  have hmN:m<=9223372036854775808:=by
   have:=Nat.le_mul_of_pos_left m (yaK (n:=i) (show 0<1000000000 by decide))
   omega
  obtain ⟨d1,d2,d3,d4⟩:=aib z m hm;have jW:=sC m 1000000000;have rR:dg (out++[((m%1000000000:Nat):Int)]):=fc.2 ⟨hd,iP.2 (by omega)⟩;have E4:dv (out++[((m%1000000000:Nat):Int)])+1000000000^(i+1)*(m/1000000000)=N:=by
   rw [jy,hlen,<-bC,xy,xZ];have e:1000000000^i*m=1000000000^i*(m%1000000000)+1000000000^i*(1000000000*(m/1000000000)):=by rw [<-xY,jW]
   rw [e];simp only [dv,wo,vD,xS];omega
  have C7:IntKind.wrap .i64 (z.tdiv 1000000000)=z.tdiv 1000000000:=wrap64 (by omega) (by omega);have kW: -9223372036854775808<=z.tmod 1000000000/\z.tmod 1000000000<1000000000:=by
   have h1:(z.tmod 1000000000).natAbs<1000000000:=by
    split at d2<;>omega
   omega
  have nM:(neg=true->z.tdiv 1000000000<=0)/\(neg=false->0<=z.tdiv 1000000000):=⟨fun h=>d3 (by have:=eB h;omega),fun h=>d4 (iE h)⟩;have aU:(z.tdiv 1000000000).natAbs<m:=by rw [d1];omega
  obtain ⟨z',fH⟩:∃z',z.tdiv 1000000000=z':=⟨_,rfl⟩;rw [fH] at d1 d3 d4 C7 nM aU;have cR:dv (out++[((m%1000000000:Nat):Int)])+1000000000^(i+1)*z'.natAbs=N:=by rw [d1];exact E4
  generalize m%1000000000=r at*
  by_cases fq:z.tmod 1000000000<0
  ·rw [yS fq] at d2;rcases hs with ⟨h0,rfl⟩ | ⟨h0,rfl⟩
   ·subst h0;have lQ:out=[]:=yP hlen;subst lQ
    simp only [go_sem,ya,yc,yo,yj,yd,yh,mw,yF,hz,xB,dw _ _ _ (show (1000000000:Int)≠0 by decide),er _ _ _ (show (1000000000:Int)≠0 by decide),fq,d2,wrapN (n:=r) (by omega),mq,fH,C7];refine ⟨_,z'.natAbs,rfl,by omega,1,z',[]++[(r:Int)],rfl,rfl,rR,cR,nM.1,nM.2,by omega,.inr ⟨by omega,?_⟩⟩;simp only [go_sem,ya,yc,aJ]<;>rfl
   ·simp only [go_sem,ya,yc,yd,yh,mw,yF,hz,xB,dw _ _ _ (show (1000000000:Int)≠0 by decide),fq,d2,wrapN (n:=r) (by omega)]
    rw [mr (ex:=false) (pu:=true) (cs:=out.map aa) (by simp only [go_sem,ya]) (by rw [yU,hlen,yh]) (by omega) (by omega) (by decide) (by simp only [go_sem])];simp only [go_sem,ya,yc,er _ _ _ (show (1000000000:Int)≠0 by decide),fH,C7];refine ⟨_,z'.natAbs,rfl,by omega,i+1,z',out++[(r:Int)],rfl,by simp [hlen],rR,cR,nM.1,nM.2,by omega,.inr ⟨by omega,?_⟩⟩;rw [xG];simp only [go_sem,ya,yc,aJ]<;>rfl
  ·rw [yD fq] at d2;rcases hs with ⟨h0,rfl⟩ | ⟨h0,rfl⟩
   ·subst h0;have lQ:out=[]:=yP hlen;subst lQ;simp only [go_sem,ya,yc,yo,yj,yd,yh,mw,yF,hz,xB,dw _ _ _ (show (1000000000:Int)≠0 by decide),er _ _ _ (show (1000000000:Int)≠0 by decide),d2,show ¬((r:Nat):Int)<0 by omega,mq,fH,C7];refine ⟨_,z'.natAbs,rfl,by omega,1,z',[]++[(r:Int)],rfl,rfl,rR,cR,nM.1,nM.2,by omega,.inr ⟨by omega,?_⟩⟩;simp only [go_sem,ya,yc,aJ]<;>rfl
   ·simp only [go_sem,ya,yc,yd,yh,mw,yF,hz,xB,dw _ _ _ (show (1000000000:Int)≠0 by decide),d2,show ¬((r:Nat):Int)<0 by omega]
    rw [mr (ex:=false) (pu:=true) (cs:=out.map aa) (by simp only [go_sem,ya]) (by rw [yU,hlen,yh]) (by omega) (by omega) (by decide) (by simp only [go_sem])];simp only [go_sem,ya,yc,er _ _ _ (show (1000000000:Int)≠0 by decide),fH,C7];refine ⟨_,z'.natAbs,rfl,by omega,i+1,z',out++[(r:Int)],rfl,by simp [hlen],rR,cR,nM.1,nM.2,by omega,.inr ⟨by omega,?_⟩⟩;rw [xG];simp only [go_sem,ya,yc,aJ]<;>rfl
def PP {n:Int} (h: -9223372036854775808<=n/\n<9223372036854775808):n.natAbs<=9223372036854775808:=by omega
def PQ (n:Int):ij (decide (n<0)) n.natAbs=n:=by
 unfold ij
 grind
def aic (h:Rm P L) {n:Int} (hn: -9223372036854775808<=n/\n<9223372036854775808):∃r,an P L 281 [aa n] r/\iK r n:=by
 have key:=fun s=>agL (P:=P) (L:=L) (neg:=decide (n<0)) (PP hn) n.natAbs s
 unfold an;rw [aT h.UB];simp only [go_sem,ya,yc,Ft,b9];generalize hq:D P L (.loop [0,2,3,4] mw) _=q;obtain ⟨ex,s,rfl,tm,i,out,rfl,hlen,hi,hd,bC,t2,t4,BY⟩:=cm hq key (by
  refine ⟨0,n,[],rfl,rfl,rfl,by simp [dv],fun h=>by simp at h;omega,fun h=>by simp at h;omega,by omega,.inl ⟨rfl,?_⟩⟩
  simp only [go_sem,ya,yc,aJ]<;>rfl)
 rcases BY with ⟨qc,t3,rfl⟩ | ⟨qc,t3,rfl⟩
 ·subst qc;have lQ:out=[]:=yP hlen;subst lQ;obtain ⟨r,e,hr⟩:=pC h.jo h.cU (decide (n<0)) (show aX .ab [] from oP) hd (by simp);rw [bC,PQ] at hr;have dj:=hr;obtain ⟨w,l,rfl,hw,_,_,_⟩:=dj;refine ⟨_,?_,hr⟩;simp only [go_sem,ya,yc,aJ,t2,t3,t4,e,hw.pu,hw.one,dM,gl];rcases hw with ⟨rfl,_⟩ | ⟨e,rfl⟩<;>rfl
 ·have hI:=fM false out;rw [hlen] at hI;obtain ⟨r,e,hr⟩:=pC h.jo h.cU (decide (n<0)) hI hd (by omega);rw [bC,PQ] at hr;have dj:=hr;obtain ⟨w,l,rfl,hw,_,_,_⟩:=dj;refine ⟨_,?_,hr⟩
  simp only [go_sem,ya,yc,aJ,t2,t3,t4,fun hp=>jz (hp:=hp) (k:=i) (sz:=1) (cs:=out.map aa) false (by simp [hlen]) (by decide),e,hw.pu,hw.one,dM,gl];rcases hw with ⟨rfl,_⟩ | ⟨e,rfl⟩<;>rfl
def agM (n:Int):RT (n:Rat)=bz n:=by unfold RT;simp
def aid (h:Rm P L) (JU:Has P L 265 Fm) {n:Int} (hn: -9223372036854775808<=n/\n<9223372036854775808):an P L 265 [aa n] (.str (RT (n:Rat))):=by
 obtain ⟨r,e,hr⟩:=aic h hn;obtain ⟨e2,_⟩:=JQ (K:=8) h.JR h.kL (by omega) hr (by have:=PP hn;omega);rw [agM];obtain ⟨w,l,rfl,hw,_,_,_⟩:=hr;unfold an at e e2 ⊢;rw [aT JU];simp only [go_sem,ya,Fm,e,hw.aE,dM,ef,e2]
def IZ {K:Nat} {a:Rat} (h:Hq K a):(RT a).length<=2*K+3:=by
 have h1:=HL h.1;have h2:=HL h.2;rw [qH] at h2;unfold RT
 grind
def PR {K:Nat} {z:Int} (h:Bd K z):(az z.natAbs).length<=K+1:=by
 have:=HL (z:=(z.natAbs:Int)) (k:=K) (by unfold Bd at h ⊢;omega)
 rwa [qH] at this
def SM (h:Rm P L) {a:Rat} {K:Nat} (ka:Hq K a) (hK:K<=8000000000):∃x y,an P L 274 [.str (RT a)] (.ay [x,y])/\iK x a.num/\iK y (a.den:Int):=by
 have h1:=PR ka.1;have h2:=PR ka.2
 exact UJ h.toRb (n:=a.num) (d:=a.den) (by omega) (by simpa using (by omega:(az ((a.den:Int)).natAbs).length<=144000000000))
end
end
section
open Go (IntKind)
def ad7 (n:Int) (d:Nat):IW true n d= .ay [aa n,aa d,.bool true]:=rfl
def SN {a b:Int} (ha:a.natAbs<1000000000) (hb:b.natAbs<1000000000):(a*b).natAbs<1000000000000000000:=by
 rw [Int.natAbs_mul];exact yX (uE ha hb) (by decide)
section
variable {P:aA} {L:Lib}
def aie (h:Rm P L) {a b:Int} (ha: -4000000000000000000<=a/\a<=4000000000000000000) (hb:0<b/\b<=4000000000000000000):an P L 277 [aa a,aa b] (.str (RT (xQ a b))):=by
 rw [IJ hb.1];exact ajl h.ajG h.JI h.kL ha hb
def SO (h:Rp P L) {a:Rat} {K:Nat} (ka:Hq K a) (hK:K<=8000000000):∃q:Bool,an P L 276 [.str (RT a)] (IW q a.num a.den)/\(q=true->a.num.natAbs<1000000000/\a.den<1000000000):=
 ajm h.ajI h.rO h.nX (n:=a.num) (d:=a.den) (by have:=IZ ka;rw [SK] at this;omega)
def aif (h:Rn P L) {a b:Rat} {K M:Nat} (ka:Hq K a) (kb:Hq M b) (hK:K+M<=8000000000):an P L 267 [.str (RT a),.str (RT b)] (.str (RT (a*b))):=by
 obtain ⟨q1,e1,b1⟩:=SO h.toRp ka (by omega);obtain ⟨q2,e2,b2⟩:=SO h.toRp kb (by omega);have anH:=G2 a b;by_cases hq:(q1=true/\q2=true)
 ·obtain ⟨rfl,rfl⟩:=hq;obtain ⟨b11,b12⟩:=b1 rfl;obtain ⟨b21,b22⟩:=b2 rfl;have p1:=SN b11 b21;have p2:=SN (a:=(a.den:Int)) (b:=(b.den:Int)) (by omega) (by omega);have e3:=aie h.toRm (a:=a.num*b.num) (b:=(a.den:Int)*b.den) (by omega) (by omega);rw [<-mul_eq] at e3;rw [ad7] at e1 e2;unfold an at e1 e2 e3 ⊢;rw [aT h.UF]
  simp only [go_sem,ya,B5,e1,e2,wrap64 (n:=a.num*b.num) (by omega) (by omega),wrap64 (n:=(a.den:Int)*(b.den:Int)) (by omega) (by omega),e3]
 ·have bI:∃n1 d1 n2 d2,cf P L (D P L) 276 [.str (RT a)]=some (.ay [aa n1,aa d1,.bool q1])/\cf P L (D P L) 276 [.str (RT b)]=some (.ay [aa n2,aa d2,.bool q2]):=by
   cases q1<;>cases q2<;>exact ⟨_,_,_,_,e1,e2⟩
  obtain ⟨n1,d1,n2,d2,e1,e2⟩:=bI;obtain ⟨x,y,e3,hx,hy⟩:=SM h.toRm ka (by omega);obtain ⟨z,w,e4,hz,hw⟩:=SM h.toRm kb (by omega);have UK:max K M<=8000000000:=by omega
  obtain ⟨r,e5,hr⟩:=Us (K:=max K M) h.UE h.jq h.jo h.cU UK hx hz (ka.1.mono (by omega)).r (kb.1.mono (by omega)).r;obtain ⟨s,e6,hs⟩:=Us (K:=max K M) h.UE h.jq h.jo h.cU UK hy hw (ka.2.mono (by omega)).r (kb.2.mono (by omega)).r;have e7:=aia h.toRm hK hr hs (ka.1.mul kb.1) (ka.2.mul kb.2) (by omega);rw [<-mul_eq] at e7;obtain ⟨xw,xl,rfl,eM,_,_,_⟩:=hx;obtain ⟨yw,yl,rfl,eN,_,_,_⟩:=hy;obtain ⟨zw,zl,rfl,Aq,_,_,_⟩:=hz;obtain ⟨ww,wl,rfl,Ar,_,_,_⟩:=hw;obtain ⟨dJ,rl,rfl,pR,_,_,_⟩:=hr;obtain ⟨sw,sl,rfl,so,_,_,_⟩:=hs;have hb:¬(q1=true/\q2=true):=hq;unfold an at e3 e4 e5 e6 e7 ⊢;rw [aT h.UF]
  cases q1 with
  | false=>
   simp only [go_sem,ya,yc,B5,b9,e1,e2,e3,e4,eM.pu,eM.aE,eM.one,eN.pu,eN.aE,eN.one,Aq.pu,Aq.aE,Aq.one,Ar.pu,Ar.aE,Ar.one,pR.aE,so.aE,ef,dM,AT,gl,IY,e5,e6,e7]
  | true=>
   cases q2 with
   | true=>exact absurd ⟨rfl,rfl⟩ hb
   | false=>
    simp only [go_sem,ya,yc,B5,b9,e1,e2,e3,e4,eM.pu,eM.aE,eM.one,eN.pu,eN.aE,eN.one,Aq.pu,Aq.aE,Aq.one,Ar.pu,Ar.aE,Ar.one,pR.aE,so.aE,ef,dM,AT,gl,IY,e5,e6,e7]
end
end
section
open Go (IntKind)
def Nx {P:aA} {L:Lib} (a b c d:VC) (s:St):D P L (.seq a (.seq b (.seq c d))) s=rq P L (D P L (.seq a (.seq b c)) s) d:=by
 have e:=Il (P:=P) (L:=L) b c d;rw [mA,mA]
 cases D P L a s with
 | none=>rfl
 | some q=>
  obtain ⟨ex,st⟩:=q
  cases ex with
  | normal=>rw [jB,jB];exact e st
  | ret=>rfl
  | exit id=>rfl
def kz {a b:List Nat} (h:a≠b):dI a b=false:=by
 cases hb:dI a b with
 | false=>rfl
 | true=>exact absurd (Ow hb) h
def Ox:∀a:List Nat,dI a a=true
 | []=>rfl
 | x::a=>by simp [dI,Ox a]
def RE {a b:List Nat} (h:a=b):dI a b=true:=h▸Ox a
def ZQ {s:List Nat} {i:Nat} (h:i<s.length):ej (s.drop i)=(yA 48 s[i]&&yA s[i] 57&&ej (s.drop (i+1))):=by
 rw [List.drop_eq_getElem_cons h];rfl
section
variable {P:aA} {L:Lib}
def ajO (h:Has P L 287 B8) {s:List Nat} (hl:s.length<=1000000000000):an P L 287 [.str s] (.bool (ej s)):=by
 have key:=cG (P:=P) (L:=L) (live:=[0,3]) (a:=qR)
  (I:=fun k st=>∃i:Nat,st=⟨[(0,.str s),(3,aa i)],[],0,0⟩/\i+k=s.length/\ej (s.drop i)=ej s)
  (Q:=fun ex st=>∃tm ct,st=⟨tm,[],ct,0⟩/\((ex= .ret/\ah tm 2= .bool false/\ej s=false)\/(ex= .exit 0/\ej s=true))) ?_
 ·unfold an;rw [aT h];simp only [go_sem,B8];generalize hq:D P L (.loop [0,3] qR) _=q;obtain ⟨ex,st,rfl,tm,ct,rfl,h2⟩:=cm hq (key s.length) ⟨0,by simp only [go_sem,ya,aJ]<;>rfl,by omega,by simp⟩
  rcases h2 with ⟨rfl,h2,h3⟩ | ⟨rfl,h3⟩
  ·simp only [go_sem,h2,h3]
  ·simp only [go_sem,aJ,h3]
 ·rintro k st ⟨i,rfl,hk,hs⟩;by_cases hi:i<s.length
  ·rw [ZQ hi] at hs;by_cases h1:s[i]<48
   ·right
    have e:yA 48 s[i]=false:=by
     cases hb:yA 48 s[i] with
     | false=>rfl
     | true=>have:=yr hb;omega
    rw [e,uh,uh] at hs;simp only [go_sem,ya,qR,show (i:Int)<s.length by omega,lF hi,show ((s[i]:Nat):Int)<48 by omega,yE];exact ⟨_,_,rfl,by simp,_,_,rfl,.inl ⟨rfl,by simp only [go_sem],hs.symm⟩⟩
   ·by_cases h2:57<s[i]
    ·right
     have e:yA s[i] 57=false:=by
      cases hb:yA s[i] 57 with
      | false=>rfl
      | true=>have:=yr hb;omega
     rw [e,Bool.and_false,uh] at hs;simp only [go_sem,ya,qR,show (i:Int)<s.length by omega,lF hi,show ¬((s[i]:Nat):Int)<48 by omega,yF,show (57:Int)<((s[i]:Nat):Int) by omega];exact ⟨_,_,rfl,by simp,_,_,rfl,.inl ⟨rfl,by simp only [go_sem],hs.symm⟩⟩
    ·left
     rw [yv (show 48<=s[i] by omega),yv (show s[i]<=57 by omega),tf,tf] at hs;simp only [go_sem,ya,qR,show (i:Int)<s.length by omega,lF hi,show ¬((s[i]:Nat):Int)<48 by omega,yF,show ¬(57:Int)<((s[i]:Nat):Int) by omega];refine ⟨_,k-1,rfl,by omega,i+1,?_,by omega,hs⟩;rw [wrap64 (by omega) (by omega)];simp only [go_sem,ya,aJ]<;>rfl
  ·right
   simp only [go_sem,ya,qR,show ¬(i:Int)<s.length by omega];refine ⟨_,_,rfl,by simp,_,_,rfl,.inr ⟨rfl,?_⟩⟩;rw [<-hs,List.drop_eq_nil_of_le (by omega)];rfl
def JV (h:Has P L 273 rJ) (Cn:Has P L 287 B8) {s:List Nat} (hl:s.length<=1000000000000):an P L 273 [.str s] (.bool (eR s)):=by
 have e:=ajO Cn hl;unfold an at e ⊢;rw [aT h]
 match s,hl,e with
 | [],_,_=>
  simp only [go_sem,ya,rJ,y5,show ((0:Nat):Int)=0 from rfl,yE];rfl
 | [b],_,e=>
  have:eR [b]=ej [b]:=by simp [eR]
  rw [this];simp only [go_sem,ya,rJ,yz,y5,yy,show ¬((1:Nat):Int)=0 by decide,show ¬(1:Int)<((1:Nat):Int) by decide,yF,e]
 | b::c::r,hl,e=>
  have hd:eR (b::c::r)=(ej (b::c::r)&& !(yq b 48)):=by simp [eR]
  rw [hd];by_cases hb:b=48
  ·subst hb;simp only [go_sem,ya,rJ,yz,show ¬((r.length+1+1:Nat):Int)=0 by omega,yF,show (1:Int)<((r.length+1+1:Nat):Int) by omega,show lH 0 (.str (48::c::r))=some (.int .u8 48) from rfl,yE]
   simp
  ·have:yq b 48=false:=ck hb
   rw [this,xB,uq];simp only [go_sem,ya,rJ,yz,show ¬((r.length+1+1:Nat):Int)=0 by omega,yF,show (1:Int)<((r.length+1+1:Nat):Int) by omega,show lH 0 (.str (b::c::r))=some (.int .u8 (b:Nat)) from rfl,show ¬((b:Nat):Int)=48 by omega,e]
def abT {s:List Nat} {k:Nat} (h:k<=s.length):fW s (some 0) (some k)=some (.str (s.take k)):=by
 rw [jC (by omega) h,vc]
def Oy {s:List Nat} {k:Nat} (h:k<=s.length):fW s (some k) (some s.length)=some (.str (s.drop k)):=by
 rw [jC h (yC _),wi]
def agN (h:Rm P L) {t:List Nat} {k:Nat} (hk:k=bR t) (hl:t.length<=1000000000) (hp:eR (t.take k)=true) {tm:Env} (t3:ah tm 3= .str t) (t4:ah tm 4=aa k):
  jL [.t 2] (D P L (bp (bp (bp (bp (bp cA.body))))) ⟨tm,[],0,0⟩)=some (aa (
   if k<t.length/\(eR (t.drop (k+1))=false\/t.drop (k+1)=[48]\/t.drop (k+1)=[49]) then 1
   else if 600<k\/600<t.length-k-1 then 4
   else if k<t.length/\xU (fp (t.take k)) (fp (t.drop (k+1)))≠1 then 1
   else 0)):=by
 have Wi:k<=t.length:=by rw [hk];exact DL t
 have e3:=JV h.JT h.Cn (s:=t.drop (k+1)) (by rw [wA];omega);unfold an at e3;have qd:(k:Int)+1=((k+1:Nat):Int):=rfl;by_cases hs:k<t.length
 ·have c2:=Oy (s:=t) (k:=k+1) (by omega);have jF:=Lu t (by omega);rw [<-hk] at jF;have KU:(t.drop (k+1)).length=t.length-k-1:=by rw [wA];omega
  have hlp:(t.take k).length=k:=by rw [yK];omega
  generalize hqe:t.drop (k+1)=q at*
  generalize hpe:t.take k=p at*
  cases hd:eR q with
  | false=>
   rw [yS ⟨hs,.inl rfl⟩];rw [hd] at e3
   simp only [go_sem,ya,cA,bp,t3,t4,show (k:Int)<(t.length:Int) by omega,yE,qd,wrapN (n:=k+1) (by omega),dN,et,dF,c2,e3,xB]
  | true=>
   rw [hd] at e3;by_cases nd:q=[48]
   ·rw [yS ⟨hs,.inr (.inl nd)⟩]
    simp only [go_sem,ya,cA,bp,t3,t4,show (k:Int)<(t.length:Int) by omega,yE,qd,wrapN (n:=k+1) (by omega),dN,et,dF,c2,e3,y9,mu,RE nd]
   ·by_cases lk:q=[49]
    ·rw [yS ⟨hs,.inr (.inr lk)⟩]
     simp only [go_sem,ya,cA,bp,t3,t4,show (k:Int)<(t.length:Int) by omega,yE,qd,wrapN (n:=k+1) (by omega),dN,et,dF,c2,e3,y9,mu,kz nd,RE lk]
    ·rw [yD (by simp only [hs,true_and,tj,yay];exact fun e=>e.elim nd lk)]
     by_cases rV:600<k
     ·rw [yS (.inl rV)]
      simp only [go_sem,ya,cA,bp,t3,t4,show (k:Int)<(t.length:Int) by omega,yE,qd,wrapN (n:=k+1) (by omega),dN,et,dF,c2,e3,y9,mu,kz nd,kz lk,show (600:Int)<(k:Int) by omega]
     ·by_cases ajP:600<t.length-k-1
      ·rw [yS (.inr ajP)]
       simp only [go_sem,ya,cA,bp,t3,t4,show (k:Int)<(t.length:Int) by omega,yE,qd,wrapN (n:=k+1) (by omega),dN,et,dF,c2,e3,y9,mu,kz nd,kz lk,show ¬(600:Int)<(k:Int) by omega,yF,show (t.length:Int)-(k:Int)=((t.length-k:Nat):Int) by omega,wrapN (n:=t.length-k) (by omega),show ((t.length-k:Nat):Int)-1=((t.length-k-1:Nat):Int) by omega,wrapN (n:=t.length-k-1) (by omega),show (600:Int)<((t.length-k-1:Nat):Int) by omega]
      ·rw [yD (by omega)];have oC:=DM _ rfl hp;have me:=DM _ rfl hd;have sj:fp q≠0:=fun e=>nd (by rw [<-me,e];rfl)
       have jP:fp q≠1:=fun e=>lk (by rw [<-me,e];rfl)
       generalize fp p=n at*
       generalize fp q=d at*
       have hT:TT (n:Int) d=t:=by
        unfold TT;rw [qH,yD jP,oC,me];exact jF.symm
       obtain ⟨x,y,e4,hx,hy⟩:=UJ h.toRb (n:=(n:Int)) (d:=d) (by rw [uj,oC];omega) (by rw [me];omega);rw [hT] at e4;obtain ⟨xw,xl,rfl,eM,dx,nx,vx⟩:=hx;obtain ⟨yw,yl,rfl,eN,dy,ny,vy⟩:=hy;rw [uj] at vx vy;have CI:n<10^p.length:=by rw [<-oC];exact IG n
       have hdb:d<10^q.length:=by rw [<-me];exact IG d
       obtain ⟨K,hK⟩:∃K:Nat,K=600:=⟨_,rfl⟩;have Wj:∀{m j:Nat},m<10^j->j<=K->m<1000000000^K:=fun {m j} h1 h2=>
        yX h1 (xz (Nat.pow_le_pow_right (by decide) h2) (ua (by decide) K))
       have lxl:=iv dx nx (by rw [vx];exact Wj CI (by omega))
       have lyl:=iv dy ny (by rw [vy];exact Wj hdb (by omega))
       obtain ⟨g,lg,e5,hg,Wk,ngg,vg⟩:=SJ h.UA h.Cm h.jq h.mK h.kM h.cU h.lP eM eN dx dy nx ny (by omega) (by omega);rw [vx,vy] at vg;have CH:0<xU n d:=Nat.gcd_pos_of_pos_right _ (by omega);unfold an at e4 e5;by_cases JW:lg.length=1
       ·obtain ⟨z,rfl⟩:∃z,lg=[z]:=by
         cases lg with
         | nil=>simp at JW
         | cons z r=>cases r with
          | nil=>exact ⟨z,rfl⟩
          | cons y r=>simp at JW
        have gz:=iP.1 Wk;have C6:z=(xU n d:Nat):=by simp [dv] at vg;omega
        have e8:=hg.a7 (i:=0) (by simp);simp only [uC] at e8;by_cases gR:xU n d=1
        ·rw [yD (by simp [gR])]
         simp only [go_sem,ya,yc,cA,bp,t3,t4,show (k:Int)<(t.length:Int) by omega,yE,qd,wrapN (n:=k+1) (by omega),dN,et,dF,c2,e3,y9,mu,kz nd,kz lk,show ¬(600:Int)<(k:Int) by omega,yF,show (t.length:Int)-(k:Int)=((t.length-k:Nat):Int) by omega,wrapN (n:=t.length-k) (by omega),show ((t.length-k:Nat):Int)-1=((t.length-k-1:Nat):Int) by omega,wrapN (n:=t.length-k-1) (by omega),show ¬(600:Int)<((t.length-k-1:Nat):Int) by omega,e4,b9,eM.pu,eM.aE,eM.one,eN.pu,eN.aE,eN.one,gl,dE,yy,gk,e5,hg.len,hg.shut,yz,y5,show ((1:Nat):Int)=(1:Int) from rfl,y9,e8,C6,gR]
        ·rw [yS ⟨hs,gR⟩]
         simp only [go_sem,ya,yc,cA,bp,t3,t4,show (k:Int)<(t.length:Int) by omega,yE,qd,wrapN (n:=k+1) (by omega),dN,et,dF,c2,e3,y9,mu,kz nd,kz lk,show ¬(600:Int)<(k:Int) by omega,yF,show (t.length:Int)-(k:Int)=((t.length-k:Nat):Int) by omega,wrapN (n:=t.length-k) (by omega),show ((t.length-k:Nat):Int)-1=((t.length-k-1:Nat):Int) by omega,wrapN (n:=t.length-k-1) (by omega),show ¬(600:Int)<((t.length-k-1:Nat):Int) by omega,e4,b9,eM.pu,eM.aE,eM.one,eN.pu,eN.aE,eN.one,gl,dE,yy,gk,e5,hg.len,hg.shut,yz,y5,show ((1:Nat):Int)=(1:Int) from rfl,y9,e8,C6,show ¬((xU n d:Nat):Int)=1 by omega,xB]
       ·have gR:xU n d≠1:=fun e=>JW (by
         have h1:lg.length<=1:=PO Wk ngg (by omega);have h2:0<lg.length:=by
          rcases xp lg.length with h0 | h0
          ·rw [yP h0] at vg;simp [dv] at vg;omega
          ·exact h0
         omega)
        rw [yS ⟨hs,gR⟩]
        simp only [go_sem,ya,yc,cA,bp,t3,t4,show (k:Int)<(t.length:Int) by omega,yE,qd,wrapN (n:=k+1) (by omega),dN,et,dF,c2,e3,y9,mu,kz nd,kz lk,show ¬(600:Int)<(k:Int) by omega,yF,show (t.length:Int)-(k:Int)=((t.length-k:Nat):Int) by omega,wrapN (n:=t.length-k) (by omega),show ((t.length-k:Nat):Int)-1=((t.length-k-1:Nat):Int) by omega,wrapN (n:=t.length-k-1) (by omega),show ¬(600:Int)<((t.length-k-1:Nat):Int) by omega,e4,b9,eM.pu,eM.aE,eM.one,eN.pu,eN.aE,eN.one,gl,dE,yy,gk,e5,hg.len,hg.shut,show ¬(lg.length:Int)=1 by omega,xB]
 ·have Wl:k=t.length:=by omega
  rw [yD (by omega)];by_cases rV:600<k
  ·rw [yS (.inl rV)];simp only [go_sem,ya,cA,bp,t3,t4,show ¬(k:Int)<(t.length:Int) by omega,yF,show (600:Int)<(k:Int) by omega,yE]
  ·rw [yD (by omega),yD (by omega)]
   simp only [go_sem,ya,cA,bp,t3,t4,show ¬(k:Int)<(t.length:Int) by omega,yF,show ¬(600:Int)<(k:Int) by omega,show (t.length:Int)-(k:Int)=((t.length-k:Nat):Int) by omega,wrapN (n:=t.length-k) (by omega),show ((t.length-k:Nat):Int)-1= -1 by omega,show IntKind.wrap .i64 (-1)= -1 by rfl,show ¬(600:Int)<(-1:Int) by omega]
def RF (h:Rm P L) {b:Nat} {r:List Nat} {t:List Nat} {neg:Bool} (fq:decide (((b:Nat):Int)=45)=neg) (hl:t.length<=1000000000) {tm:Env} (t0:ah tm 0= .str (b::r)) (t3:ah tm 3= .str t):
  jL [.t 2] (D P L (bp (bp (bp cA.body))) ⟨tm,[],0,0⟩)=some (aa (jO neg t)):=by
 obtain ⟨k,hk⟩:∃k,k=bR t:=⟨_,rfl⟩;have Wi:k<=t.length:=by rw [hk];exact DL t
 have e1:=Cg h.rO (s:=t) (by omega);have e2:=JV h.JT h.Cn (s:=t.take k) (by rw [yK];omega);unfold jO;rw [<-hk] at e1 ⊢;have c1:=abT Wi;have hI:lH 0 (.str (b::r))=some (.int .u8 (b:Nat)):=rfl;generalize hp:t.take k=p at*
 generalize hq:t.drop (k+1)=q at*
 cases hd:eR p with
 | false=>
  rw [yS (.inl rfl)];rw [hd] at e2;simp only [go_sem,ya,cA,bp,t3,e1,dN,et,dF,c1,e2,xB]
 | true=>
  rw [hd] at e2;by_cases hz:neg=true/\p=[48]
  ·rw [yS (.inr hz)];obtain ⟨z1,z2⟩:=hz;rw [z1] at fq;have hb:=of_decide_eq_true fq;subst z2;simp only [go_sem,ya,cA,bp,t0,t3,e1,dN,et,dF,c1,e2,y9,hI,hb,yE,mu,show dI [48] [48]=true from rfl]
  ·rw [yD (by simp only [tj,yay];exact hz)]
   have fin:∀tm',ah tm' 3= .str t->ah tm' 4=aa k->D P L (.seq (ew (bp (bp (bp cA.body)))) (ew (bp (bp (bp (bp cA.body)))))) ⟨tm,[],0,0⟩=some (.normal,⟨tm',[],0,0⟩)->jL [.t 2] (D P L (bp (bp (bp cA.body))) ⟨tm,[],0,0⟩)=some (aa (
     if k<t.length/\(eR q=false\/q=[48]\/q=[49]) then 1
     else if 600<k\/600<t.length-k-1 then 4
     else if k<t.length/\xU (fp p) (fp q)≠1 then 1
     else 0)):=fun tm' f3 f4 e=>by
    show jL [.t 2] (D P L (.seq (ew (bp (bp (bp cA.body)))) (.seq (ew (bp (bp (bp (bp cA.body))))) (bp (bp (bp (bp (bp cA.body))))))) ⟨tm,[],0,0⟩)=_
    rw [Il,e,jB,<-hp,<-hq];exact agN h hk hl (by rw [hp];exact hd) f3 f4
   by_cases hb:((b:Nat):Int)=45
   ·have ajQ:p≠[48]:=fun e=>hz ⟨by rw [<-fq];exact vR hb,e⟩
    refine fin _ ?_ ?_ (by simp only [go_sem,ya,cA,ew,bp,t0,t3,e1,dN,et,dF,c1,e2,y9,hI,hb,yE,mu,kz ajQ]<;>rfl)<;>simp only [go_sem,ya,t3]
   ·refine fin _ ?_ ?_ (by simp only [go_sem,ya,cA,ew,bp,t0,t3,e1,dN,et,dF,c1,e2,y9,hI,hb,yF]<;>rfl)<;>simp only [go_sem,ya,t3]
def UL (h:Rm P L) {s:List Nat} (hl:s.length<=1000000000):an P L 263 [.str s] (aa (gV s)):=by
 unfold an;rw [aT h.ajM]
 cases s with
 | nil=>
  have e1:=Cg h.rO (s:=[]) (by simp);have e2:=JV h.JT h.Cn (s:=[]) (by simp);have hc:fW [] (some 0) (some 0)=some (.str []):=rfl;simp only [go_sem,ya,cA,y5,show ¬(0:Int)<((0:Nat):Int) by decide,yF,e1,bR,dN,et,dF,hc,e2,show eR []=false from rfl,xB];rfl
 | cons b t=>
  have pX:t.length+1<=1000000000:=by simpa using hl
  have hI:lH 0 (.str (b::t))=some (.int .u8 (b:Nat)):=rfl;by_cases hb:b=45
  ·subst hb;have fin:∀tm',ah tm' 0= .str (45::t)->ah tm' 3= .str t->D P L (.seq (ew cA.body) (.seq (ew (bp cA.body)) (ew (bp (bp cA.body))))) ⟨[(0,.str (45::t))],[],0,0⟩=some (.normal,⟨tm',[],0,0⟩)->jL [.t 2] (D P L cA.body ⟨[(0,.str (45::t))],[],0,0⟩)=some (aa (gV (45::t))):=fun tm' f0 f3 e=>by
    show jL [.t 2] (D P L (.seq (ew cA.body) (.seq (ew (bp cA.body)) (.seq (ew (bp (bp cA.body))) (bp (bp (bp cA.body)))))) ⟨[(0,.str (45::t))],[],0,0⟩)=_
    rw [Nx,e,jB]
    exact RF h (b:=45) rfl (by omega) f0 f3
   have hc:fW (45::t) (some 1) (some (t.length+1))=some (.str t):=by
    have:=Oy (s:=45::t) (k:=1) (by simp)
    simpa using this
   refine fin _ ?_ ?_ (by simp only [go_sem,ya,cA,ew,bp,yz,show (0:Int)<((t.length+1:Nat):Int) by omega,yE,zO,dN,et,dF,hc]<;>rfl)<;>simp only [go_sem,ya]
  ·have fin:∀tm',ah tm' 0= .str (b::t)->ah tm' 3= .str (b::t)->D P L (.seq (ew cA.body) (.seq (ew (bp cA.body)) (ew (bp (bp cA.body))))) ⟨[(0,.str (b::t))],[],0,0⟩=some (.normal,⟨tm',[],0,0⟩)->jL [.t 2] (D P L cA.body ⟨[(0,.str (b::t))],[],0,0⟩)=some (aa (gV (b::t))):=fun tm' f0 f3 e=>by
    show jL [.t 2] (D P L (.seq (ew cA.body) (.seq (ew (bp cA.body)) (.seq (ew (bp (bp cA.body))) (bp (bp (bp cA.body)))))) ⟨[(0,.str (b::t))],[],0,0⟩)=_
    rw [Nx,e,jB]
    have:=RF h (b:=b) (neg:=false) (decide_eq_false (by omega)) (by simpa using hl) f0 f3
    rw [this];simp only [gV,yD hb]
   refine fin _ ?_ ?_ (by simp only [go_sem,ya,cA,ew,bp,yz,show (0:Int)<((t.length+1:Nat):Int) by omega,yE,hI,show ¬((b:Nat):Int)=45 by omega]<;>rfl)<;>simp only [go_sem,ya]
end
end
end VE
