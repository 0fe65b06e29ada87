import Derived.Test.YtflgmingejdfnaaGreatDoorUaw
import Derived.Test.YtflgmingejdfnaaGreatDoorUau
set_option linter.all false
set_option maxRecDepth 100000
open Bool renaming and_true→uD,false_eq_true→yA,not_false→yI,not_true→yM
open Int renaming gcd→wc,natAbs_ediv_of_dvd→vX,neg_neg→ybN,tdiv_eq_ediv_of_nonneg→xE,toNat_natCast→wo
open List.cons renaming injEq→tS
open List renaming cons_append→yW,drop_eq_getElem_cons→yT,drop_left→tW,drop_zero→yj,eq_nil_of_length_eq_zero→yH,getD_eq_getElem?_getD→xJ,getElem?_eq_getElem→wQ,length_append→yO,length_cons→yy,length_map→xm,length_nil→yG,length_pos_iff→uM,length_take→yS,map_append→xt,map_cons→y8,map_nil→wq,nil_append→xN,replicate→yz,take_left→ybb,take_length→xW
open Nat renaming add_comm→yaY,add_zero→yZ,div_eq_of_lt→wR,eq_zero_or_pos→xu,gcd→wj,gcd_comm→uE,le_refl→yB,le_trans→xp,lt_of_lt_of_le→yL,mod_add_div→yba,mod_eq_of_lt→yP,mul_add→xH,mul_assoc→xn,mul_comm→xQ,mul_le_mul_left→yQ,mul_lt_mul''→uS,mul_lt_mul_of_pos_right→wL,mul_one→yi,mul_pos→yaK,mul_zero→xO,pow_lt_pow_iff_right→tB,pow_pos→ybK,pow_succ→xj,reduceAdd→yb,reduceEqDiff→ya,reduceLT→yt,reduceLeDiff→ye,reduceMul→xK,zero_add→yd
open Rat renaming divInt→xX
namespace VE
section
open Go (IntKind)
def last_pos {l:List Int} (hd:dg l) (hn:nz l) (h:0<l.length):0<l.getD (l.length-1) 0:=by
 rcases snoc l with rfl | ⟨m,a,rfl⟩
 ·grind
 ·have e:(m++[a]).getD ((m++[a]).length-1) 0=a:=by simp_all
  have ha:=lP.1 (ik.1 hd).2;by_cases h0:a=0
  ·subst h0
   have:=Nq m
   have e:=congrArg List.length hn;rw [Jd] at e
   grind
  ·omega
section
variable {P:aI} {L:Lib}
def au3 (qv:Has P L 292 AW) {neg:Bool} {w:AV} {l:List Int} (hw:bq w l) (hd:dg l) (hn:nz l) (hl:l.length<=20000000000):
  ∀k s,(∃(j:Nat) (t:List Nat),bA [1,3,4] s=⟨[(1,.ptr 0 0),(3,.str t),(4,aa ((j:Int)-1))],[(0,.cells true true true 2 [.bool neg,w])],1,0⟩/\j=k/\j<l.length/\0<dv (l.drop j)/\t=an (dv (l.drop j))/\t.length<=9*(l.length-j))->
   ∃ex s',D P L (.loop [1,3,4] J7) s=some (ex,s')/\∃tm,s'=⟨tm,[(0,.cells true true true 2 [.bool neg,w])],1,0⟩/\ex= .exit 0/\ab tm 1= .ptr 0 0/\ab tm 3= .str (an (dv l))/\(an (dv l)).length<=180000000000:=by
 refine cg (I:=fun k s=>∃(j:Nat) (t:List Nat),s=⟨[(1,.ptr 0 0),(3,.str t),(4,aa ((j:Int)-1))],[(0,.cells true true true 2 [.bool neg,w])],1,0⟩/\j=k/\j<l.length/\0<dv (l.drop j)/\t=an (dv (l.drop j))/\t.length<=9*(l.length-j))
  (Q:=fun ex s'=>∃tm,s'=⟨tm,[(0,.cells true true true 2 [.bool neg,w])],1,0⟩/\ex= .exit 0/\ab tm 1= .ptr 0 0/\ab tm 3= .str (an (dv l))/\(an (dv l)).length<=180000000000) ?_
 rintro k s ⟨j,t,rfl,rfl,hj,CI,ht,Ye⟩
 cases j with
 | zero=>
  right
  rw [yj] at ht;simp only [go_sem,ya,J7,show ¬(0:Int)<=((0:Nat):Int)-1 by omega];exact ⟨_,_,rfl,by simp,_,rfl,rfl,by simp only [go_sem,ya],by rw [<-ht];simp only [go_sem,ya],by rw [<-ht];omega⟩
 | succ i=>
  left
  have hi:i<l.length:=by omega
  obtain ⟨x,hx⟩:∃x,x=l.getD i 0:=⟨_,rfl⟩;have e1:=rE hw hi;have gx:=iD hd i;rw [<-hx] at e1 gx;obtain ⟨m,rfl⟩:∃m:Nat,x=m:=⟨x.toNat,by omega⟩;have e2:=au2 qv (n:=m) (by omega);unfold af at e2;have hlp:=Tj 9 m;have iO:dv (l.drop i)=dv (l.drop (i+1))*10^9+m:=by
   have:l.drop i=(m:Int)::l.drop (i+1):=by
    rw [yT hi,hx];simp [xJ,wQ hi]
   rw [this];simp only [dv,wo];omega
  have ayr:an (dv (l.drop i))=t++iX 9 m:=by
   rw [iO,NO 9 _ m CI (by omega),ht]
  simp only [go_sem,ya,J7,show ((i+1:Nat):Int)-1=(i:Int) by omega,show (0:Int)<=(i:Int) by omega,aZ,yd,cC,e1,e2,gH (a:=t) (b:=iX 9 m) (by omega)];refine ⟨_,i,rfl,by omega,i,t++iX 9 m,?_,rfl,by omega,by omega,ayr.symm,by simp;omega⟩;rw [wrap64 (by omega) (by omega)];simp only [go_sem,ya,yb,av]<;>rfl
def Wo (h:Has P L 282 KT) (qv:Has P L 292 AW) {v:AV} {n:Int} {K:Nat} (hK:K<=18000000000) (hv:kN v n) (hn:n.natAbs<1000000000^K):af P L 282 [v] (.str (aW n))/\(aW n).length<=180000000001:=by
 obtain ⟨w,l,rfl,hw,hd,hz,qZ⟩:=hv;have hl:=xp (jQ hd hz (by rw [qZ];exact hn)) hK
 by_cases h0:l=[]
 ·subst h0;have mP:n=0:=by simp [dv] at qZ;omega
  subst mP;refine ⟨?_,by decide⟩;unfold af;rw [aq h];simp only [go_sem,ya,yb,KT,aG,hw.len,hw.pu,hw.one,aZ,yd,cC,yG,show ((0:Nat):Int)=(0:Int) from rfl,yq];rfl
 ·have CI:0<l.length:=uM.2 h0;obtain ⟨x,hx⟩:∃x,x=l.getD (l.length-1) 0:=⟨_,rfl⟩;have e1:=rE hw (show l.length-1<l.length by omega);have gx:=iD hd (l.length-1);have gp:=last_pos hd hz CI;rw [<-hx] at e1 gx gp;obtain ⟨m,rfl⟩:∃m:Nat,x=m:=⟨x.toNat,by omega⟩;have e2:=VS qv (n:=m) (by omega);have iO:dv (l.drop (l.length-1))=m:=by
   rw [yT (show l.length-1<l.length by omega),List.drop_eq_nil_of_le (by omega)]
   have:l[l.length-1]=(m:Int):=by rw [hx];simp [xJ,wQ (show l.length-1<l.length by omega)]
   simp [dv,this]
  have h9:(an m).length<=9:=sO (k:=8) (by omega);have fin:∀neg:Bool,bY P L (D P L) 282 [.agg [.bool neg,w]]=some (.str ((if neg=true then [45] else [])++an (dv l)))/\(an (dv l)).length<=180000000000:=fun neg=>by
   rw [aq h]
   simp only [go_sem,ya,yb,KT,aG,hw.len,hw.pu,hw.one,aZ,yd,cC,show ¬(l.length:Int)=0 by omega,show (l.length:Int)-1=((l.length-1:Nat):Int) by omega,wrapN (n:=l.length-1) (by omega),e1,e2];generalize hq:D P L (.loop [1,3,4] J7) _=q;obtain ⟨ex,s,rfl,tm,rfl,rfl,t1,t3,hlen⟩:=bV hq (au3 (P:=P) (L:=L) qv (neg:=neg) hw hd hz (by omega) (l.length-1)) ⟨l.length-1,an m,by
    rw [show (l.length:Int)-2=((l.length-1:Nat):Int)-1 by omega,wrap64 (by omega) (by omega)]
    simp only [go_sem,ya,yb,av]<;>rfl,rfl,by omega,by rw [iO];omega,by rw [iO],by omega⟩
   refine ⟨?_,hlen⟩
   cases neg with
   | true=>
    simp only [go_sem,ya,av,t1,t3,aZ,yd,gH (a:=[45]) (b:=an (dv l)) (by simp;omega),yV]
   | false=>
    simp only [go_sem,ya,av,t1,t3,aZ,yd];rfl
  obtain ⟨f1,f2⟩:=fin (decide (n<0));rw [qZ] at f1 f2;simp only [wN] at f1;rw [nO] at f1;refine ⟨f1,?_⟩;rw [<-nO]
  split<;>simp<;>omega
structure Rb (P:aI) (L:Lib):Prop where
 ays:Has P L 262 KN
 CE:Has P L 272 KS
 aij:Has P L 274 PK
 aik:Has P L 275 PL
 ayt:Has P L 277 Eo
 ayu:Has P L 280 oR
 ail:Has P L 281 PN
 Wp:Has P L 282 KT
 aim:Has P L 288 PQ
 Lq:Has P L 289 zn
 A1:Has P L 290 GN
 VT:Has P L 291 KW
 qv:Has P L 292 AW
 mh:Has P L 293 Cz
 iY:Has P L 294 CA
 Wl:Has P L 295 KX
 oX:Has P L 296 zo
 ain:Has P L 298 PR
 qB:Has P L 299 CB
 dj:Has P L 300 mI
 od:Has P L 302 zp
structure Ras (P:aI) (L:Lib):Prop extends Rb P L where
 aio:Has P L 264 KO
 ayv:Has P L 268 KR
 ayw:Has P L 271 VH
 ayx:Has P L 276 qh
 Lr:Has P L 278 PM
 ayy:Has P L 279 GM
 Qa:Has P L 297 KY
structure Ra (P:aI) (L:Lib):Prop extends Ras P L where
 aip:Has P L 267 KQ
end
end
section
open Go (IntKind)
section
variable {P:aI} {L:Lib}
def ar8 {v w:AV} {a vs:List Int} {f:Int} (hv:bq v a) (hw:bq w vs) {n:Nat} (la:a.length<=9000000000) {A:Nat}:
  ∀k st,(∃us:List Int,bA [0,8,9,10,11] st=⟨[(0,v),(8,.ak 0 0 1),(9,w),(10,aa n),(11,.ak 1 0 us.length)],[(1,.cells true true false 1 (us.map aa)),(0,.cells false true true 1 [aa f])],2,0⟩/\us.length+k=a.length+1/\dg us/\dv us=A)->
   ∃ex st',D P L (.loop [0,8,9,10,11] J8) st=some (ex,st')/\∃tm us,st'=⟨tm,[(1,.cells true true false 1 (us.map aa)),(0,.cells false true true 1 [aa f])],2,0⟩/\ex= .exit 0/\ab tm 8= .ak 0 0 1/\ab tm 9=w/\ab tm 10=aa n/\ab tm 11= .ak 1 0 (a.length+1)/\us.length=a.length+1/\dg us/\dv us=A:=by
 refine cg (I:=fun k st=>∃us:List Int,st=⟨[(0,v),(8,.ak 0 0 1),(9,w),(10,aa n),(11,.ak 1 0 us.length)],[(1,.cells true true false 1 (us.map aa)),(0,.cells false true true 1 [aa f])],2,0⟩/\us.length+k=a.length+1/\dg us/\dv us=A)
  (Q:=fun ex st'=>∃tm us,st'=⟨tm,[(1,.cells true true false 1 (us.map aa)),(0,.cells false true true 1 [aa f])],2,0⟩/\ex= .exit 0/\ab tm 8= .ak 0 0 1/\ab tm 9=w/\ab tm 10=aa n/\ab tm 11= .ak 1 0 (a.length+1)/\us.length=a.length+1/\dg us/\dv us=A) ?_
 rintro k st ⟨us,rfl,hk,gu,aR⟩;have ea:((a.length:Nat):Int)+1=((a.length+1:Nat):Int):=rfl;by_cases hi:us.length<a.length+1
 ·left
  simp only [go_sem,ya,yb,ye,yi,J8,hv.len,ea,wrapN (n:=a.length+1) (by omega),show ((us.length:Nat):Int)<((a.length+1:Nat):Int) by omega]
  rw [jN (ex:=false) (pu:=true) (cs:=us.map aa) (by simp only [go_sem,ya]) (by simp) (by omega) (by omega) (by decide) (by simp only [go_sem])];refine ⟨_,k-1,rfl,by omega,us++[0],?_,by simp;omega,ik.2 ⟨gu,lP.2 (by decide)⟩,by rw [mX];simp [dv,aR]⟩;rw [xt,yO];simp only [go_sem,ya,yb,av,az hv.pu,aE _ hv.pu,az hw.pu,aE _ hw.pu]<;>rfl
 ·right
  have hl:us.length=a.length+1:=by omega
  rw [hl]
  simp only [go_sem,ya,J8,hv.len,ea,wrapN (n:=a.length+1) (by omega),show ¬((a.length+1:Nat):Int)<((a.length+1:Nat):Int) by omega];exact ⟨_,_,rfl,by simp,_,us,rfl,rfl,by simp only [go_sem,ya],by simp only [go_sem,ya],by simp only [go_sem,ya],by simp only [go_sem,ya],hl,gu,aR⟩
end
def afW:∀l:List Int,cf (l.map aa)=true
 | []=>rfl
 | a::r=>by rw [y8,abl,afW r];rfl
def afX:∀l:List Int,aK (l.map aa)=true
 | []=>rfl
 | a::r=>by rw [y8,aK,afX r];rfl
def ar9 {hp:Hp} {ct:Nat} {e:Bool} {us:List Int} {o:Obj} (h:us.length<=100000000000):
  Ep ((1,.cells true true true 1 [])::(0,o)::hp) ct 1 8 (.ak 1 0 0) (ru ((1,.cells true true true 1 [])::(0,o)::hp) 1 (.aO e us.length (us.map aa)))=some (.ak ct 0 us.length,(ct,.cells true true false 1 (us.map aa))::dL ((1,.cells true true true 1 [])::(0,o)::hp) 1,ct+1):=by
 have h1:ru ((1,.cells true true true 1 [])::(0,o)::hp) 1 (.aO e us.length (us.map aa))=some (us.length,us.map aa):=by
  simp [ru]
 rw [h1,jN (cs:=[]) (pu:=true) (ex:=true) rfl (by simp) (by omega) (by omega) (by decide) (afW us),afX,yd];rfl
def au4 {l:List Int} (hd:dg l) (hn:nz l) (h:0<l.length):1000000000^(l.length-1)<=dv l:=OT hn hd (fun e=>by subst e;simp at h)
def apM {n top f V:Nat} (hf:f=1000000000/(top+1)) (Yj:0<top) (ht:top<1000000000) (h1:V<1000000000^(n-1)*(top+1)) (hn:0<n):0<f/\f<1000000000/\V*f<1000000000^n:=by
 have h2:f*(top+1)<=1000000000:=by rw [hf];exact Nat.div_mul_le_self _ _
 have h3:0<f:=by rw [hf];exact Nat.div_pos (by omega) (by omega)
 refine ⟨h3,?_,?_⟩
 ·have:=yQ f (show 2<=top+1 by omega)
  omega
 ·have e1:=wL h1 h3;have e2:=yQ (1000000000^(n-1)) h2;rw [<-xj,show (n-1).succ=n by omega] at e2
  grind
section
variable {P:aI} {L:Lib}
def au5 (h:Has P L 289 zn) (mh:Has P L 293 Cz) (qB:Has P L 299 CB) (dj:Has P L 300 mI) (rO:Has P L 301 AX) {v w:AV} {a b:List Int} (hv:bq v a) (hw:bq w b) (ha:dg a) (hb:dg b) (na:nz a) (nb:nz b) (la:a.length<=8000000000) (lb:2<=b.length) (ec:af P L 296 [v,w] (aa (eE (dv a) (dv b)))) (hc:dv b<=dv a):
  ∃q r lq lr,af P L 289 [v,w] (.aw [q,r])/\bq q lq/\bq r lr/\dg lq/\nz lq/\dg lr/\nz lr/\dv lq=dv a/dv b/\dv lr=dv a%dv b:=by
 have eR:¬eE (dv a) (dv b)<0:=by unfold eE;rw [yr (by omega)];split<;>decide
 have awz:=au4 hb nb (by omega);have hba:b.length<=a.length:=by
  have:=kD ha
  have h1:1000000000^(b.length-1)<1000000000^a.length:=by omega
  have:=(tB (show 1<1000000000 by decide)).1 h1
  omega
 obtain ⟨n,hn⟩:∃n,n=b.length:=⟨_,rfl⟩;have ayz:=iD hb (n-1);have Cn:=last_pos hb nb (by omega);rw [<-hn] at Cn;obtain ⟨top,oV⟩:∃v:Nat,b.getD (n-1) 0=v:=⟨(b.getD (n-1) 0).toNat,by omega⟩;have aiq:=rE hw (i:=n-1) (by omega);rw [oV] at ayz Cn aiq;have hbt:=pM (l:=b) (n-1);rw [show n-1+1=n by omega,List.take_of_length_le (by omega),oV,wo] at hbt;have awA:=kD (DG hb (n-1));rw [yS,Nat.min_eq_left (by omega)] at awA;obtain ⟨f,hf⟩:∃f,f=1000000000/(top+1):=⟨_,rfl⟩;obtain ⟨Dg,hfB,hfV⟩:=apM (n:=n) (V:=dv b) hf (by omega) (by omega) (by rw [xH,yi];omega) (by omega);have hIf:bq (.aO true 1 [aa f]) [(f:Int)]:=fN true [(f:Int)];have gf:dg [(f:Int)]:=lP.2 (by omega);have vf:dv [(f:Int)]=f:=by simp [dv]
 obtain ⟨v',vs,e1,eZ,hsv,E1,Mo,z6⟩:=Wk mh dj hw hIf hb gf (by omega) (by simp);obtain ⟨u',Dh,e2,jG,EX,HF,nus,MD⟩:=Wk mh dj hv hIf ha gf (by omega) (by simp);rw [vf] at z6 MD;have sn:0<dv b:=by have:=ybK (n:=b.length-1) (show 0<1000000000 by decide);omega
 have Bz:vs.length=n:=by
  have h1:vs.length<=n:=jQ E1 Mo (by rw [z6];exact hfV)
  have h2:dv b<=dv vs:=by rw [z6];exact Nat.le_mul_of_pos_right _ Dg
  have h3:=kD E1;have h4:1000000000^(n-1)<1000000000^vs.length:=by rw [hn];omega
  have:=(tB (show 1<1000000000 by decide)).1 h4
  omega
 have Q9:Dh.length<=a.length+1:=by
  refine jQ HF nus ?_;rw [MD,xj];exact uS (kD ha) hfB
 have air:0<Dh.length:=by
  rcases xu Dh.length with e | e
  ·have h1:0<dv a*f:=yaK (by omega) Dg;rw [yH e] at MD;simp only [dv] at MD;omega
  ·exact e
 have eN:0<vs.getD (n-1) 0:=by
  have:=last_pos E1 Mo (by omega)
  rwa [Bz] at this
 obtain ⟨m,hm⟩:∃m,m=a.length+1-n:=⟨_,rfl⟩;have dc:∀ct:Nat,AZ ct 1 8 [.int .i64 0] (some m) (some m)=some (.ak ct 0 m,.cells true true true 1 ((yz m (0:Int)).map aa)):=fun ct=>by
  rw [Gb (sz:=1) (by omega) (by omega) (by rfl) (by rfl),Sn];rfl
 obtain ⟨e,rfl⟩:∃e,u'= .aO e Dh.length (Dh.map aa):=by
  rcases jG with ⟨rfl,h0⟩ | ⟨e,rfl⟩
  ·rw [List.map_eq_nil_iff] at h0;rw [h0] at air;simp at air
  ·exact ⟨e,by rw [xm]⟩
 have Vb:∀us:List Int,us.length=a.length+1->dv us=dv a*f->dv (us.drop m)<dv vs:=fun us hl hd=>by
  have e1:=Tt us m (by omega);have e2:=kD ha;have e3:=wL e2 Dg;have e4:1000000000^a.length=1000000000^m*1000000000^(n-1):=by rw [<-Nat.pow_add];congr 1;omega
  rw [<-hd,e4,xn] at e3;have e5:1000000000^m*dv (us.drop m)<1000000000^m*(1000000000^(n-1)*f):=by omega
  refine yL (Nat.lt_of_mul_lt_mul_left e5) ?_;rw [z6,hn];exact Nat.mul_le_mul_right _ awz
 have jz:∃us qs,(us.length=a.length+1/\qs.length=m/\dg us/\dg qs/\dv us+dv qs*dv vs=dv a*f/\dv us<dv vs)/\
   ∃q1 r1 lr,bq q1 (eH qs)/\bq r1 lr/\dg lr/\nz lr/\dv lr=dv (us.take n)/f/\af P L 289 [v,w] (.aw [q1,r1]):=by
  unfold af at ec e1 e2;unfold af;rw [aq h];have Lf:IntKind.wrap .i64 ((1000000000:Int).tdiv ((top+1:Nat):Int))=(f:Int):=by
   rw [xE (by decide),show (1000000000:Int)/((top+1:Nat):Int)=((1000000000/(top+1):Nat):Int) from rfl,<-hf,wrap64 (by omega) (by omega)]
  simp only [go_sem,ya,yb,yt,ye,yi,zn,hv.ah,hw.len,hw.ah,ec,eR,show ¬(n:Int)=1 by omega,<-hn,show (n:Int)-1=((n-1:Nat):Int) by omega,wrapN (n:=n-1) (by omega),aiq,show ((top:Nat):Int)+1=((top+1:Nat):Int) from rfl,wrapN (n:=top+1) (by omega),eU _ _ _ (show ((top+1:Nat):Int)≠0 by omega),Lf,e1,hsv,eZ.len,Bz,e2,EX,ar9 (us:=Dh) (e:=e) (by omega)];generalize Bs:D P L (.loop [0,8,9,10,11] J8) _=q0;obtain ⟨ex,st,rfl,tm,us,rfl,rfl,t8,t9,t10,t11,lu,gu,vu⟩:=bV Bs (ar8 (P:=P) (L:=L) (f:=(f:Int)) (n:=n) (A:=dv a*f) hv eZ (by omega) (a.length+1-Dh.length)) ⟨Dh,by
   simp only [go_sem,ya,yb,av,az hv.pu,aE _ hv.pu,az eZ.pu,aE _ eZ.pu]<;>rfl,by omega,HF,MD⟩
  have em:((a.length+1:Nat):Int)-(n:Int)=(m:Int):=by omega
  have em1:(m:Int)-1=((m-1:Nat):Int):=by omega
  simp only [go_sem,ya,yb,av,az eZ.pu,aE _ eZ.pu,t8,t9,t10,t11,em,wrapN (n:=m) (by omega),dc,em1,wrapN (n:=m-1) (by omega)];generalize fa:D P L (.loop [8,9,10,11,12,13] Ka) _=q1;obtain ⟨ex,st,rfl,oZ,Di,qs,rfl,rfl,t8,t10,t11,t12,lu1,Mu,gu1,gq1,aR,bm⟩:=bV fa (ar7 (P:=P) (L:=L) rO (f:=(f:Int)) eZ E1 Bz (by omega) (show n<a.length+1 by omega) (by omega) (by omega) eN (U0:=dv a*f) m) ⟨m,us,yz m 0,by
   rw [show ((m-1:Nat):Int)=(m:Int)-1 by omega]
   simp only [go_sem,ya,yb,av,az eZ.pu,aE _ eZ.pu]<;>rfl,rfl,yB _,lu,by simp,gu,aci m,fun i _=>aaI m i,by rw [ach,Nat.zero_mul,yZ,vu],Vb us lu vu⟩
  have mK:∀(hp:Hp) tm (y:X),ap hp 1=some (.cells true true false 1 (Di.map aa))->de tm (a.length+1) (some y)=some n->fT hp (.sl 1) (.ak 1 0 (a.length+1)) tm none (some y)=some (.ak 1 0 n):=fun hp tm y h1 h2=>acs h1 h2 (by omega) (by omega)
  obtain ⟨e',Mr⟩:∃e',∀hp:Hp,mJ 0 n (some (false,1,Di.map aa,hp))=some (.aO e' n ((Di.take n).map aa),hp):=by
   refine ⟨false&&Nat.blt 0 1&&Nat.beq n (Di.map aa).length,fun hp=>?_⟩;simp only [mJ,yd,yi,slice,yj,<-List.map_take];rw [Nat.ble_eq_true_of_le (by simp;omega)];rfl
  have ltk:(Di.take n).length=n:=by rw [yS];omega
  have ig:=fN e' (Di.take n);rw [ltk] at ig;obtain ⟨r0,f1,pn,ayA⟩:=CF dj ig (by omega);obtain ⟨r1,lr,f2,bS,aCw,awB,dr,nr,vr⟩:=aie qB dj pn (BT (DG gu1 n)) (by have:=Nq (Di.take n);omega) Dg hfB;have Mq:=fN true qs;rw [Mu] at Mq;obtain ⟨q1,f3,fa,ayB⟩:=CF dj Mq (by omega);rw [Af] at vr;unfold af at f1 f2 f3;refine ⟨Di,qs,⟨lu1,Mu,gu1,gq1,aR,bm⟩,q1,r1,lr,fa,bS,dr,nr,vr,?_⟩;have py:iF 1 0 (AV.ak 0 0 1)=some (.ptr 0 0):=dH 0 0 (show 0<1 by omega)
  simp only [go_sem,ya,yb,av,t8,t10,t11,t12,mK,eh,Mr,f1,ayA,pn.ah,py,f2,awB,fun hp=>my (hp:=hp) (k:=m) (sz:=1) (cs:=qs.map aa) true (by simp [Mu]) (by decide),f3,ayB];rcases fa with ⟨rfl,_⟩ | ⟨_,rfl⟩<;>rcases bS with ⟨rfl,_⟩ | ⟨_,rfl⟩<;>rfl
 obtain ⟨us,qs,⟨lu,lq,gu,gq,aR,bm⟩,q1,r1,lr,fa,bS,dr,nr,vr,e⟩:=jz;rw [z6] at aR bm;have Lf:dv qs=dv a/dv b:=by
  rw [<-Nat.mul_div_mul_right _ _ Dg,<-aR,yaY,xQ,Nat.mul_add_div (yaK sn Dg),wR bm,yZ]
 have Re:dv us=(dv a%dv b)*f:=by
  rw [<-Nat.mul_mod_mul_right,<-aR,yaY,xQ (dv qs),Nat.mul_add_mod,yP bm]
 have lf:=Tt us n (by omega);have gN:dv (us.drop n)=0:=by
  rcases xu (dv (us.drop n)) with h0 | h0
  ·exact h0
  ·have:=yQ (1000000000^n) h0
   omega
 rw [gN,xO,yZ] at lf;rw [<-lf,Re,Nat.mul_div_cancel _ Dg] at vr;exact ⟨q1,r1,_,lr,e,fa,bS,BT gq,FJ _,dr,nr,by rw [Af,Lf],vr⟩
def aha (h:Has P L 289 zn) (mh:Has P L 293 Cz) (oX:Has P L 296 zo) (qB:Has P L 299 CB) (dj:Has P L 300 mI) (rO:Has P L 301 AX) {v w:AV} {a b:List Int} (hv:bq v a) (hw:bq w b) (ha:dg a) (hb:dg b) (na:nz a) (nb:nz b) (la:a.length<=8000000000) (lb:b.length<=8000000000) (h0:0<dv b):
  ∃q r lq lr,af P L 289 [v,w] (.aw [q,r])/\bq q lq/\bq r lr/\dg lq/\nz lq/\dg lr/\nz lr/\dv lq=dv a/dv b/\dv lr=dv a%dv b:=by
 by_cases hl:b.length<=1
 ·exact ayl h oX qB dj hv hw ha hb na nb (by omega) hl h0
 have ec:=Wj oX hv hw ha hb na nb (by omega) (by omega);by_cases hc:dv a<dv b
 ·unfold af at ec;have eR:eE (dv a) (dv b)= -1:=by unfold eE;rw [yF hc]
  rw [eR] at ec;refine ⟨.ae,v,[],a,?_,rk,hv,rfl,rfl,ha,na,?_,?_⟩
  ·unfold af;rw [aq h];simp only [go_sem,ya,zn,hv.ah,hw.ah,ec,show (-1:Int)<0 by decide];rcases hv with ⟨rfl,_⟩ | ⟨e,rfl⟩<;>rfl
  ·rw [wR hc];rfl
  ·rw [yP hc]
 ·exact au5 h mh qB dj rO hv hw ha hb na nb la (by omega) ec (by omega)
def ahb (h:Has P L 275 PL) (Lq:Has P L 289 zn) (mh:Has P L 293 Cz) (oX:Has P L 296 zo) (qB:Has P L 299 CB) (dj:Has P L 300 mI) (rO:Has P L 301 AX) {v w:AV} {a b:List Int} (hv:bq v a) (hw:bq w b) (ha:dg a) (hb:dg b) (na:nz a) (nb:nz b) (la:a.length<=8000000000) (lb:b.length<=8000000000):
  ∃r l,af P L 275 [v,w] r/\bq r l/\dg l/\nz l/\dv l=wj (dv a) (dv b):=by
 have key:=cg (P:=P) (L:=L) (live:=[0,1]) (a:=J6)
  (I:=fun k st=>∃x y lx ly,st=⟨[(0,x),(1,y)],[],0,0⟩/\bq x lx/\bq y ly/\dg lx/\nz lx/\dg ly/\nz ly/\lx.length<=8000000000/\ly.length<=8000000000/\dv ly=k/\wj (dv lx) (dv ly)=wj (dv a) (dv b))
  (Q:=fun ex st=>∃tm ct,st=⟨tm,[],ct,0⟩/\ex= .exit 0/\∃x lx,ab tm 0=x/\bq x lx/\dg lx/\nz lx/\dv lx=wj (dv a) (dv b)) ?_
 ·unfold af;rw [aq h];simp only [go_sem,PL];generalize hq:D P L (.loop [0,1] J6) _=q;obtain ⟨ex,st,rfl,tm,ct,rfl,rfl,x,lx,h2,hx,dx,nx,vx⟩:=bV hq (key (dv b)) ⟨v,w,a,b,by simp only [go_sem,ya,av,az hv.pu,aE _ hv.pu,az hw.pu,aE _ hw.pu]<;>rfl,hv,hw,ha,na,hb,nb,la,lb,rfl,rfl⟩
  refine ⟨x,lx,?_,hx,dx,nx,vx⟩;simp only [go_sem,av,h2,hx.dM,az hx.pu,aE _ hx.pu]
 ·rintro k st ⟨x,y,lx,ly,rfl,hx,hy,dx,nx,dy,ny,llx,lly,rfl,hg⟩;by_cases h0:ly=[]
  ·right
   subst h0;simp only [go_sem,ya,J6,hy.len,yG,show ¬(0:Int)<((0:Nat):Int) by omega];refine ⟨_,_,rfl,by simp,_,_,rfl,rfl,x,lx,by simp only [go_sem,ya],hx,dx,nx,?_⟩;rw [<-hg];simp [dv]
  ·left
   have hp:0<dv ly:=by
    rcases xu (dv ly) with e | e
    ·exact absurd (adV ny dy e) h0
    ·exact e
   have hl:0<ly.length:=uM.2 h0;obtain ⟨q,r,lq,lr,e1,hq,hr,dq,nq,dr,nr,vq,vr⟩:=aha Lq mh oX qB dj rO hx hy dx dy nx ny llx lly hp;have bm:dv lr<dv ly:=by rw [vr];exact Nat.mod_lt _ hp
   have hB:=kD dy;simp only [go_sem,ya,J6,hx.ah,hy.len,hy.ah,show (0:Int)<ly.length by omega,e1,hq.bN,hr.bN];refine ⟨_,dv lr,rfl,bm,y,r,ly,lr,?_,hy,hr,dy,ny,dr,nr,by omega,xp (jQ dr nr (Nat.lt_trans bm hB)) lly,rfl,?_⟩
   ·simp only [go_sem,ya,av,az hy.pu,aE _ hy.pu,az hr.pu,aE _ hr.pu]<;>rfl
   ·rw [<-hg,vr,uE (dv ly),<-Nat.gcd_rec,uE]
end
end
section
open Go (IntKind)
section
variable {P:aI} {L:Lib}
def au6 (A1:Has P L 290 GN) {neg:Bool} {N:Nat} (hN:(an N).length<=180000000000):
  ∀k s,(∃(i m:Nat) (out:List Int),m=k/\out.length=i/\dg out/\dv out+1000000000^i*m=N/\(an m).length+9*i<=180000000000/\
    ((i=0/\bA [0,2,3,4] s=⟨[(0,.str (an m)),(2,.ptr 0 0),(3,.bool neg),(4,.ae)],[(0,.cells true true true 2 [.bool false,.ae])],1,0⟩)\/
    (0<i/\bA [0,2,3,4] s=⟨[(0,.str (an m)),(2,.ptr 0 0),(3,.bool neg),(4,.ak 1 0 i)],[(1,.cells true true false 1 (out.map aa)),(0,.cells true true true 2 [.bool false,.ae])],2,0⟩)))->
   ∃ex s',D P L (.loop [0,2,3,4] Az) s=some (ex,s')/\∃tm i m out,ex= .exit 0/\m<1000000000/\out.length=i/\dg out/\dv out+1000000000^i*m=N/\i<20000000000/\ab tm 0= .str (an m)/\ab tm 2= .ptr 0 0/\ab tm 3= .bool neg/\
    ((i=0/\ab tm 4= .ae/\s'=⟨tm,[(0,.cells true true true 2 [.bool false,.ae])],1,0⟩)\/(0<i/\ab tm 4= .ak 1 0 i/\s'=⟨tm,[(1,.cells true true false 1 (out.map aa)),(0,.cells true true true 2 [.bool false,.ae])],2,0⟩)):=by
 refine cg (I:=fun k s=>∃(i m:Nat) (out:List Int),m=k/\out.length=i/\dg out/\dv out+1000000000^i*m=N/\(an m).length+9*i<=180000000000/\
    ((i=0/\s=⟨[(0,.str (an m)),(2,.ptr 0 0),(3,.bool neg),(4,.ae)],[(0,.cells true true true 2 [.bool false,.ae])],1,0⟩)\/
    (0<i/\s=⟨[(0,.str (an m)),(2,.ptr 0 0),(3,.bool neg),(4,.ak 1 0 i)],[(1,.cells true true false 1 (out.map aa)),(0,.cells true true true 2 [.bool false,.ae])],2,0⟩)))
  (Q:=fun ex s'=>∃tm i m out,ex= .exit 0/\m<1000000000/\out.length=i/\dg out/\dv out+1000000000^i*m=N/\i<20000000000/\ab tm 0= .str (an m)/\ab tm 2= .ptr 0 0/\ab tm 3= .bool neg/\
    ((i=0/\ab tm 4= .ae/\s'=⟨tm,[(0,.cells true true true 2 [.bool false,.ae])],1,0⟩)\/(0<i/\ab tm 4= .ak 1 0 i/\s'=⟨tm,[(1,.cells true true false 1 (out.map aa)),(0,.cells true true true 2 [.bool false,.ae])],2,0⟩))) ?_
 rintro k s ⟨i,m,out,rfl,hlen,hd,aR,hl,hs⟩;by_cases hm:1000000000<=m
 ·left
  obtain ⟨q,hq⟩:∃q,q=m/1000000000:=⟨_,rfl⟩;obtain ⟨r,hr⟩:∃r,r=m%1000000000:=⟨_,rfl⟩;have mK:=apt hm;rw [<-hq,<-hr] at mK;have qK:=Tj 9 r;have hqp:=rn q;have hlm:(an m).length=(an q).length+9:=by rw [mK,yO,qK]
  have c1:iK (an m) (some (an q).length) (some (an m).length)=some (.str (iX 9 r)):=by
   rw [mz (by omega) (yB _),xW,mK,tW]
  have c2:iK (an m) (some 0) (some (an q).length)=some (.str (an q)):=by
   rw [mz (by omega) (by omega),yj,mK,ybb]
  have e1:=K9 A1 (s:=iX 9 r) (v:=r) (by omega) (by rw [acp 9 r 0 (by omega)];simp)
  unfold af at e1;have rN:dg (out++[(r:Int)]):=ik.2 ⟨hd,lP.2 (by omega)⟩;have O4:dv (out++[(r:Int)])+1000000000^(i+1)*q=N:=by
   rw [mX,hlen,<-aR,xj];have e:=yba m 1000000000;rw [<-hr,<-hq] at e;rw [<-e];simp only [dv,wo,xO,yZ,xH,xn];omega
  have Pk:((an m).length:Int)-9=((an q).length:Int):=by omega
  rcases hs with ⟨h0,rfl⟩ | ⟨h0,rfl⟩
  ·subst h0;have jA:out=[]:=yH hlen;subst jA
   simp only [go_sem,ya,yb,xK,yt,ye,yi,Az,show (9:Int)<((an m).length:Int) by omega,Pk,wrapN (n:=(an q).length) (by omega),fg,fw,eh,c1,c2,e1,ki];refine ⟨_,q,rfl,by omega,1,q,[]++[(r:Int)],rfl,rfl,rN,O4,by omega,.inr ⟨by omega,?_⟩⟩;rfl
  ·simp only [go_sem,ya,yb,ye,yi,Az,show (9:Int)<((an m).length:Int) by omega,Pk,wrapN (n:=(an q).length) (by omega),fg,fw,eh,c1,e1]
   rw [jN (ex:=false) (pu:=true) (cs:=out.map aa) (by simp only [go_sem,ya]) (by rw [xm,hlen,yi]) (by omega) (by omega) (by decide) (by simp only [go_sem])]
   simp only [go_sem,ya,yb,fg,fw,eh,Pk,wrapN (n:=(an q).length) (by omega),c2];refine ⟨_,q,rfl,by omega,i+1,q,out++[(r:Int)],rfl,by simp [hlen],rN,O4,by omega,.inr ⟨by omega,?_⟩⟩;rw [xt];simp only [go_sem,ya,yb,av]<;>rfl
 ·right
  have h9:(an m).length<=9:=sO (k:=8) (by omega);have hp0:=rn m;rcases hs with ⟨h0,rfl⟩ | ⟨h0,rfl⟩
  ·simp only [go_sem,Az,show ¬(9:Int)<((an m).length:Int) by omega];exact ⟨_,_,rfl,by simp,_,i,m,out,rfl,by omega,hlen,hd,aR,by omega,by simp only [go_sem,ya],by simp only [go_sem,ya],by simp only [go_sem,ya],.inl ⟨h0,by simp only [go_sem,ya],rfl⟩⟩
  ·simp only [go_sem,Az,show ¬(9:Int)<((an m).length:Int) by omega];exact ⟨_,_,rfl,by simp,_,i,m,out,rfl,by omega,hlen,hd,aR,by omega,by simp only [go_sem,ya],by simp only [go_sem,ya],by simp only [go_sem,ya],.inr ⟨h0,by simp only [go_sem,ya],rfl⟩⟩
end
end
section
open Go (IntKind)
section
variable {P:aI} {L:Lib}
def ais (h:Rb P L) {n:Int} (hn:(an n.natAbs).length<=180000000000):∃r,af P L 288 [.str (aW n)] r/\kN r n:=by
 obtain ⟨u,hu⟩:∃u,u=an n.natAbs:=⟨_,rfl⟩;obtain ⟨b,t,hb,jY,hb2⟩:=Fx n.natAbs;have hs:aW n=(if n<0 then [45] else [])++u:=by rw [hu,nO]
 have C6:0<u.length:=by rw [hu];exact rn _
 have se:u[0]=b:=by
  have:u=b::t:=by rw [hu,hb]
  simp [this]
 have key:∀(s:St),bA [0,2,3,4] s=⟨[(0,.str u),(2,.ptr 0 0),(3,.bool (decide (n<0))),(4,.ae)],[(0,.cells true true true 2 [.bool false,.ae])],1,0⟩->
   ∃ex s',D P L (.loop [0,2,3,4] Az) s=some (ex,s')/\∃tm i m out,ex= .exit 0/\m<1000000000/\out.length=i/\dg out/\dv out+1000000000^i*m=n.natAbs/\i<20000000000/\ab tm 0= .str (an m)/\ab tm 2= .ptr 0 0/\ab tm 3= .bool (decide (n<0))/\
    ((i=0/\ab tm 4= .ae/\s'=⟨tm,[(0,.cells true true true 2 [.bool false,.ae])],1,0⟩)\/(0<i/\ab tm 4= .ak 1 0 i/\s'=⟨tm,[(1,.cells true true false 1 (out.map aa)),(0,.cells true true true 2 [.bool false,.ae])],2,0⟩)):=fun s hc=>
  au6 (P:=P) (L:=L) h.A1 (neg:=decide (n<0)) hn n.natAbs s ⟨0,n.natAbs,[],rfl,rfl,rfl,by simp [dv],by omega,.inl ⟨rfl,by rw [hc,hu]⟩⟩
 have fin:∀(i m:Nat) (out:List Int),m<1000000000->out.length=i->dg out->dv out+1000000000^i*m=n.natAbs->i<20000000000->∃w l,bY P L (D P L) 294 [.bool (decide (n<0)),.aO false (i+1) ((out++[(m:Int)]).map aa)]=some (.agg [.bool (decide (n<0)),w])/\bq w l/\dg l/\nz l/\dv l=n.natAbs:=fun i m out h1 h2 h3 h4 h5=>by
  have hv:=fN false (out++[(m:Int)]);have hd:dg (out++[(m:Int)]):=ik.2 ⟨h3,lP.2 (by omega)⟩;have aR:dv (out++[(m:Int)])=n.natAbs:=by rw [mX,h2];simp [dv];exact h4
  obtain ⟨r,e,hr⟩:=rM h.iY h.dj (decide (n<0)) hv hd (by simp;omega);have HI:cL (decide (n<0)) (dv (out++[(m:Int)]))=n:=by
   rw [aR];unfold cL;by_cases h0:n<0
   ·simp only [h0,yq,yV];omega
   ·simp only [h0,yp,yA,yN];omega
  rw [HI] at hr;obtain ⟨w,l,rfl,hw,et,jh,di⟩:=hr;simp only [yO,List.length_singleton,h2] at e;exact ⟨w,l,e,hw,et,jh,di⟩
 unfold af;rw [hs];by_cases h0:n<0
 ·rw [yF h0,aq h.aim];have mq:iK (45::u) (some 1) (some (u.length+1))=some (.str u):=by rw [mz (s:=45::u) (l:=1) (h:=u.length+1) (by omega) (by simp)];simp
  simp only [h0,yq] at key fin ⊢;simp only [go_sem,ya,yb,PQ,aG,show (0:Int)<((u.length+1:Nat):Int) by omega,yW,xN,Es,yq,fg,fw,eh,mq];generalize hq:D P L (.loop [0,2,3,4] Az) _=q;obtain ⟨ex,s,rfl,tm,i,m,out,rfl,hm,hlen,hd,aR,hi,t0,t2,t3,Ea⟩:=bV hq key (by simp only [go_sem,ya,yb,av]<;>rfl)
  have e1:=K9 h.A1 (s:=an m) (v:=m) (by have:=sO (k:=8) (n:=m) (by omega);omega) (sN m);have cu:i<20000000000:=hi;obtain ⟨w,l,e2,hw,et,jh,di⟩:=fin i m out hm hlen hd aR cu;refine ⟨_,?_,w,l,rfl,hw,et,jh,di⟩;unfold af at e1;rcases Ea with ⟨sA,t4,rfl⟩ | ⟨sA,t4,rfl⟩
  ·subst sA;have jA:out=[]:=yH hlen;subst jA;have ig:∀hp:Hp,mJ 0 1 (some (false,1,[AV.int .i64 (m:Int)],hp))=some (.aO false 1 [AV.int .i64 (m:Int)],hp):=fun hp=>rfl
   simp only [xN,y8,wq,yd] at e2;simp only [go_sem,ya,yb,xK,yt,ye,yi,av,t0,t2,t3,t4,e1,ki,ig,e2,bB,hw.pu,hw.one,fB];rcases hw with ⟨rfl,_⟩ | ⟨e,rfl⟩<;>simp only [h0,yq]<;>rfl
  ·simp only [go_sem,ya,yb,ye,yi,av,t0,t2,t3,t4,e1]
   rw [jN (ex:=false) (pu:=true) (cs:=out.map aa) (by simp only [go_sem,ya]) (by rw [xm,hlen,yi]) (by omega) (by omega) (by decide) (by simp only [go_sem])];have ig:∀hp:Hp,mJ 0 (i+1) (some (false,1,out.map aa++[AV.int .i64 (m:Int)],hp))=some (.aO false (i+1) (out.map aa++[AV.int .i64 (m:Int)]),hp):=fun hp=>my false (by simp [hlen]) (by decide)
   simp only [xt,y8,wq] at e2;simp only [go_sem,ya,yb,ig,e2,bB,hw.pu,hw.one,fB,uD];rcases hw with ⟨rfl,_⟩ | ⟨e,rfl⟩<;>simp only [h0,yq]<;>rfl
 ·rw [yr h0,aq h.aim,xN];simp only [h0,yp] at key fin ⊢;simp only [go_sem,ya,yb,PQ,aG,show (0:Int)<(u.length:Int) by omega,rA C6,se,show ¬((b:Nat):Int)=45 by omega];generalize hq:D P L (.loop [0,2,3,4] Az) _=q;obtain ⟨ex,s,rfl,tm,i,m,out,rfl,hm,hlen,hd,aR,hi,t0,t2,t3,Ea⟩:=bV hq key (by simp only [go_sem,ya,yb,av]<;>rfl)
  have e1:=K9 h.A1 (s:=an m) (v:=m) (by have:=sO (k:=8) (n:=m) (by omega);omega) (sN m);have cu:i<20000000000:=hi;obtain ⟨w,l,e2,hw,et,jh,di⟩:=fin i m out hm hlen hd aR cu;refine ⟨_,?_,w,l,rfl,hw,et,jh,di⟩;rcases Ea with ⟨sA,t4,rfl⟩ | ⟨sA,t4,rfl⟩
  ·subst sA;have jA:out=[]:=yH hlen;subst jA;have ig:∀hp:Hp,mJ 0 1 (some (false,1,[AV.int .i64 (m:Int)],hp))=some (.aO false 1 [AV.int .i64 (m:Int)],hp):=fun hp=>rfl
   simp only [xN,y8,wq,yd] at e2;simp only [go_sem,ya,yb,xK,yt,ye,yi,av,t0,t2,t3,t4,e1,ki,ig,e2,bB,hw.pu,hw.one,fB];rcases hw with ⟨rfl,_⟩ | ⟨e,rfl⟩<;>simp only [h0,yp]<;>rfl
  ·simp only [go_sem,ya,yb,ye,yi,av,t0,t2,t3,t4,e1]
   rw [jN (ex:=false) (pu:=true) (cs:=out.map aa) (by simp only [go_sem,ya]) (by rw [xm,hlen,yi]) (by omega) (by omega) (by decide) (by simp only [go_sem])];have ig:∀hp:Hp,mJ 0 (i+1) (some (false,1,out.map aa++[AV.int .i64 (m:Int)],hp))=some (.aO false (i+1) (out.map aa++[AV.int .i64 (m:Int)]),hp):=fun hp=>my false (by simp [hlen]) (by decide)
   simp only [xt,y8,wq] at e2;simp only [go_sem,ya,yb,ig,e2,bB,hw.pu,hw.one,fB,uD];rcases hw with ⟨rfl,_⟩ | ⟨e,rfl⟩<;>simp only [h0,yp]<;>rfl
end
end
section
open Go (IntKind)
def I9 (n:Int) (r:List Nat):cr (aW n++r)=(aW n).length+cr r:=by
 rw [<-nO]
 split
 ·simp only [yW,xN,cr,yy];rw [yr (by decide),I8 r (Ac _)];omega
 ·rw [xN];exact I8 r (Ac _)
def Tu:∀{a b:List Nat},cN a b=true->a=b
 | [],[],_=>rfl
 | [],_::_,h=>by simp [cN] at h
 | _::_,[],h=>by simp [cN] at h
 | x::a,y::b,h=>by
  simp only [cN,Bool.and_eq_true] at h;rw [Nat.eq_of_beq_eq_true h.1,Tu h.2]
def ahc {n:Int} {d:Nat} (h:n≠0):cN (TT n d) [48]=false:=by
 cases hb:cN (TT n d) [48] with
 | false=>rfl
 | true=>
  have e:=Tu hb;unfold TT at e;by_cases h0:n<0
  ·rw [kS h0] at e;simp at e
  ·obtain ⟨m,rfl⟩:∃m:Nat,n=m:=⟨n.toNat,by omega⟩;rw [lJ] at e;obtain ⟨b,r,dl,_,_⟩:=Fx m;rw [dl] at e;simp only [yW,tS,List.append_eq_nil_iff] at e;have hv:=sN m;rw [dl,e.1,e.2.1] at hv
   have:(some 0:Option Nat)=some m:=hv
   grind
section
variable {P:aI} {L:Lib}
def au7 (h:Rb P L):∃r,af P L 281 [aa 1] r/\kN r 1:=by
 obtain ⟨r,e,hr⟩:=rM h.iY h.dj false (fN false [(1:Int)]) (by decide) (by decide);obtain ⟨w,l,rfl,hw,hd,hz,hv⟩:=hr;refine ⟨_,?_,w,l,rfl,hw,hd,hz,hv⟩;simp only [y8,wq,yy,yG,yd] at e;have ig:∀hp:Hp,mJ 0 1 (some (false,1,[AV.int .i64 1],hp))=some (.aO false 1 [AV.int .i64 1],hp):=fun hp=>rfl
 unfold af at e ⊢;rw [aq h.ail];simp only [go_sem,ya,yb,xK,yt,ye,yi,PN,aG,Int.reduceLT,yp,Ot,av,sT,Int.reduceEq,yI,yM,yq,dK _ _ _ (show (1000000000:Int)≠0 by decide),eU _ _ _ (show (1000000000:Int)≠0 by decide),show Int.tmod 1 1000000000=1 from rfl,show Int.tdiv 1 1000000000=0 from rfl,show IntKind.wrap .i64 0=0 from rfl,ki,ig,e,hw.pu,hw.one,bB,fB];rcases hw with ⟨rfl,_⟩ | ⟨e,rfl⟩<;>rfl
def ait (h:Rb P L) {n:Int} {d:Nat} (hn:(an n.natAbs).length<=144000000000) (hd:(an d).length<=144000000000):
  ∃x y,af P L 274 [.str (TT n d)] (.aw [x,y])/\kN x n/\kN y d:=by
 obtain ⟨x,e1,hx⟩:=ais h (n:=n) (by omega);have hli:(aW n).length<=(an n.natAbs).length+1:=by rw [<-nO];split<;>simp
 by_cases h1:d=1
 ·subst h1;obtain ⟨y,e2,hy⟩:=au7 h;have hT:TT n 1=aW n:=by unfold TT;simp
  have hs:=I9 n [];rw [List.append_nil] at hs;have e3:=GV h.CE (s:=aW n) (by omega);rw [hs] at e3;refine ⟨x,y,?_,hx,hy⟩;obtain ⟨xw,xl,rfl,fb,_,_,_⟩:=hx;obtain ⟨yw,yl,rfl,fc,_,_,_⟩:=hy;rw [hT];unfold af at e1 e2 e3 ⊢;rw [aq h.aij];simp only [go_sem,ya,yb,PK,aG,e3,cr,yZ,yq,e1,e2,bB,fb.pu,fb.one,fc.pu,fc.one,fB];rcases fb with ⟨rfl,_⟩ | ⟨e,rfl⟩<;>rcases fc with ⟨rfl,_⟩ | ⟨e',rfl⟩<;>rfl
 ·obtain ⟨y,e2,hy⟩:=ais h (n:=(d:Int)) (by simp;omega);rw [lJ] at e2;obtain ⟨s,Mt⟩:∃s,s=TT n d:=⟨_,rfl⟩;have hT:s=aW n++47::an d:=by rw [Mt];unfold TT;rw [yr h1]
  have hs:cr s=(aW n).length:=by rw [hT,I9];rfl
  have hlen:s.length=(aW n).length+(an d).length+1:=by rw [hT];simp;omega
  have e3:=GV h.CE (s:=s) (by omega);rw [hs] at e3;have c1:iK s (some 0) (some (aW n).length)=some (.str (aW n)):=by
   rw [mz (by omega) (by omega),yj,hT,ybb]
  have c2:iK s (some ((aW n).length+1)) (some s.length)=some (.str (an d)):=by
   rw [mz (by omega) (yB _),xW,hT,show aW n++47::an d=(aW n++[47])++an d by simp,show (aW n).length+1=(aW n++[47]).length by simp,tW]
  refine ⟨x,y,?_,hx,hy⟩;obtain ⟨xw,xl,rfl,fb,_,_,_⟩:=hx;obtain ⟨yw,yl,rfl,fc,_,_,_⟩:=hy;rw [<-Mt];unfold af at e1 e2 e3 ⊢;rw [aq h.aij]
  simp only [go_sem,ya,yb,PK,aG,e3,show ¬((aW n).length:Int)=(s.length:Int) by omega,fg,fw,eh,c1,wrapN (n:=(aW n).length+1) (by omega),show ((aW n).length:Int)+1=(((aW n).length+1:Nat):Int) from rfl,c2,e1,e2,bB,fb.pu,fb.one,fc.pu,fc.one,fB];rcases fb with ⟨rfl,_⟩ | ⟨e,rfl⟩<;>rcases fc with ⟨rfl,_⟩ | ⟨e',rfl⟩<;>rfl
end
end
section
open Go (IntKind)
def Oz {n:Int} {d:Nat} (h:n<0):TT n d=45::TT (-n) d:=by
 have e:aW (-n)=an n.natAbs:=by
  rw [<-nO,yr (show ¬-n<0 by omega),xN,show (-n).natAbs=n.natAbs by omega]
 unfold TT;rw [kS h,e];rfl
def asa {n:Int} {d:Nat} (h:¬n<0):∃b u,TT n d=b::u/\48<=b:=by
 obtain ⟨b,r,hb,h1,_⟩:=Fx n.natAbs;refine ⟨b,r++(if d=1 then [] else 47::an d),?_,h1⟩;unfold TT;rw [<-nO,yr h,xN,hb];rfl
def asb (n:Int) (d:Nat):(TT n d).length<=(an n.natAbs).length+(an d).length+2:=by
 unfold TT;rw [<-nO,yO,yO];have h1:(if n<0 then [45] else ([]:List Nat)).length<=1:=by split<;>simp
 have h2:(if d=1 then ([]:List Nat) else 47::an d).length<=(an d).length+1:=by split<;>simp
 omega
def fy (a b:AV) (r:List AV):eY 2 true (a::b::r)=some (.agg [a,b]):=rfl
def asc (k:Nat):2^k<=1000000000^k:=Nat.pow_le_pow_left (by decide) k
def Bd.r {k:Nat} {z:Int} (h:Bd k z):z.natAbs<1000000000^k:=yL h (asc k)
def KA (r:Rat):RT r=TT r.num r.den:=rfl
def Ub {n d:Int} (hd:0<d):RT (xX n d)=jT n d:=by
 obtain ⟨h1,h2⟩:=I4 (a:=n) hd;rw [arQ hd,KA,h1]
 congr 1
 exact Int.ofNat.inj (show ((xX n d).den:Int)=((bT n d).toNat:Int) by rw [h2];have:=BX (a:=n) hd;unfold bT at this ⊢;omega)
structure Rm (P:aI) (L:Lib):Prop extends Rb P L where
 ayC:Has P L 263 dU
 Wq:Has P L 273 En
 ayD:Has P L 284 VI
 ayE:Has P L 285 PO
 ayF:Has P L 286 PP
 Ls:Has P L 287 KV
 rO:Has P L 301 AX
structure Rp (P:aI) (L:Lib):Prop extends Ras P L,Rm P L
structure Rn (P:aI) (L:Lib):Prop extends Ra P L,Rp P L
section
variable {P:aI} {L:Lib}
def ahd (h:Rm P L) {v w:AV} {a b:List Int} (hv:bq v a) (hw:bq w b) (ha:dg a) (hb:dg b) (na:nz a) (nb:nz b) (la:a.length<=8000000000) (lb:b.length<=8000000000) (h0:0<dv b):
  ∃q r lq lr,af P L 289 [v,w] (.aw [q,r])/\bq q lq/\bq r lr/\dg lq/\nz lq/\dg lr/\nz lr/\dv lq=dv a/dv b/\dv lr=dv a%dv b:=
 aha h.Lq h.mh h.oX h.qB h.dj h.rO hv hw ha hb na nb la lb h0
def au8 (h:Rm P L) {x y:AV} {a b:List Int} {n d:Int} {K:Nat} (hK:K<=8000000000) (hx:bq x a) (ha:dg a) (na:nz a) (va:dv a=n.natAbs) (hy:bq y b) (hb:dg b) (nb:nz b) (vb:dv b=d.natAbs) (kn:Bd K n) (kd:Bd K d) (hd:0<d) {tm:Env} (t2:ab tm 2= .ptr 0 0) (t3:ab tm 3= .ptr 1 0):
  ia [.t 4] (D P L (aD (aD oR.body)) ⟨tm,[(1,.cells true true true 2 [.bool (decide (d<0)),y]),(0,.cells true true true 2 [.bool (decide (n<0)),x])],2,0⟩)=some (.str (RT (xX n d))):=by
 rw [Ub hd];have la:=xp (jQ ha na (by rw [va];exact kn.r)) hK
 have lb:=xp (jQ hb nb (by rw [vb];exact kd.r)) hK
 obtain ⟨g,lg,e1,hg,Yo,ng,vg⟩:=ahb h.aik h.Lq h.mh h.oX h.qB h.dj h.rO hx hy ha hb na nb la lb;rw [va,vb,show wj n.natAbs d.natAbs=wc n d from rfl] at vg;have LR:=FM (a:=n) hd;have ayG:wc n d<=d.natAbs:=Int.gcd_le_natAbs_right n (by omega);have lg1:lg.length<=8000000000:=xp (jQ Yo ng (by rw [vg];exact Nat.lt_of_le_of_lt ayG kd.r)) hK
 obtain ⟨p,p',lp,lp',e2,hp,ao,dp,np,dp',np',vp,vp'⟩:=ahd h hx hg ha Yo na ng la lg1 (by omega);obtain ⟨q,q',lq,lq',e3,hq,cz,dq,nq,dq',nq',vq,vq'⟩:=ahd h hy hg hb Yo nb ng lb lg1 (by omega);rw [va,vg] at vp;rw [vb,vg] at vq;have hrn:(bM n d).natAbs=n.natAbs/wc n d:=by unfold bM;rw [vX (Int.gcd_dvd_left n d)];rfl
 have lF:(bT n d).natAbs=d.natAbs/wc n d:=by unfold bT;rw [vX (Int.gcd_dvd_right n d)];rfl
 have hdp:=BX (a:=n) hd;rw [<-hrn] at vp;rw [<-lF] at vq;have aCx:=Gf n d;have HI:cL (decide (n<0)) (dv lp)=bM n d:=by
  rw [vp];unfold cL;by_cases h0:n<0
  ·have:¬0<=bM n d:=fun h1=>by have:=Int.mul_nonneg (Int.le_of_lt LR) h1;omega
   simp only [h0,yq,yV];omega
  ·have:¬bM n d<0:=fun h1=>by have:=Int.mul_neg_of_pos_of_neg LR h1;omega
   simp only [h0,yp,yA,yN];omega
 have kn':Bd K (bM n d):=kn.le (Ag n d);have WT:Bd K (bT n d):=kd.le (Ah n d);have lp1:lp.length<=8000000000:=xp (jQ dp np (by rw [vp];exact kn'.r)) hK
 have Mu:lq.length<=8000000000:=xp (jQ dq nq (by rw [vq];exact WT.r)) hK
 obtain ⟨s,e4,hs⟩:=rM h.iY h.dj (decide (n<0)) hp dp (by omega);rw [HI] at hs;obtain ⟨e5,l5⟩:=Wo (K:=K) h.Wp h.qv (by omega) hs kn'.r;obtain ⟨u,e6,hu⟩:=rM h.iY h.dj false hq dq (by omega);have Bp:cL false (dv lq)=bT n d:=by rw [vq];unfold cL;simp only [yA,yN];omega
 rw [Bp] at hu;obtain ⟨e7,l7⟩:=Wo (K:=K) h.Wp h.qv (by omega) hu WT.r;obtain ⟨sw,sl,rfl,mU,_,_,_⟩:=hs;obtain ⟨uw,ul,rfl,huw,_,_,_⟩:=hu;have aCj:0<lq.length:=by
  rcases xu lq.length with e | e
  ·rw [yH e] at vq;simp [dv] at vq;omega
  ·exact e
 by_cases Ru:lq.length=1
 ·obtain ⟨z,rfl⟩:∃z,lq=[z]:=by
   cases lq with
   | nil=>simp at Ru
   | cons z r=>cases r with
    | nil=>exact ⟨z,rfl⟩
    | cons y r=>simp at Ru
  have ME:z=bT n d:=by simp [dv] at vq;omega
  have e8:=hq.aY (i:=0) (by simp);simp only [List.getElem_cons_zero] at e8;by_cases h1:bT n d=1
  ·have hT:jT n d=aW (bM n d):=by unfold jT;rw [yF h1]
   rw [hT];simp only [go_sem,ya,oR,aD,t2,t3,hx.ah,hy.ah,aZ,yd,cC,show ¬d<0 by omega,yp,e1,hg.ah,hg.shut,e2,hp.ah,hp.bN,ao.bN,e3,hq.len,hq.bN,cz.bN,e4,mU.ah,bl,bB,e5,yy,yG,show ((1:Nat):Int)=(1:Int) from rfl,yq,e8,ME,h1]
  ·have hT:jT n d=(aW (bM n d)++[47])++aW (bT n d):=by unfold jT;rw [yr h1]
   rw [hT]
   simp only [go_sem,ya,oR,aD,t2,t3,hx.ah,hy.ah,aZ,yd,cC,show ¬d<0 by omega,yp,e1,hg.ah,hg.shut,e2,hp.ah,hp.bN,ao.bN,e3,hq.len,hq.ah,hq.bN,cz.bN,e4,mU.ah,bl,bB,e5,yy,yG,show ((1:Nat):Int)=(1:Int) from rfl,yq,e8,ME,h1,gH (a:=aW (bM n d)) (b:=[47]) (by simp;omega),e6,huw.ah,e7,gH (a:=aW (bM n d)++[47]) (b:=aW (bT n d)) (by simp;omega)]
 ·have h1:¬bT n d=1:=fun h1=>Ru (by
   have h2:lq.length<=1:=ad6 dq nq (by rw [vq,h1];decide)
   omega)
  have hT:jT n d=(aW (bM n d)++[47])++aW (bT n d):=by unfold jT;rw [yr h1]
  rw [hT]
  simp only [go_sem,ya,oR,aD,t2,t3,hx.ah,hy.ah,aZ,yd,cC,show ¬d<0 by omega,yp,e1,hg.ah,hg.shut,e2,hp.ah,hp.bN,ao.bN,e3,hq.len,hq.ah,hq.bN,cz.bN,e4,mU.ah,bl,bB,e5,show ¬(lq.length:Int)=1 by omega,gH (a:=aW (bM n d)) (b:=[47]) (by simp;omega),e6,huw.ah,e7,gH (a:=aW (bM n d)++[47]) (b:=aW (bT n d)) (by simp;omega)]
def akZ (n d:Int):xX (-n) (-d)=xX n d:=by rw [Rat.divInt_neg',ybN]
def Vd (h:Rm P L) {v w:AV} {n d:Int} {K:Nat} (hK:K<=8000000000) (hv:kN v n) (hw:kN w d) (kn:Bd K n) (kd:Bd K d) (hd:d≠0):af P L 280 [v,w] (.str (RT (xX n d))):=by
 have fin:∀{x y:AV} {a b:List Int} {n' d':Int},bq x a->dg a->nz a->dv a=n'.natAbs->bq y b->dg b->nz b->dv b=d'.natAbs->Bd K n'->Bd K d'->0<d'->xX n' d'=xX n d->∀tm,ab tm 2= .ptr 0 0->ab tm 3= .ptr 1 0->
   D P L (.seq (bP oR.body) (bP (aD oR.body))) ⟨[(0,v),(1,w)],[],0,0⟩=some (.normal,⟨tm,[(1,.cells true true true 2 [.bool (decide (d'<0)),y]),(0,.cells true true true 2 [.bool (decide (n'<0)),x])],2,0⟩)->af P L 280 [v,w] (.str (RT (xX n d))):=fun {x y a b n' d'} hx ha na va hy hb nb vb kn kd hd hq tm t2 t3 e=>by
  unfold af;rw [aq h.ayu];show ia [.t 4] (D P L (.seq (bP oR.body) (.seq (bP (aD oR.body)) (aD (aD oR.body)))) ⟨[(0,v),(1,w)],[],0,0⟩)=_
  rw [DC,e,gG,<-hq];exact au8 h hK hx ha na va hy hb nb vb kn kd hd t2 t3
 have eZ:=hv;have X9:=hw;obtain ⟨x,a,rfl,hx,ha,na,va⟩:=hv;obtain ⟨y,b,rfl,hy,hb,nb,vb⟩:=hw;by_cases h0:d<0
 ·obtain ⟨r,e1,hr⟩:=ahX (K:=K) h.ain h.iY h.dj (by omega) eZ kn.r;obtain ⟨s,e2,hs⟩:=ahX (K:=K) h.ain h.iY h.dj (by omega) X9 kd.r;obtain ⟨x',a',rfl,E4,EK,na',va'⟩:=hr;obtain ⟨y',b',rfl,z8,dl,nb',vb'⟩:=hs;simp only [h0,yq] at e2
  refine fin E4 EK na' va' z8 dl nb' vb' kn.neg kd.neg (by omega) (akZ n d) _ ?_ ?_ (by
   simp only [go_sem,ya,yb,oR,bP,aD,aG,hx.pu,hx.ah,hx.one,hy.pu,hy.ah,hy.one,E4.pu,E4.one,z8.pu,z8.one,aZ,yd,h0,yq,fy,bl,e1,e2,bB,fB]<;>rfl)<;>simp only [go_sem,ya]
 ·refine fin hx ha na va hy hb nb vb kn kd (by omega) rfl _ ?_ ?_ (by simp only [go_sem,ya,yb,oR,bP,aD,aG,hx.pu,hx.one,hy.pu,hy.one,aZ,yd,h0,yp]<;>rfl)<;>simp only [go_sem,ya]
end
end
section
open Go (IntKind)
def awC (z:Int) (m:Nat) (h:z.natAbs=m):(z.tdiv 1000000000).natAbs=m/1000000000/\(if z.tmod 1000000000<0 then 0-z.tmod 1000000000 else z.tmod 1000000000)=((m%1000000000:Nat):Int)/\(z<0->z.tdiv 1000000000<=0)/\(0<=z->0<=z.tdiv 1000000000):=by
 rcases Int.lt_or_le z 0 with h0 | h0
 ·obtain ⟨n,rfl⟩:∃n:Nat,z= -(n:Int):=⟨z.natAbs,by omega⟩;rw [Int.neg_tdiv,Int.neg_tmod,xE (by omega),Int.tmod_eq_emod_of_nonneg (by omega)]
  grind
 ·grind
section
variable {P:aI} {L:Lib}
def au9 {neg:Bool} {N:Nat} (hN:N<=9223372036854775808):
  ∀k s,(∃(i:Nat) (z:Int) (out:List Int),z.natAbs=k/\out.length=i/\dg out/\dv out+1000000000^i*z.natAbs=N/\(neg=true->z<=0)/\(neg=false->0<=z)/\i<=3/\
    ((i=0/\bA [0,2,3,4] s=⟨[(0,aa z),(2,.ptr 0 0),(3,.ae),(4,.bool neg)],[(0,.cells true true true 2 [.bool false,.ae])],1,0⟩)\/
    (0<i/\bA [0,2,3,4] s=⟨[(0,aa z),(2,.ptr 0 0),(3,.ak 1 0 i),(4,.bool neg)],[(1,.cells true true false 1 (out.map aa)),(0,.cells true true true 2 [.bool false,.ae])],2,0⟩)))->
   ∃ex s',D P L (.loop [0,2,3,4] sT) s=some (ex,s')/\∃tm i out,ex= .exit 0/\out.length=i/\i<=3/\dg out/\dv out=N/\ab tm 2= .ptr 0 0/\ab tm 4= .bool neg/\
    ((i=0/\ab tm 3= .ae/\s'=⟨tm,[(0,.cells true true true 2 [.bool false,.ae])],1,0⟩)\/(0<i/\ab tm 3= .ak 1 0 i/\s'=⟨tm,[(1,.cells true true false 1 (out.map aa)),(0,.cells true true true 2 [.bool false,.ae])],2,0⟩)):=by
 refine cg (I:=fun k s=>∃(i:Nat) (z:Int) (out:List Int),z.natAbs=k/\out.length=i/\dg out/\dv out+1000000000^i*z.natAbs=N/\(neg=true->z<=0)/\(neg=false->0<=z)/\i<=3/\
    ((i=0/\s=⟨[(0,aa z),(2,.ptr 0 0),(3,.ae),(4,.bool neg)],[(0,.cells true true true 2 [.bool false,.ae])],1,0⟩)\/
    (0<i/\s=⟨[(0,aa z),(2,.ptr 0 0),(3,.ak 1 0 i),(4,.bool neg)],[(1,.cells true true false 1 (out.map aa)),(0,.cells true true true 2 [.bool false,.ae])],2,0⟩)))
  (Q:=fun ex s'=>∃tm i out,ex= .exit 0/\out.length=i/\i<=3/\dg out/\dv out=N/\ab tm 2= .ptr 0 0/\ab tm 4= .bool neg/\
    ((i=0/\ab tm 3= .ae/\s'=⟨tm,[(0,.cells true true true 2 [.bool false,.ae])],1,0⟩)\/(0<i/\ab tm 3= .ak 1 0 i/\s'=⟨tm,[(1,.cells true true false 1 (out.map aa)),(0,.cells true true true 2 [.bool false,.ae])],2,0⟩))) ?_
 rintro k s ⟨i,z,out,rfl,hlen,hd,aR,gE,mP,hi3,hs⟩;by_cases hz:z=0
 ·right
  subst hz;have hv:dv out=N:=by simpa using aR
  rcases hs with ⟨h0,rfl⟩ | ⟨h0,rfl⟩
  ·simp only [go_sem,sT,yq,yM];exact ⟨_,_,rfl,by simp,_,i,out,rfl,hlen,hi3,hd,hv,by simp only [go_sem,ya],by simp only [go_sem,ya],.inl ⟨h0,by simp only [go_sem,ya],rfl⟩⟩
  ·simp only [go_sem,sT,yq,yM];exact ⟨_,_,rfl,by simp,_,i,out,rfl,hlen,hi3,hd,hv,by simp only [go_sem,ya],by simp only [go_sem,ya],.inr ⟨h0,by simp only [go_sem,ya],rfl⟩⟩
 ·left
  obtain ⟨m,hm⟩:∃m,z.natAbs=m:=⟨_,rfl⟩;have Ms:0<m:=by omega
  rw [hm] at aR;have hi2:i<3:=by
   rcases Nat.lt_or_ge i 3 with h | h
   ·exact h
   ·have e3:i=3:=by omega
    subst e3
    have:=yQ (1000000000^3) Ms
    omega
  have hmN:m<=9223372036854775808:=by
   have:=Nat.le_mul_of_pos_left m (ybK (n:=i) (show 0<1000000000 by decide))
   omega
  obtain ⟨d1,d2,d3,d4⟩:=awC z m hm;have fS:=yba m 1000000000;have rN:dg (out++[((m%1000000000:Nat):Int)]):=ik.2 ⟨hd,lP.2 (by omega)⟩;have O4:dv (out++[((m%1000000000:Nat):Int)])+1000000000^(i+1)*(m/1000000000)=N:=by
   rw [mX,hlen,<-aR,xj,xn];have e:1000000000^i*m=1000000000^i*(m%1000000000)+1000000000^i*(1000000000*(m/1000000000)):=by rw [<-xH,fS]
   rw [e];simp only [dv,wo,xO,yZ];omega
  have zX:IntKind.wrap .i64 (z.tdiv 1000000000)=z.tdiv 1000000000:=wrap64 (by omega) (by omega);have mN: -9223372036854775808<=z.tmod 1000000000/\z.tmod 1000000000<1000000000:=by
   have h1:(z.tmod 1000000000).natAbs<1000000000:=by
    split at d2<;>omega
   omega
  have AO:(neg=true->z.tdiv 1000000000<=0)/\(neg=false->0<=z.tdiv 1000000000):=⟨fun h=>d3 (by have:=gE h;omega),fun h=>d4 (mP h)⟩;have bm:(z.tdiv 1000000000).natAbs<m:=by rw [d1];omega
  obtain ⟨z',fZ⟩:∃z',z.tdiv 1000000000=z':=⟨_,rfl⟩;rw [fZ] at d1 d3 d4 zX AO bm;have di:dv (out++[((m%1000000000:Nat):Int)])+1000000000^(i+1)*z'.natAbs=N:=by rw [d1];exact O4
  generalize m%1000000000=r at*
  by_cases fY:z.tmod 1000000000<0
  ·rw [yF fY] at d2;rcases hs with ⟨h0,rfl⟩ | ⟨h0,rfl⟩
   ·subst h0;have jA:out=[]:=yH hlen;subst jA
    simp only [go_sem,ya,yb,xK,yt,ye,yi,sT,yp,hz,yI,dK _ _ _ (show (1000000000:Int)≠0 by decide),eU _ _ _ (show (1000000000:Int)≠0 by decide),fY,d2,wrapN (n:=r) (by omega),ki,fZ,zX];refine ⟨_,z'.natAbs,rfl,by omega,1,z',[]++[(r:Int)],rfl,rfl,rN,di,AO.1,AO.2,by omega,.inr ⟨by omega,?_⟩⟩;simp only [go_sem,ya,yb,av]<;>rfl
   ·simp only [go_sem,ya,yb,ye,yi,sT,yp,hz,yI,dK _ _ _ (show (1000000000:Int)≠0 by decide),fY,d2,wrapN (n:=r) (by omega)]
    rw [jN (ex:=false) (pu:=true) (cs:=out.map aa) (by simp only [go_sem,ya]) (by rw [xm,hlen,yi]) (by omega) (by omega) (by decide) (by simp only [go_sem])];simp only [go_sem,ya,yb,eU _ _ _ (show (1000000000:Int)≠0 by decide),fZ,zX];refine ⟨_,z'.natAbs,rfl,by omega,i+1,z',out++[(r:Int)],rfl,by simp [hlen],rN,di,AO.1,AO.2,by omega,.inr ⟨by omega,?_⟩⟩;rw [xt];simp only [go_sem,ya,yb,av]<;>rfl
  ·rw [yr fY] at d2;rcases hs with ⟨h0,rfl⟩ | ⟨h0,rfl⟩
   ·subst h0;have jA:out=[]:=yH hlen;subst jA;simp only [go_sem,ya,yb,xK,yt,ye,yi,sT,yp,hz,yI,dK _ _ _ (show (1000000000:Int)≠0 by decide),eU _ _ _ (show (1000000000:Int)≠0 by decide),d2,show ¬((r:Nat):Int)<0 by omega,ki,fZ,zX];refine ⟨_,z'.natAbs,rfl,by omega,1,z',[]++[(r:Int)],rfl,rfl,rN,di,AO.1,AO.2,by omega,.inr ⟨by omega,?_⟩⟩;simp only [go_sem,ya,yb,av]<;>rfl
   ·simp only [go_sem,ya,yb,ye,yi,sT,yp,hz,yI,dK _ _ _ (show (1000000000:Int)≠0 by decide),d2,show ¬((r:Nat):Int)<0 by omega]
    rw [jN (ex:=false) (pu:=true) (cs:=out.map aa) (by simp only [go_sem,ya]) (by rw [xm,hlen,yi]) (by omega) (by omega) (by decide) (by simp only [go_sem])];simp only [go_sem,ya,yb,eU _ _ _ (show (1000000000:Int)≠0 by decide),fZ,zX];refine ⟨_,z'.natAbs,rfl,by omega,i+1,z',out++[(r:Int)],rfl,by simp [hlen],rN,di,AO.1,AO.2,by omega,.inr ⟨by omega,?_⟩⟩;rw [xt];simp only [go_sem,ya,yb,av]<;>rfl
def ad7 {n:Int} (h: -9223372036854775808<=n/\n<9223372036854775808):n.natAbs<=9223372036854775808:=by omega
def ad8 (n:Int):cL (decide (n<0)) n.natAbs=n:=by
 unfold cL
 grind
def awD (h:Rm P L) {n:Int} (hn: -9223372036854775808<=n/\n<9223372036854775808):∃r,af P L 281 [aa n] r/\kN r n:=by
 have key:=fun s=>au9 (P:=P) (L:=L) (neg:=decide (n<0)) (ad7 hn) n.natAbs s
 unfold af;rw [aq h.ail];simp only [go_sem,ya,yb,PN,aG];generalize hq:D P L (.loop [0,2,3,4] sT) _=q;obtain ⟨ex,s,rfl,tm,i,out,rfl,hlen,hi,hd,aR,t2,t4,Ea⟩:=bV hq key (by
  refine ⟨0,n,[],rfl,rfl,rfl,by simp [dv],fun h=>by simp at h;omega,fun h=>by simp at h;omega,by omega,.inl ⟨rfl,?_⟩⟩
  simp only [go_sem,ya,yb,av]<;>rfl)
 rcases Ea with ⟨sA,t3,rfl⟩ | ⟨sA,t3,rfl⟩
 ·subst sA;have jA:out=[]:=yH hlen;subst jA;obtain ⟨r,e,hr⟩:=rM h.iY h.dj (decide (n<0)) (show bq .ae [] from rk) hd (by simp);rw [aR,ad8] at hr;have bW:=hr;obtain ⟨w,l,rfl,hw,_,_,_⟩:=bW;refine ⟨_,?_,hr⟩;simp only [go_sem,ya,yb,av,t2,t3,t4,e,hw.pu,hw.one,bB,fB];rcases hw with ⟨rfl,_⟩ | ⟨e,rfl⟩<;>rfl
 ·have hI:=fN false out;rw [hlen] at hI;obtain ⟨r,e,hr⟩:=rM h.iY h.dj (decide (n<0)) hI hd (by omega);rw [aR,ad8] at hr;have bW:=hr;obtain ⟨w,l,rfl,hw,_,_,_⟩:=bW;refine ⟨_,?_,hr⟩
  simp only [go_sem,ya,yb,av,t2,t3,t4,fun hp=>my (hp:=hp) (k:=i) (sz:=1) (cs:=out.map aa) false (by simp [hlen]) (by decide),e,hw.pu,hw.one,bB,fB];rcases hw with ⟨rfl,_⟩ | ⟨e,rfl⟩<;>rfl
def ava (n:Int):RT (n:Rat)=aW n:=by unfold RT;simp
def ahe (h:Rm P L) (Lt:Has P L 265 KP) {n:Int} (hn: -9223372036854775808<=n/\n<9223372036854775808):af P L 265 [aa n] (.str (RT (n:Rat))):=by
 obtain ⟨r,e,hr⟩:=awD h hn;obtain ⟨e2,_⟩:=Wo (K:=8) h.Wp h.qv (by omega) hr (by have:=ad7 hn;omega);rw [ava];obtain ⟨w,l,rfl,hw,_,_,_⟩:=hr;unfold af at e e2 ⊢;rw [aq Lt];simp only [go_sem,ya,KP,e,hw.ah,bB,bl,e2]
def DY {K:Nat} {a:Rat} (h:Hq K a):(RT a).length<=2*K+3:=by
 have h1:=Js h.1;have h2:=Js h.2;rw [lJ] at h2;unfold RT
 grind
def Oi {K:Nat} {z:Int} (h:Bd K z):(an z.natAbs).length<=K+1:=by
 have:=Js (z:=(z.natAbs:Int)) (k:=K) (by unfold Bd at h ⊢;omega)
 rwa [lJ] at this
def KB (h:Rm P L) {a:Rat} {K:Nat} (ka:Hq K a) (hK:K<=8000000000):∃x y,af P L 274 [.str (RT a)] (.aw [x,y])/\kN x a.num/\kN y (a.den:Int):=by
 have h1:=Oi ka.1;have h2:=Oi ka.2
 exact ait h.toRb (n:=a.num) (d:=a.den) (by omega) (by simpa using (by omega:(an ((a.den:Int)).natAbs).length<=144000000000))
def ahf (h:Rm P L) {n:Int} {d:Nat} (hl:(TT n d).length<=100000000000) (Dj:n=0->d=1):af P L 262 [.str (TT n d)] (aa (cA n)):=by
 unfold af;rw [aq h.ays];by_cases h0:n<0
 ·have ew:=ahc (n:=n) (d:=d) (by omega);rw [Oz h0] at ew ⊢;simp only [go_sem,ya,KN,iQ,ew,show (0:Int)<(((TT (-n) d).length+1:Nat):Int) by omega,Es,yq];unfold cA;rw [yF h0]
 ·by_cases h1:n=0
  ·subst h1
   have:=Dj rfl
   subst this;rw [show TT 0 1=[48] by decide];simp only [go_sem,ya,KN,iQ,show cN [48] [48]=true from rfl];rfl
  ·have ew:=ahc (n:=n) (d:=d) h1;obtain ⟨b,u,hb,jY⟩:=asa (d:=d) h0;rw [hb] at ew ⊢;simp only [go_sem,ya,KN,iQ,ew,show (0:Int)<((u.length+1:Nat):Int) by omega,show nX 0 (.str (b::u))=some (.int .u8 (b:Nat)) from rfl,show ¬((b:Nat):Int)=45 by omega];unfold cA;rw [yr h0,yr h1]
def akw {a:Rat} (h:a.num=0):a.den=1:=by simp_all
def Ve (h:Rm P L) {a:Rat} {K:Nat} (ka:Hq K a) (hK:K<=8000000000):af P L 262 [.str (RT a)] (aa (cA a.num)):=
 ahf h (by have:=DY ka;rw [KA] at this;omega) akw
def awE (h:Rp P L) {a:Rat} {K:Nat} (ka:Hq K a) (hK:K<=8000000000):af P L 268 [.str (RT a)] (.str (RT (-a))):=by
 have e:=Ve h.toRm ka hK;have hl:=DY ka;have en:(-a).num= -a.num:=rfl;have ed:(-a).den=a.den:=rfl;rw [KA] at hl e ⊢;rw [KA,en,ed];generalize a.num=n at*
 generalize a.den=d at*
 unfold af at e ⊢;rw [aq h.ayv];by_cases h0:n<0
 ·have es:cA n= -1:=by unfold cA;rw [yF h0]
  rw [es,Oz h0] at e;rw [Oz h0] at hl ⊢;have hc:iK (45::TT (-n) d) (some 1) (some ((TT (-n) d).length+1))=some (.str (TT (-n) d)):=by rw [mz (s:=45::TT (-n) d) (l:=1) (h:=(TT (-n) d).length+1) (by omega) (by simp)];simp
  simp only [go_sem,ya,KR,e,show (-1:Int)<0 by decide,fg,fw,eh,hc]
 ·by_cases h1:n=0
  ·subst h1;have es:cA 0=0:=rfl;rw [es] at e;simp only [go_sem,ya,KR,e,show ¬(0:Int)<0 by decide,yq,Int.neg_zero]
  ·have es:cA n=1:=by unfold cA;rw [yr h0,yr h1]
   rw [es] at e
   have:TT (-n) d=45::TT n d:=by rw [Oz (by omega),ybN]
   rw [this]
   simp only [go_sem,ya,KR,e,show ¬(1:Int)<0 by decide,show ¬(1:Int)=0 by decide,gH (a:=[45]) (b:=TT n d) (by simp;omega),yW,xN]
end
end
section
open Go (IntKind)
def ad9 (n:Int) (d:Nat):UA true n d= .aw [aa n,aa d,.bool true]:=rfl
def KC {a b:Int} (ha:a.natAbs<1000000000) (hb:b.natAbs<1000000000):(a*b).natAbs<1000000000000000000:=by
 rw [Int.natAbs_mul];exact yL (uS ha hb) (by decide)
section
variable {P:aI} {L:Lib}
def ahg (h:Rm P L) {a b:Int} (ha: -4000000000000000000<=a/\a<=4000000000000000000) (hb:0<b/\b<=4000000000000000000):af P L 277 [aa a,aa b] (.str (RT (xX a b))):=by
 rw [Ub hb.1];exact axB h.ayt h.VT h.qv ha hb
def O5 (h:Rp P L) {a:Rat} {K:Nat} (ka:Hq K a) (hK:K<=8000000000):∃q:Bool,af P L 276 [.str (RT a)] (UA q a.num a.den)/\(q=true->a.num.natAbs<1000000000/\a.den<1000000000):=
 axC h.ayx h.CE h.A1 (n:=a.num) (d:=a.den) (by have:=DY ka;rw [KA] at this;omega)
def O6 (h:Rn P L) {a b:Rat} {K M:Nat} (ka:Hq K a) (kb:Hq M b) (hK:K+M<=8000000000):af P L 267 [.str (RT a),.str (RT b)] (.str (RT (a*b))):=by
 obtain ⟨q1,e1,b1⟩:=O5 h.toRp ka (by omega);obtain ⟨q2,e2,b2⟩:=O5 h.toRp kb (by omega);have ayH:=Fl a b;by_cases hq:(q1=true/\q2=true)
 ·obtain ⟨rfl,rfl⟩:=hq;obtain ⟨b11,b12⟩:=b1 rfl;obtain ⟨b21,b22⟩:=b2 rfl;have p1:=KC b11 b21;have p2:=KC (a:=(a.den:Int)) (b:=(b.den:Int)) (by omega) (by omega);have e3:=ahg h.toRm (a:=a.num*b.num) (b:=(a.den:Int)*b.den) (by omega) (by omega);rw [<-mul_eq] at e3;rw [ad9] at e1 e2;unfold af at e1 e2 e3 ⊢;rw [aq h.aip]
  simp only [go_sem,ya,KQ,e1,e2,wrap64 (n:=a.num*b.num) (by omega) (by omega),wrap64 (n:=(a.den:Int)*(b.den:Int)) (by omega) (by omega),e3]
 ·have cz:∃n1 d1 n2 d2,bY P L (D P L) 276 [.str (RT a)]=some (.aw [aa n1,aa d1,.bool q1])/\bY P L (D P L) 276 [.str (RT b)]=some (.aw [aa n2,aa d2,.bool q2]):=by
   cases q1<;>cases q2<;>exact ⟨_,_,_,_,e1,e2⟩
  obtain ⟨n1,d1,n2,d2,e1,e2⟩:=cz;obtain ⟨x,y,e3,hx,hy⟩:=KB h.toRm ka (by omega);obtain ⟨z,w,e4,hz,hw⟩:=KB h.toRm kb (by omega);have G1:max K M<=8000000000:=by omega
  obtain ⟨r,e5,hr⟩:=Lo (K:=max K M) h.Lr h.mh h.iY h.dj G1 hx hz (ka.1.mono (by omega)).r (kb.1.mono (by omega)).r;obtain ⟨s,e6,hs⟩:=Lo (K:=max K M) h.Lr h.mh h.iY h.dj G1 hy hw (ka.2.mono (by omega)).r (kb.2.mono (by omega)).r;have e7:=Vd h.toRm hK hr hs (ka.1.mul kb.1) (ka.2.mul kb.2) (by omega);rw [<-mul_eq] at e7;obtain ⟨xw,xl,rfl,fb,_,_,_⟩:=hx;obtain ⟨yw,yl,rfl,fc,_,_,_⟩:=hy;obtain ⟨zw,zl,rfl,pE,_,_,_⟩:=hz;obtain ⟨ww,wl,rfl,pG,_,_,_⟩:=hw;obtain ⟨fm,rl,rfl,rS,_,_,_⟩:=hr;obtain ⟨sw,sl,rfl,mU,_,_,_⟩:=hs;have hb:¬(q1=true/\q2=true):=hq;unfold af at e3 e4 e5 e6 e7 ⊢;rw [aq h.aip]
  cases q1 with
  | false=>
   simp only [go_sem,ya,yb,KQ,aG,e1,e2,e3,e4,fb.pu,fb.ah,fb.one,fc.pu,fc.ah,fc.one,pE.pu,pE.ah,pE.one,pG.pu,pG.ah,pG.one,rS.ah,mU.ah,bl,bB,rh,fB,fy,e5,e6,e7]
  | true=>
   cases q2 with
   | true=>exact absurd ⟨rfl,rfl⟩ hb
   | false=>
    simp only [go_sem,ya,yb,KQ,aG,e1,e2,e3,e4,fb.pu,fb.ah,fb.one,fc.pu,fc.ah,fc.one,pE.pu,pE.ah,pE.one,pG.pu,pG.ah,pG.one,rS.ah,mU.ah,bl,bB,rh,fB,fy,e5,e6,e7]
def Vf (h:Rp P L) {a b:Rat} {K M:Nat} (ka:Hq K a) (kb:Hq M b) (hK:K+M+1<=8000000000):af P L 264 [.str (RT a),.str (RT b)] (.str (RT (a+b))):=by
 obtain ⟨q1,e1,b1⟩:=O5 h ka (by omega);obtain ⟨q2,e2,b2⟩:=O5 h kb (by omega);have ayH:=Fl a b;by_cases hq:(q1=true/\q2=true)
 ·obtain ⟨rfl,rfl⟩:=hq;obtain ⟨b11,b12⟩:=b1 rfl;obtain ⟨b21,b22⟩:=b2 rfl;have p1:=KC (a:=a.num) (b:=(b.den:Int)) (by omega) (by omega);have p2:=KC (a:=b.num) (b:=(a.den:Int)) (by omega) (by omega);have p3:=KC (a:=(a.den:Int)) (b:=(b.den:Int)) (by omega) (by omega);have e3:=ahg h.toRm (a:=a.num*b.den+b.num*a.den) (b:=(a.den:Int)*b.den) (by omega) (by omega);rw [<-add_eq] at e3;rw [ad9] at e1 e2;unfold af at e1 e2 e3 ⊢;rw [aq h.aio]
  simp only [go_sem,ya,KO,e1,e2,wrap64 (n:=a.num*(b.den:Int)) (by omega) (by omega),wrap64 (n:=b.num*(a.den:Int)) (by omega) (by omega),wrap64 (n:=a.num*(b.den:Int)+b.num*(a.den:Int)) (by omega) (by omega),wrap64 (n:=(a.den:Int)*(b.den:Int)) (by omega) (by omega),e3]
 ·have cz:∃n1 d1 n2 d2,bY P L (D P L) 276 [.str (RT a)]=some (.aw [aa n1,aa d1,.bool q1])/\bY P L (D P L) 276 [.str (RT b)]=some (.aw [aa n2,aa d2,.bool q2]):=by
   cases q1<;>cases q2<;>exact ⟨_,_,_,_,e1,e2⟩
  obtain ⟨n1,d1,n2,d2,e1,e2⟩:=cz;obtain ⟨x,y,e3,hx,hy⟩:=KB h.toRm ka (by omega);obtain ⟨z,w,e4,hz,hw⟩:=KB h.toRm kb (by omega);have G1:max K M<=8000000000:=by omega
  obtain ⟨r,e5,hr⟩:=Lo (K:=max K M) h.Lr h.mh h.iY h.dj G1 hx hw (ka.1.mono (by omega)).r (kb.2.mono (by omega)).r;obtain ⟨r2,Yp,dQ⟩:=Lo (K:=max K M) h.Lr h.mh h.iY h.dj G1 hz hy (kb.1.mono (by omega)).r (ka.2.mono (by omega)).r;obtain ⟨s,e6,hs⟩:=Lo (K:=max K M) h.Lr h.mh h.iY h.dj G1 hy hw (ka.2.mono (by omega)).r (kb.2.mono (by omega)).r;have k1:Bd (K+M) (a.num*b.den):=ka.1.mul kb.2;have k2:Bd (K+M) (b.num*a.den):=(kb.1.mul ka.2).mono (by omega);obtain ⟨t,e8,ht⟩:=ayk (K:=K+M) h.ayy h.Wl h.oX h.Qa h.od h.iY h.dj (by omega) hr dQ k1.r k2.r;have e7:=Vd h.toRm hK ht hs (k1.Wa k2) ((ka.2.mul kb.2).mono (by omega)) (by omega);rw [<-add_eq] at e7;obtain ⟨xw,xl,rfl,fb,_,_,_⟩:=hx;obtain ⟨yw,yl,rfl,fc,_,_,_⟩:=hy;obtain ⟨zw,zl,rfl,pE,_,_,_⟩:=hz;obtain ⟨ww,wl,rfl,pG,_,_,_⟩:=hw;obtain ⟨fm,rl,rfl,rS,_,_,_⟩:=hr
  obtain ⟨rw2,rl2,rfl,aiu,_,_,_⟩:=dQ;obtain ⟨tw,tl,rfl,htw,_,_,_⟩:=ht;obtain ⟨sw,sl,rfl,mU,_,_,_⟩:=hs;have hb:¬(q1=true/\q2=true):=hq;unfold af at e3 e4 e5 Yp e6 e7 e8 ⊢;rw [aq h.aio]
  cases q1 with
  | false=>
   simp only [go_sem,ya,yb,KO,aG,e1,e2,e3,e4,fb.pu,fb.ah,fb.one,fc.pu,fc.ah,fc.one,pE.pu,pE.ah,pE.one,pG.pu,pG.ah,pG.one,rS.ah,aiu.ah,htw.ah,mU.ah,bl,bB,rh,fB,fy,e5,Yp,e8,e6,e7]
  | true=>
   cases q2 with
   | true=>exact absurd ⟨rfl,rfl⟩ hb
   | false=>
    simp only [go_sem,ya,yb,KO,aG,e1,e2,e3,e4,fb.pu,fb.ah,fb.one,fc.pu,fc.ah,fc.one,pE.pu,pE.ah,pE.one,pG.pu,pG.ah,pG.one,rS.ah,aiu.ah,htw.ah,mU.ah,bl,bB,rh,fB,fy,e5,Yp,e8,e6,e7]
def ahh (h:Rp P L) {a b:Rat} {K M:Nat} (ka:Hq K a) (kb:Hq M b) (hK:K+M+1<=8000000000):af P L 271 [.str (RT a),.str (RT b)] (.str (RT (a-b))):=by
 have e1:=awE h kb (by omega);have e2:=Vf h ka kb.neg hK;rw [<-Rat.sub_eq_add_neg] at e2;unfold af at e1 e2 ⊢;rw [aq h.ayw];simp only [go_sem,ya,VH,e1,e2]
def inv_divInt (a:Rat) (h:a≠0):a⁻¹=xX (a.den:Int) a.num:=by
 rw [Rat.inv_def]
def awF (h:Rn P L) (G2:Has P L 283 KU) {a:Rat} {K:Nat} (ka:Hq K a) (hK:K<=8000000000) (h0:a≠0):af P L 283 [.str (RT a)] (.str (RT a⁻¹)):=by
 obtain ⟨x,y,e3,hx,hy⟩:=KB h.toRm ka hK;have hn:a.num≠0:=fun e=>h0 (Rat.num_eq_zero.1 e)
 have e7:=Vd h.toRm hK hy hx ka.2 ka.1 hn;rw [<-inv_divInt a h0] at e7;obtain ⟨xw,xl,rfl,fb,_,_,_⟩:=hx;obtain ⟨yw,yl,rfl,fc,_,_,_⟩:=hy;unfold af at e3 e7 ⊢;rw [aq G2];simp only [go_sem,ya,yb,KU,aG,e3,fb.pu,fb.ah,fb.one,fc.pu,fc.ah,fc.one,bl,rh,fB,fy,e7]
def ahi (h:Rn P L) (Qb:Has P L 266 PJ) (G2:Has P L 283 KU) {a b:Rat} {K M:Nat} (ka:Hq K a) (kb:Hq M b) (hK:K+M<=8000000000) (h0:b≠0):af P L 266 [.str (RT a),.str (RT b)] (.str (RT (a/b))):=by
 have e1:=awF h G2 kb (by omega) h0;have e2:=O6 h ka kb.inv hK;rw [<-Rat.div_def] at e2;unfold af at e1 e2 ⊢;rw [aq Qb];simp only [go_sem,ya,PJ,e1,e2]
end
end
end VE
