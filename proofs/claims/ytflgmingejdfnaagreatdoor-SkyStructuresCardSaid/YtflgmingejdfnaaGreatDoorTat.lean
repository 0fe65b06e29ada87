import Derived.Test.YtflgmingejdfnaaGreatDoorTas
import Derived.Test.YtflgmingejdfnaaGreatDoorTar
set_option linter.all false
set_option maxRecDepth 100000
open Bool renaming and_true→u5,false_eq_true→yq,not_false→xE,not_true→yQ
open Int renaming gcd→xJ,natAbs_ediv_of_dvd→wW,neg_neg→yaG,tdiv_eq_ediv_of_nonneg→xB,toNat_natCast→xV
open Int.ofNat renaming inj→ta
open List renaming cons_append→yH,drop_eq_getElem_cons→yT,drop_left→uO,drop_zero→vc,eq_nil_of_length_eq_zero→yB,getD_eq_getElem?_getD→xD,getElem?_eq_getElem→xP,length_append→yW,length_cons→yx,length_map→yL,length_nil→yZ,length_pos_iff→uU,length_take→yN,map_append→xm,map_cons→yP,map_nil→wc,nil_append→xu,replicate→yu,take_left→yaa,take_length→wK
open Nat renaming add_comm→yaI,add_zero→xH,div_eq_of_lt→tR,eq_zero_or_pos→xv,gcd→wb,gcd_comm→vH,le_refl→yC,le_trans→xz,lt_of_lt_of_le→yU,mod_add_div→tY,mod_eq_of_lt→vE,mul_add→xY,mul_assoc→xZ,mul_comm→uJ,mul_le_mul_left→xn,mul_lt_mul''→tT,mul_lt_mul_of_pos_right→ue,mul_one→yv,mul_pos→yaD,mul_zero→wz,pow_lt_pow_iff_right→uq,pow_pos→yaU,pow_succ→xq,reduceAdd→yc,reduceEqDiff→ya,reduceLT→yV,reduceLeDiff→ym,reduceMul→xR,zero_add→yp
open Rat renaming divInt→xM
namespace VE
section
open Go (IntKind)
def last_pos {l:List Int} (hd:dg l) (hn:nz l) (h:0<l.length):0<l.getD (l.length-1) 0:=by
 rcases snoc l with rfl | ⟨m,a,rfl⟩
 ·grind
 ·have e:(m++[a]).getD ((m++[a]).length-1) 0=a:=by simp_all
  have ha:=ig.1 (eU.1 hd).2;by_cases h0:a=0
  ·subst h0
   have:=DI m
   have e:=congrArg List.length hn;rw [AI] at e
   grind
  ·omega
section
variable {P:aF} {L:Lib}
def ag3 (kI:Has P L 292 nP) {neg:Bool} {w:AV} {l:List Int} (hw:aX w l) (hd:dg l) (hn:nz l) (hl:l.length<=20000000000):
  ∀k s,(∃(j:Nat) (t:List Nat),bA [1,3,4] s=⟨[(1,.ptr 0 0),(3,.str t),(4,ab ((j:Int)-1))],[(0,.cells true true true 2 [.bool neg,w])],1,0⟩/\j=k/\j<l.length/\0<dv (l.drop j)/\t=aD (dv (l.drop j))/\t.length<=9*(l.length-j))->
   ∃ex s',D P L (.loop [1,3,4] Bj) s=some (ex,s')/\∃tm,s'=⟨tm,[(0,.cells true true true 2 [.bool neg,w])],1,0⟩/\ex= .exit 0/\ah tm 1= .ptr 0 0/\ah tm 3= .str (aD (dv l))/\(aD (dv l)).length<=180000000000:=by
 refine dt (I:=fun k s=>∃(j:Nat) (t:List Nat),s=⟨[(1,.ptr 0 0),(3,.str t),(4,ab ((j:Int)-1))],[(0,.cells true true true 2 [.bool neg,w])],1,0⟩/\j=k/\j<l.length/\0<dv (l.drop j)/\t=aD (dv (l.drop j))/\t.length<=9*(l.length-j))
  (Q:=fun ex s'=>∃tm,s'=⟨tm,[(0,.cells true true true 2 [.bool neg,w])],1,0⟩/\ex= .exit 0/\ah tm 1= .ptr 0 0/\ah tm 3= .str (aD (dv l))/\(aD (dv l)).length<=180000000000) ?_
 rintro k s ⟨j,t,rfl,rfl,hj,pk,ht,htl⟩
 cases j with
 | zero=>
  right
  rw [vc] at ht;simp only [go_sem,ya,Bj,show ¬(0:Int)<=((0:Nat):Int)-1 by omega];exact ⟨_,_,rfl,by simp,_,rfl,rfl,by simp only [go_sem,ya],by rw [<-ht];simp only [go_sem,ya],by rw [<-ht];omega⟩
 | succ i=>
  left
  have hi:i<l.length:=by omega
  obtain ⟨x,hx⟩:∃x,x=l.getD i 0:=⟨_,rfl⟩;have e1:=lB hw hi;have gx:=fe hd i;rw [<-hx] at e1 gx;obtain ⟨m,rfl⟩:∃m:Nat,x=m:=⟨x.toNat,by omega⟩;have e2:=ag2 kI (n:=m) (by omega);unfold aj at e2;have hlp:=Ih 9 m;have iR:dv (l.drop i)=dv (l.drop (i+1))*10^9+m:=by
   have:l.drop i=(m:Int)::l.drop (i+1):=by
    rw [yT hi,hx];simp [xD,xP hi]
   rw [this];simp only [dv,xV];omega
  have akd:aD (dv (l.drop i))=t++gm 9 m:=by
   rw [iR,Ii 9 _ m pk (by omega),ht]
  simp only [go_sem,ya,Bj,show ((i+1:Nat):Int)-1=(i:Int) by omega,show (0:Int)<=(i:Int) by omega,cP,yp,fj,e1,e2,fJ (a:=t) (b:=gm 9 m) (by omega)];refine ⟨_,i,rfl,by omega,i,t++gm 9 m,?_,rfl,by omega,by omega,akd.symm,by simp;omega⟩;rw [wrap64 (by omega) (by omega)];simp only [go_sem,ya,yc,aM]<;>rfl
def Kb (h:Has P L 282 B7) (kI:Has P L 292 nP) {v:AV} {n:Int} {K:Nat} (hK:K<=18000000000) (hv:gP v n) (hn:n.natAbs<1000000000^K):aj P L 282 [v] (.str (bE n))/\(bE n).length<=180000000001:=by
 obtain ⟨w,l,rfl,hw,hd,hz,kV⟩:=hv;have hl:=xz (fY hd hz (by rw [kV];exact hn)) hK
 by_cases h0:l=[]
 ·subst h0;have jB:n=0:=by simp [dv] at kV;omega
  subst jB;refine ⟨?_,by decide⟩;unfold aj;rw [aR h];simp only [go_sem,ya,yc,B7,bL,hw.len,hw.pu,hw.one,cP,yp,fj,yZ,show ((0:Nat):Int)=(0:Int) from rfl,yz];rfl
 ·have pk:0<l.length:=uU.2 h0;obtain ⟨x,hx⟩:∃x,x=l.getD (l.length-1) 0:=⟨_,rfl⟩;have e1:=lB hw (show l.length-1<l.length by omega);have gx:=fe hd (l.length-1);have gp:=last_pos hd hz pk;rw [<-hx] at e1 gx gp;obtain ⟨m,rfl⟩:∃m:Nat,x=m:=⟨x.toNat,by omega⟩;have e2:=JY kI (n:=m) (by omega);have iR:dv (l.drop (l.length-1))=m:=by
   rw [yT (show l.length-1<l.length by omega),List.drop_eq_nil_of_le (by omega)]
   have:l[l.length-1]=(m:Int):=by rw [hx];simp [xD,xP (show l.length-1<l.length by omega)]
   simp [dv,this]
  have h9:(aD m).length<=9:=oF (k:=8) (by omega);have fin:∀neg:Bool,b5 P L (D P L) 282 [.agg [.bool neg,w]]=some (.str ((if neg=true then [45] else [])++aD (dv l)))/\(aD (dv l)).length<=180000000000:=fun neg=>by
   rw [aR h]
   simp only [go_sem,ya,yc,B7,bL,hw.len,hw.pu,hw.one,cP,yp,fj,show ¬(l.length:Int)=0 by omega,show (l.length:Int)-1=((l.length-1:Nat):Int) by omega,wrapN (n:=l.length-1) (by omega),e1,e2];generalize hq:D P L (.loop [1,3,4] Bj) _=q;obtain ⟨ex,s,rfl,tm,rfl,rfl,t1,t3,hlen⟩:=cW hq (ag3 (P:=P) (L:=L) kI (neg:=neg) hw hd hz (by omega) (l.length-1)) ⟨l.length-1,aD m,by
    rw [show (l.length:Int)-2=((l.length-1:Nat):Int)-1 by omega,wrap64 (by omega) (by omega)]
    simp only [go_sem,ya,yc,aM]<;>rfl,rfl,by omega,by rw [iR];omega,by rw [iR],by omega⟩
   refine ⟨?_,hlen⟩
   cases neg with
   | true=>
    simp only [go_sem,ya,aM,t1,t3,cP,yp,fJ (a:=[45]) (b:=aD (dv l)) (by simp;omega),yR]
   | false=>
    simp only [go_sem,ya,aM,t1,t3,cP,yp];rfl
  obtain ⟨f1,f2⟩:=fin (decide (n<0));rw [kV] at f1 f2;simp only [yaY] at f1;rw [me] at f1;refine ⟨f1,?_⟩;rw [<-me]
  split<;>simp<;>omega
structure Rb (P:aF) (L:Lib):Prop where
 ake:Has P L 262 B2
 rI:Has P L 272 B6
 UL:Has P L 274 Fl
 UM:Has P L 275 Fm
 akf:Has P L 277 rD
 akg:Has P L 280 jR
 UN:Has P L 281 Fp
 Kc:Has P L 282 B7
 UO:Has P L 288 Fs
 Cp:Has P L 289 mB
 nT:Has P L 290 zD
 JZ:Has P L 291 Ca
 kI:Has P L 292 nP
 iz:Has P L 293 o5
 fE:Has P L 294 o6
 J8:Has P L 295 Cb
 jW:Has P L 296 mC
 UP:Has P L 298 Ft
 kJ:Has P L 299 o7
 bZ:Has P L 300 iL
 jy:Has P L 302 mD
structure Wq (P:aF) (L:Lib):Prop extends Rb P L where
 UQ:Has P L 264 B3
 akh:Has P L 268 B5
 an4:Has P L 271 Ug
 aki:Has P L 276 kF
 Cq:Has P L 278 Fo
 akj:Has P L 279 zC
 FG:Has P L 297 Cc
structure Ra (P:aF) (L:Lib):Prop extends Wq P L where
 UR:Has P L 267 B4
end
end
section
open Go (IntKind)
section
variable {P:aF} {L:Lib}
def aev {v w:AV} {a vs:List Int} {f:Int} (hv:aX v a) (hw:aX w vs) {n:Nat} (la:a.length<=9000000000) {A:Nat}:
  ∀k st,(∃us:List Int,bA [0,8,9,10,11] st=⟨[(0,v),(8,.au 0 0 1),(9,w),(10,ab n),(11,.au 1 0 us.length)],[(1,.cells true true false 1 (us.map ab)),(0,.cells false true true 1 [ab f])],2,0⟩/\us.length+k=a.length+1/\dg us/\dv us=A)->
   ∃ex st',D P L (.loop [0,8,9,10,11] Bk) st=some (ex,st')/\∃tm us,st'=⟨tm,[(1,.cells true true false 1 (us.map ab)),(0,.cells false true true 1 [ab f])],2,0⟩/\ex= .exit 0/\ah tm 8= .au 0 0 1/\ah tm 9=w/\ah tm 10=ab n/\ah tm 11= .au 1 0 (a.length+1)/\us.length=a.length+1/\dg us/\dv us=A:=by
 refine dt (I:=fun k st=>∃us:List Int,st=⟨[(0,v),(8,.au 0 0 1),(9,w),(10,ab n),(11,.au 1 0 us.length)],[(1,.cells true true false 1 (us.map ab)),(0,.cells false true true 1 [ab f])],2,0⟩/\us.length+k=a.length+1/\dg us/\dv us=A)
  (Q:=fun ex st'=>∃tm us,st'=⟨tm,[(1,.cells true true false 1 (us.map ab)),(0,.cells false true true 1 [ab f])],2,0⟩/\ex= .exit 0/\ah tm 8= .au 0 0 1/\ah tm 9=w/\ah tm 10=ab n/\ah tm 11= .au 1 0 (a.length+1)/\us.length=a.length+1/\dg us/\dv us=A) ?_
 rintro k st ⟨us,rfl,hk,gu,bi⟩;have ea:((a.length:Nat):Int)+1=((a.length+1:Nat):Int):=rfl;by_cases hi:us.length<a.length+1
 ·left
  simp only [go_sem,ya,yc,ym,yv,Bk,hv.len,ea,wrapN (n:=a.length+1) (by omega),show ((us.length:Nat):Int)<((a.length+1:Nat):Int) by omega]
  rw [jn (ex:=false) (pu:=true) (cs:=us.map ab) (by simp only [go_sem,ya]) (by simp) (by omega) (by omega) (by decide) (by simp only [go_sem])];refine ⟨_,k-1,rfl,by omega,us++[0],?_,by simp;omega,eU.2 ⟨gu,ig.2 (by decide)⟩,by rw [iT];simp [dv,bi]⟩;rw [xm,yW];simp only [go_sem,ya,yc,aM,a6 hv.pu,bc _ hv.pu,a6 hw.pu,bc _ hw.pu]<;>rfl
 ·right
  have hl:us.length=a.length+1:=by omega
  rw [hl]
  simp only [go_sem,ya,Bk,hv.len,ea,wrapN (n:=a.length+1) (by omega),show ¬((a.length+1:Nat):Int)<((a.length+1:Nat):Int) by omega];exact ⟨_,_,rfl,by simp,_,us,rfl,rfl,by simp only [go_sem,ya],by simp only [go_sem,ya],by simp only [go_sem,ya],by simp only [go_sem,ya],hl,gu,bi⟩
end
def Rs:∀l:List Int,bY (l.map ab)=true
 | []=>rfl
 | a::r=>by rw [yP,NH,Rs r];rfl
def Ru:∀l:List Int,az (l.map ab)=true
 | []=>rfl
 | a::r=>by rw [yP,az,Ru r];rfl
def aew {hp:Hp} {ct:Nat} {e:Bool} {us:List Int} {o:Obj} (h:us.length<=100000000000):
  rF ((1,.cells true true true 1 [])::(0,o)::hp) ct 1 8 (.au 1 0 0) (lj ((1,.cells true true true 1 [])::(0,o)::hp) 1 (.aB e us.length (us.map ab)))=some (.au ct 0 us.length,(ct,.cells true true false 1 (us.map ab))::cw ((1,.cells true true true 1 [])::(0,o)::hp) 1,ct+1):=by
 have h1:lj ((1,.cells true true true 1 [])::(0,o)::hp) 1 (.aB e us.length (us.map ab))=some (us.length,us.map ab):=by
  simp [lj]
 rw [h1,jn (cs:=[]) (pu:=true) (ex:=true) rfl (by simp) (by omega) (by omega) (by decide) (Rs us),Ru,yp];rfl
def ag4 {l:List Int} (hd:dg l) (hn:nz l) (h:0<l.length):1000000000^(l.length-1)<=dv l:=EW hn hd (fun e=>by subst e;simp at h)
def ace {n top f V:Nat} (hf:f=1000000000/(top+1)) (ht0:0<top) (ht:top<1000000000) (h1:V<1000000000^(n-1)*(top+1)) (hn:0<n):0<f/\f<1000000000/\V*f<1000000000^n:=by
 have h2:f*(top+1)<=1000000000:=by rw [hf];exact Nat.div_mul_le_self _ _
 have h3:0<f:=by rw [hf];exact Nat.div_pos (by omega) (by omega)
 refine ⟨h3,?_,?_⟩
 ·have:=xn f (show 2<=top+1 by omega)
  omega
 ·have e1:=ue h1 h3;have e2:=xn (1000000000^(n-1)) h2;rw [<-xq,show (n-1).succ=n by omega] at e2
  grind
section
variable {P:aF} {L:Lib}
def ag5 (h:Has P L 289 mB) (iz:Has P L 293 o5) (kJ:Has P L 299 o7) (bZ:Has P L 300 iL) (lH:Has P L 301 nQ) {v w:AV} {a b:List Int} (hv:aX v a) (hw:aX w b) (ha:dg a) (hb:dg b) (na:nz a) (nb:nz b) (la:a.length<=8000000000) (lb:2<=b.length) (ec:aj P L 296 [v,w] (ab (gl (dv a) (dv b)))) (hc:dv b<=dv a):
  ∃q r lq lr,aj P L 289 [v,w] (.aw [q,r])/\aX q lq/\aX r lr/\dg lq/\nz lq/\dg lr/\nz lr/\dv lq=dv a/dv b/\dv lr=dv a%dv b:=by
 have fG:¬gl (dv a) (dv b)<0:=by unfold gl;rw [yE (by omega)];split<;>decide
 have aiD:=ag4 hb nb (by omega);have hba:b.length<=a.length:=by
  have:=gG ha
  have h1:1000000000^(b.length-1)<1000000000^a.length:=by omega
  have:=(uq (show 1<1000000000 by decide)).1 h1
  omega
 obtain ⟨n,hn⟩:∃n,n=b.length:=⟨_,rfl⟩;have akk:=fe hb (n-1);have S7:=last_pos hb nb (by omega);rw [<-hn] at S7;obtain ⟨top,rL⟩:∃v:Nat,b.getD (n-1) 0=v:=⟨(b.getD (n-1) 0).toNat,by omega⟩;have US:=lB hw (i:=n-1) (by omega);rw [rL] at akk S7 US;have hbt:=kw (l:=b) (n-1);rw [show n-1+1=n by omega,List.take_of_length_le (by omega),rL,xV] at hbt;have aiE:=gG (qC hb (n-1));rw [yN,Nat.min_eq_left (by omega)] at aiE;obtain ⟨f,hf⟩:∃f,f=1000000000/(top+1):=⟨_,rfl⟩;obtain ⟨sj,Wr,hfV⟩:=ace (n:=n) (V:=dv b) hf (by omega) (by omega) (by rw [xY,yv];omega) (by omega);have Ws:aX (.aB true 1 [ab f]) [(f:Int)]:=gC true [(f:Int)];have gf:dg [(f:Int)]:=ig.2 (by omega);have vf:dv [(f:Int)]=f:=by simp [dv]
 obtain ⟨v',vs,e1,jC,hsv,GM,Wt,C7⟩:=J7 iz bZ hw Ws hb gf (by omega) (by simp);obtain ⟨u',pX,e2,hu',sb,Wu,nus,C8⟩:=J7 iz bZ hv Ws ha gf (by omega) (by simp);rw [vf] at C7 C8;have oe:0<dv b:=by have:=yaU (n:=b.length-1) (show 0<1000000000 by decide);omega
 have Ls:vs.length=n:=by
  have h1:vs.length<=n:=fY GM Wt (by rw [C7];exact hfV)
  have h2:dv b<=dv vs:=by rw [C7];exact Nat.le_mul_of_pos_right _ sj
  have h3:=gG GM;have h4:1000000000^(n-1)<1000000000^vs.length:=by rw [hn];omega
  have:=(uq (show 1<1000000000 by decide)).1 h4
  omega
 have lus:pX.length<=a.length+1:=by
  refine fY Wu nus ?_;rw [C8,xq];exact tT (gG ha) Wr
 have UT:0<pX.length:=by
  rcases xv pX.length with e | e
  ·have h1:0<dv a*f:=yaD (by omega) sj;rw [yB e] at C8;simp only [dv] at C8;omega
  ·exact e
 have eO:0<vs.getD (n-1) 0:=by
  have:=last_pos GM Wt (by omega)
  rwa [Ls] at this
 obtain ⟨m,hm⟩:∃m,m=a.length+1-n:=⟨_,rfl⟩;have b7:∀ct:Nat,o9 ct 1 8 [.int .i64 0] (some m) (some m)=some (.au ct 0 m,.cells true true true 1 ((yu m (0:Int)).map ab)):=fun ct=>by
  rw [Bt (sz:=1) (by omega) (by omega) (by rfl) (by rfl),Hl];rfl
 obtain ⟨e,rfl⟩:∃e,u'= .aB e pX.length (pX.map ab):=by
  rcases hu' with ⟨rfl,h0⟩ | ⟨e,rfl⟩
  ·rw [List.map_eq_nil_iff] at h0;rw [h0] at UT;simp at UT
  ·exact ⟨e,by rw [yL]⟩
 have aiF:∀us:List Int,us.length=a.length+1->dv us=dv a*f->dv (us.drop m)<dv vs:=fun us hl hd=>by
  have e1:=Im us m (by omega);have e2:=gG ha;have e3:=ue e2 sj;have e4:1000000000^a.length=1000000000^m*1000000000^(n-1):=by rw [<-Nat.pow_add];congr 1;omega
  rw [<-hd,e4,xZ] at e3;have e5:1000000000^m*dv (us.drop m)<1000000000^m*(1000000000^(n-1)*f):=by omega
  refine yU (Nat.lt_of_mul_lt_mul_left e5) ?_;rw [C7,hn];exact Nat.mul_le_mul_right _ aiD
 have rJ:∃us qs,(us.length=a.length+1/\qs.length=m/\dg us/\dg qs/\dv us+dv qs*dv vs=dv a*f/\dv us<dv vs)/\
   ∃q1 r1 lr,aX q1 (cX qs)/\aX r1 lr/\dg lr/\nz lr/\dv lr=dv (us.take n)/f/\aj P L 289 [v,w] (.aw [q1,r1]):=by
  unfold aj at ec e1 e2;unfold aj;rw [aR h];have Kd:IntKind.wrap .i64 ((1000000000:Int).tdiv ((top+1:Nat):Int))=(f:Int):=by
   rw [xB (by decide),show (1000000000:Int)/((top+1:Nat):Int)=((1000000000/(top+1):Nat):Int) from rfl,<-hf,wrap64 (by omega) (by omega)]
  simp only [go_sem,ya,yc,yV,ym,yv,mB,hv.aE,hw.len,hw.aE,ec,fG,show ¬(n:Int)=1 by omega,<-hn,show (n:Int)-1=((n-1:Nat):Int) by omega,wrapN (n:=n-1) (by omega),US,show ((top:Nat):Int)+1=((top+1:Nat):Int) from rfl,wrapN (n:=top+1) (by omega),dX _ _ _ (show ((top+1:Nat):Int)≠0 by omega),Kd,e1,hsv,jC.len,Ls,e2,sb,aew (us:=pX) (e:=e) (by omega)];generalize hq0:D P L (.loop [0,8,9,10,11] Bk) _=q0;obtain ⟨ex,st,rfl,tm,us,rfl,rfl,t8,t9,t10,t11,lu,gu,vu⟩:=cW hq0 (aev (P:=P) (L:=L) (f:=(f:Int)) (n:=n) (A:=dv a*f) hv jC (by omega) (a.length+1-pX.length)) ⟨pX,by
   simp only [go_sem,ya,yc,aM,a6 hv.pu,bc _ hv.pu,a6 jC.pu,bc _ jC.pu]<;>rfl,by omega,Wu,C8⟩
  have em:((a.length+1:Nat):Int)-(n:Int)=(m:Int):=by omega
  have em1:(m:Int)-1=((m-1:Nat):Int):=by omega
  simp only [go_sem,ya,yc,aM,a6 jC.pu,bc _ jC.pu,t8,t9,t10,t11,em,wrapN (n:=m) (by omega),b7,em1,wrapN (n:=m-1) (by omega)];generalize kU:D P L (.loop [8,9,10,11,12,13] Bm) _=q1;obtain ⟨ex,st,rfl,mH,pY,qs,rfl,rfl,t8,t10,t11,t12,lu1,GN,Wv,gq1,bi,aV⟩:=cW kU (aeu (P:=P) (L:=L) lH (f:=(f:Int)) jC GM Ls (by omega) (show n<a.length+1 by omega) (by omega) (by omega) eO (U0:=dv a*f) m) ⟨m,us,yu m 0,by
   rw [show ((m-1:Nat):Int)=(m:Int)-1 by omega]
   simp only [go_sem,ya,yc,aM,a6 jC.pu,bc _ jC.pu]<;>rfl,rfl,yC _,lu,by simp,gu,Ox m,fun i _=>M3 m i,by rw [Ow,Nat.zero_mul,xH,vu],aiF us lu vu⟩
  have pg:∀(hp:Hp) tm (y:X),ak hp 1=some (.cells true true false 1 (pY.map ab))->cR tm (a.length+1) (some y)=some n->fu hp (.sl 1) (.au 1 0 (a.length+1)) tm none (some y)=some (.au 1 0 n):=fun hp tm y h1 h2=>ab9 h1 h2 (by omega) (by omega)
  obtain ⟨e',hfp⟩:∃e',∀hp:Hp,jT 0 n (some (false,1,pY.map ab,hp))=some (.aB e' n ((pY.take n).map ab),hp):=by
   refine ⟨false&&Nat.blt 0 1&&Nat.beq n (pY.map ab).length,fun hp=>?_⟩;simp only [jT,yp,yv,slice,vc,<-List.map_take];rw [Nat.ble_eq_true_of_le (by simp;omega)];rfl
  have ltk:(pY.take n).length=n:=by rw [yN];omega
  have ia:=gC e' (pY.take n);rw [ltk] at ia;obtain ⟨r0,f1,n7,akl⟩:=pf bZ ia (by omega);obtain ⟨r1,lr,f2,cz,an5,aiG,dr,nr,vr⟩:=UF kJ bZ n7 (oE (qC Wv n)) (by have:=DI (pY.take n);omega) sj Wr;have Ww:=gC true qs;rw [GN] at Ww;obtain ⟨q1,f3,kU,akm⟩:=pf bZ Ww (by omega);rw [nj] at vr;unfold aj at f1 f2 f3;refine ⟨pY,qs,⟨lu1,GN,Wv,gq1,bi,aV⟩,q1,r1,lr,kU,cz,dr,nr,vr,?_⟩;have Gw:fw 1 0 (AV.au 0 0 1)=some (.ptr 0 0):=fX 0 0 (show 0<1 by omega)
  simp only [go_sem,ya,yc,aM,t8,t10,t11,t12,pg,dH,hfp,f1,akl,n7.aE,Gw,f2,aiG,fun hp=>jl (hp:=hp) (k:=m) (sz:=1) (cs:=qs.map ab) true (by simp [GN]) (by decide),f3,akm];rcases kU with ⟨rfl,_⟩ | ⟨_,rfl⟩<;>rcases cz with ⟨rfl,_⟩ | ⟨_,rfl⟩<;>rfl
 obtain ⟨us,qs,⟨lu,lq,gu,gq,bi,aV⟩,q1,r1,lr,kU,cz,dr,nr,vr,e⟩:=rJ;rw [C7] at bi aV;have Kd:dv qs=dv a/dv b:=by
  rw [<-Nat.mul_div_mul_right _ _ sj,<-bi,yaI,uJ,Nat.mul_add_div (yaD oe sj),tR aV,xH]
 have hus:dv us=(dv a%dv b)*f:=by
  rw [<-Nat.mul_mod_mul_right,<-bi,yaI,uJ (dv qs),Nat.mul_add_mod,vE aV]
 have jN:=Im us n (by omega);have se:dv (us.drop n)=0:=by
  rcases xv (dv (us.drop n)) with h0 | h0
  ·exact h0
  ·have:=xn (1000000000^n) h0
   omega
 rw [se,wz,xH] at jN;rw [<-jN,hus,Nat.mul_div_cancel _ sj] at vr;exact ⟨q1,r1,_,lr,e,kU,cz,oE gq,sR _,dr,nr,by rw [nj,Kd],vr⟩
def S8 (h:Has P L 289 mB) (iz:Has P L 293 o5) (jW:Has P L 296 mC) (kJ:Has P L 299 o7) (bZ:Has P L 300 iL) (lH:Has P L 301 nQ) {v w:AV} {a b:List Int} (hv:aX v a) (hw:aX w b) (ha:dg a) (hb:dg b) (na:nz a) (nb:nz b) (la:a.length<=8000000000) (lb:b.length<=8000000000) (h0:0<dv b):
  ∃q r lq lr,aj P L 289 [v,w] (.aw [q,r])/\aX q lq/\aX r lr/\dg lq/\nz lq/\dg lr/\nz lr/\dv lq=dv a/dv b/\dv lr=dv a%dv b:=by
 by_cases hl:b.length<=1
 ·exact ajZ h jW kJ bZ hv hw ha hb na nb (by omega) hl h0
 have ec:=J6 jW hv hw ha hb na nb (by omega) (by omega);by_cases hc:dv a<dv b
 ·unfold aj at ec;have fG:gl (dv a) (dv b)= -1:=by unfold gl;rw [yS hc]
  rw [fG] at ec;refine ⟨.aa,v,[],a,?_,ni,hv,rfl,rfl,ha,na,?_,?_⟩
  ·unfold aj;rw [aR h];simp only [go_sem,ya,mB,hv.aE,hw.aE,ec,show (-1:Int)<0 by decide];rcases hv with ⟨rfl,_⟩ | ⟨e,rfl⟩<;>rfl
  ·rw [tR hc];rfl
  ·rw [vE hc]
 ·exact ag5 h iz kJ bZ lH hv hw ha hb na nb la (by omega) ec (by omega)
def S9 (h:Has P L 275 Fm) (Cp:Has P L 289 mB) (iz:Has P L 293 o5) (jW:Has P L 296 mC) (kJ:Has P L 299 o7) (bZ:Has P L 300 iL) (lH:Has P L 301 nQ) {v w:AV} {a b:List Int} (hv:aX v a) (hw:aX w b) (ha:dg a) (hb:dg b) (na:nz a) (nb:nz b) (la:a.length<=8000000000) (lb:b.length<=8000000000):
  ∃r l,aj P L 275 [v,w] r/\aX r l/\dg l/\nz l/\dv l=wb (dv a) (dv b):=by
 have key:=dt (P:=P) (L:=L) (live:=[0,1]) (a:=Bi)
  (I:=fun k st=>∃x y lx ly,st=⟨[(0,x),(1,y)],[],0,0⟩/\aX x lx/\aX y ly/\dg lx/\nz lx/\dg ly/\nz ly/\lx.length<=8000000000/\ly.length<=8000000000/\dv ly=k/\wb (dv lx) (dv ly)=wb (dv a) (dv b))
  (Q:=fun ex st=>∃tm ct,st=⟨tm,[],ct,0⟩/\ex= .exit 0/\∃x lx,ah tm 0=x/\aX x lx/\dg lx/\nz lx/\dv lx=wb (dv a) (dv b)) ?_
 ·unfold aj;rw [aR h];simp only [go_sem,Fm];generalize hq:D P L (.loop [0,1] Bi) _=q;obtain ⟨ex,st,rfl,tm,ct,rfl,rfl,x,lx,h2,hx,dx,nx,vx⟩:=cW hq (key (dv b)) ⟨v,w,a,b,by simp only [go_sem,ya,aM,a6 hv.pu,bc _ hv.pu,a6 hw.pu,bc _ hw.pu]<;>rfl,hv,hw,ha,na,hb,nb,la,lb,rfl,rfl⟩
  refine ⟨x,lx,?_,hx,dx,nx,vx⟩;simp only [go_sem,aM,h2,hx.dI,a6 hx.pu,bc _ hx.pu]
 ·rintro k st ⟨x,y,lx,ly,rfl,hx,hy,dx,nx,dy,ny,llx,Wx,rfl,hg⟩;by_cases h0:ly=[]
  ·right
   subst h0;simp only [go_sem,ya,Bi,hy.len,yZ,show ¬(0:Int)<((0:Nat):Int) by omega];refine ⟨_,_,rfl,by simp,_,_,rfl,rfl,x,lx,by simp only [go_sem,ya],hx,dx,nx,?_⟩;rw [<-hg];simp [dv]
  ·left
   have hp:0<dv ly:=by
    rcases xv (dv ly) with e | e
    ·exact absurd (Py ny dy e) h0
    ·exact e
   have hl:0<ly.length:=uU.2 h0;obtain ⟨q,r,lq,lr,e1,hq,hr,dq,nq,dr,nr,vq,vr⟩:=S8 Cp iz jW kJ bZ lH hx hy dx dy nx ny llx Wx hp;have aV:dv lr<dv ly:=by rw [vr];exact Nat.mod_lt _ hp
   have hB:=gG dy;simp only [go_sem,ya,Bi,hx.aE,hy.len,hy.aE,show (0:Int)<ly.length by omega,e1,hq.bW,hr.bW];refine ⟨_,dv lr,rfl,aV,y,r,ly,lr,?_,hy,hr,dy,ny,dr,nr,by omega,xz (fY dr nr (Nat.lt_trans aV hB)) Wx,rfl,?_⟩
   ·simp only [go_sem,ya,aM,a6 hy.pu,bc _ hy.pu,a6 hr.pu,bc _ hr.pu]<;>rfl
   ·rw [<-hg,vr,vH (dv ly),<-Nat.gcd_rec,vH]
end
end
section
open Go (IntKind)
section
variable {P:aF} {L:Lib}
def ag6 (nT:Has P L 290 zD) {neg:Bool} {N:Nat} (hN:(aD N).length<=180000000000):
  ∀k s,(∃(i m:Nat) (out:List Int),m=k/\out.length=i/\dg out/\dv out+1000000000^i*m=N/\(aD m).length+9*i<=180000000000/\
    ((i=0/\bA [0,2,3,4] s=⟨[(0,.str (aD m)),(2,.ptr 0 0),(3,.bool neg),(4,.aa)],[(0,.cells true true true 2 [.bool false,.aa])],1,0⟩)\/
    (0<i/\bA [0,2,3,4] s=⟨[(0,.str (aD m)),(2,.ptr 0 0),(3,.bool neg),(4,.au 1 0 i)],[(1,.cells true true false 1 (out.map ab)),(0,.cells true true true 2 [.bool false,.aa])],2,0⟩)))->
   ∃ex s',D P L (.loop [0,2,3,4] nB) s=some (ex,s')/\∃tm i m out,ex= .exit 0/\m<1000000000/\out.length=i/\dg out/\dv out+1000000000^i*m=N/\i<20000000000/\ah tm 0= .str (aD m)/\ah tm 2= .ptr 0 0/\ah tm 3= .bool neg/\
    ((i=0/\ah tm 4= .aa/\s'=⟨tm,[(0,.cells true true true 2 [.bool false,.aa])],1,0⟩)\/(0<i/\ah tm 4= .au 1 0 i/\s'=⟨tm,[(1,.cells true true false 1 (out.map ab)),(0,.cells true true true 2 [.bool false,.aa])],2,0⟩)):=by
 refine dt (I:=fun k s=>∃(i m:Nat) (out:List Int),m=k/\out.length=i/\dg out/\dv out+1000000000^i*m=N/\(aD m).length+9*i<=180000000000/\
    ((i=0/\s=⟨[(0,.str (aD m)),(2,.ptr 0 0),(3,.bool neg),(4,.aa)],[(0,.cells true true true 2 [.bool false,.aa])],1,0⟩)\/
    (0<i/\s=⟨[(0,.str (aD m)),(2,.ptr 0 0),(3,.bool neg),(4,.au 1 0 i)],[(1,.cells true true false 1 (out.map ab)),(0,.cells true true true 2 [.bool false,.aa])],2,0⟩)))
  (Q:=fun ex s'=>∃tm i m out,ex= .exit 0/\m<1000000000/\out.length=i/\dg out/\dv out+1000000000^i*m=N/\i<20000000000/\ah tm 0= .str (aD m)/\ah tm 2= .ptr 0 0/\ah tm 3= .bool neg/\
    ((i=0/\ah tm 4= .aa/\s'=⟨tm,[(0,.cells true true true 2 [.bool false,.aa])],1,0⟩)\/(0<i/\ah tm 4= .au 1 0 i/\s'=⟨tm,[(1,.cells true true false 1 (out.map ab)),(0,.cells true true true 2 [.bool false,.aa])],2,0⟩))) ?_
 rintro k s ⟨i,m,out,rfl,hlen,hd,bi,hl,hs⟩;by_cases hm:1000000000<=m
 ·left
  obtain ⟨q,hq⟩:∃q,q=m/1000000000:=⟨_,rfl⟩;obtain ⟨r,hr⟩:∃r,r=m%1000000000:=⟨_,rfl⟩;have pg:=ab5 hm;rw [<-hq,<-hr] at pg;have mL:=Ih 9 r;have hqp:=qw q;have hlm:(aD m).length=(aD q).length+9:=by rw [pg,yW,mL]
  have c1:fP (aD m) (some (aD q).length) (some (aD m).length)=some (.str (gm 9 r)):=by
   rw [jo (by omega) (yC _),wK,pg,uO]
  have c2:fP (aD m) (some 0) (some (aD q).length)=some (.str (aD q)):=by
   rw [jo (by omega) (by omega),vc,pg,yaa]
  have e1:=Cl nT (s:=gm 9 r) (v:=r) (by omega) (by rw [OA 9 r 0 (by omega)];simp)
  unfold aj at e1;have lG:dg (out++[(r:Int)]):=eU.2 ⟨hd,ig.2 (by omega)⟩;have E0:dv (out++[(r:Int)])+1000000000^(i+1)*q=N:=by
   rw [iT,hlen,<-bi,xq];have e:=tY m 1000000000;rw [<-hr,<-hq] at e;rw [<-e];simp only [dv,xV,wz,xH,xY,xZ];omega
  have E6:((aD m).length:Int)-9=((aD q).length:Int):=by omega
  rcases hs with ⟨h0,rfl⟩ | ⟨h0,rfl⟩
  ·subst h0;have fQ:out=[]:=yB hlen;subst fQ
   simp only [go_sem,ya,yc,xR,yV,ym,yv,nB,show (9:Int)<((aD m).length:Int) by omega,E6,wrapN (n:=(aD q).length) (by omega),dM,ei,dH,c1,c2,e1,jH];refine ⟨_,q,rfl,by omega,1,q,[]++[(r:Int)],rfl,rfl,lG,E0,by omega,.inr ⟨by omega,?_⟩⟩;rfl
  ·simp only [go_sem,ya,yc,ym,yv,nB,show (9:Int)<((aD m).length:Int) by omega,E6,wrapN (n:=(aD q).length) (by omega),dM,ei,dH,c1,e1]
   rw [jn (ex:=false) (pu:=true) (cs:=out.map ab) (by simp only [go_sem,ya]) (by rw [yL,hlen,yv]) (by omega) (by omega) (by decide) (by simp only [go_sem])]
   simp only [go_sem,ya,yc,dM,ei,dH,E6,wrapN (n:=(aD q).length) (by omega),c2];refine ⟨_,q,rfl,by omega,i+1,q,out++[(r:Int)],rfl,by simp [hlen],lG,E0,by omega,.inr ⟨by omega,?_⟩⟩;rw [xm];simp only [go_sem,ya,yc,aM]<;>rfl
 ·right
  have h9:(aD m).length<=9:=oF (k:=8) (by omega);have hp0:=qw m;rcases hs with ⟨h0,rfl⟩ | ⟨h0,rfl⟩
  ·simp only [go_sem,nB,show ¬(9:Int)<((aD m).length:Int) by omega];exact ⟨_,_,rfl,by simp,_,i,m,out,rfl,by omega,hlen,hd,bi,by omega,by simp only [go_sem,ya],by simp only [go_sem,ya],by simp only [go_sem,ya],.inl ⟨h0,by simp only [go_sem,ya],rfl⟩⟩
  ·simp only [go_sem,nB,show ¬(9:Int)<((aD m).length:Int) by omega];exact ⟨_,_,rfl,by simp,_,i,m,out,rfl,by omega,hlen,hd,bi,by omega,by simp only [go_sem,ya],by simp only [go_sem,ya],by simp only [go_sem,ya],.inr ⟨h0,by simp only [go_sem,ya],rfl⟩⟩
end
end
section
open Go (IntKind)
section
variable {P:aF} {L:Lib}
def UU (h:Rb P L) {n:Int} (hn:(aD n.natAbs).length<=180000000000):∃r,aj P L 288 [.str (bE n)] r/\gP r n:=by
 obtain ⟨u,hu⟩:∃u,u=aD n.natAbs:=⟨_,rfl⟩;obtain ⟨b,t,hb,pM,Gv⟩:=DL n.natAbs;have hs:bE n=(if n<0 then [45] else [])++u:=by rw [hu,me]
 have Aj:0<u.length:=by rw [hu];exact qw _
 have lQ:u[0]=b:=by
  have:u=b::t:=by rw [hu,hb]
  simp [this]
 have key:∀(s:St),bA [0,2,3,4] s=⟨[(0,.str u),(2,.ptr 0 0),(3,.bool (decide (n<0))),(4,.aa)],[(0,.cells true true true 2 [.bool false,.aa])],1,0⟩->
   ∃ex s',D P L (.loop [0,2,3,4] nB) s=some (ex,s')/\∃tm i m out,ex= .exit 0/\m<1000000000/\out.length=i/\dg out/\dv out+1000000000^i*m=n.natAbs/\i<20000000000/\ah tm 0= .str (aD m)/\ah tm 2= .ptr 0 0/\ah tm 3= .bool (decide (n<0))/\
    ((i=0/\ah tm 4= .aa/\s'=⟨tm,[(0,.cells true true true 2 [.bool false,.aa])],1,0⟩)\/(0<i/\ah tm 4= .au 1 0 i/\s'=⟨tm,[(1,.cells true true false 1 (out.map ab)),(0,.cells true true true 2 [.bool false,.aa])],2,0⟩)):=fun s hc=>
  ag6 (P:=P) (L:=L) h.nT (neg:=decide (n<0)) hn n.natAbs s ⟨0,n.natAbs,[],rfl,rfl,rfl,by simp [dv],by omega,.inl ⟨rfl,by rw [hc,hu]⟩⟩
 have fin:∀(i m:Nat) (out:List Int),m<1000000000->out.length=i->dg out->dv out+1000000000^i*m=n.natAbs->i<20000000000->∃w l,b5 P L (D P L) 294 [.bool (decide (n<0)),.aB false (i+1) ((out++[(m:Int)]).map ab)]=some (.agg [.bool (decide (n<0)),w])/\aX w l/\dg l/\nz l/\dv l=n.natAbs:=fun i m out h1 h2 h3 h4 h5=>by
  have hv:=gC false (out++[(m:Int)]);have hd:dg (out++[(m:Int)]):=eU.2 ⟨h3,ig.2 (by omega)⟩;have bi:dv (out++[(m:Int)])=n.natAbs:=by rw [iT,h2];simp [dv];exact h4
  obtain ⟨r,e,hr⟩:=lF h.fE h.bZ (decide (n<0)) hv hd (by simp;omega);have Lt:fp (decide (n<0)) (dv (out++[(m:Int)]))=n:=by
   rw [bi];unfold fp;by_cases h0:n<0
   ·simp only [h0,yz,yR];omega
   ·simp only [h0,yD,yq,yM];omega
  rw [Lt] at hr;obtain ⟨w,l,rfl,hw,gM,fR,cT⟩:=hr;simp only [yW,List.length_singleton,h2] at e;exact ⟨w,l,e,hw,gM,fR,cT⟩
 unfold aj;rw [hs];by_cases h0:n<0
 ·rw [yS h0,aR h.UO];have kS:fP (45::u) (some 1) (some (u.length+1))=some (.str u):=by rw [jo (s:=45::u) (l:=1) (h:=u.length+1) (by omega) (by simp)];simp
  simp only [h0,yz] at key fin ⊢;simp only [go_sem,ya,yc,Fs,bL,show (0:Int)<((u.length+1:Nat):Int) by omega,yH,xu,rH,yz,dM,ei,dH,kS];generalize hq:D P L (.loop [0,2,3,4] nB) _=q;obtain ⟨ex,s,rfl,tm,i,m,out,rfl,hm,hlen,hd,bi,hi,t0,t2,t3,rh⟩:=cW hq key (by simp only [go_sem,ya,yc,aM]<;>rfl)
  have e1:=Cl h.nT (s:=aD m) (v:=m) (by have:=oF (k:=8) (n:=m) (by omega);omega) (oA m);have dj:i<20000000000:=hi;obtain ⟨w,l,e2,hw,gM,fR,cT⟩:=fin i m out hm hlen hd bi dj;refine ⟨_,?_,w,l,rfl,hw,gM,fR,cT⟩;unfold aj at e1;rcases rh with ⟨pZ,t4,rfl⟩ | ⟨pZ,t4,rfl⟩
  ·subst pZ;have fQ:out=[]:=yB hlen;subst fQ;have ia:∀hp:Hp,jT 0 1 (some (false,1,[AV.int .i64 (m:Int)],hp))=some (.aB false 1 [AV.int .i64 (m:Int)],hp):=fun hp=>rfl
   simp only [xu,yP,wc,yp] at e2;simp only [go_sem,ya,yc,xR,yV,ym,yv,aM,t0,t2,t3,t4,e1,jH,ia,e2,cI,hw.pu,hw.one,eL];rcases hw with ⟨rfl,_⟩ | ⟨e,rfl⟩<;>simp only [h0,yz]<;>rfl
  ·simp only [go_sem,ya,yc,ym,yv,aM,t0,t2,t3,t4,e1]
   rw [jn (ex:=false) (pu:=true) (cs:=out.map ab) (by simp only [go_sem,ya]) (by rw [yL,hlen,yv]) (by omega) (by omega) (by decide) (by simp only [go_sem])];have ia:∀hp:Hp,jT 0 (i+1) (some (false,1,out.map ab++[AV.int .i64 (m:Int)],hp))=some (.aB false (i+1) (out.map ab++[AV.int .i64 (m:Int)]),hp):=fun hp=>jl false (by simp [hlen]) (by decide)
   simp only [xm,yP,wc] at e2;simp only [go_sem,ya,yc,ia,e2,cI,hw.pu,hw.one,eL,u5];rcases hw with ⟨rfl,_⟩ | ⟨e,rfl⟩<;>simp only [h0,yz]<;>rfl
 ·rw [yE h0,aR h.UO,xu];simp only [h0,yD] at key fin ⊢;simp only [go_sem,ya,yc,Fs,bL,show (0:Int)<(u.length:Int) by omega,ll Aj,lQ,show ¬((b:Nat):Int)=45 by omega];generalize hq:D P L (.loop [0,2,3,4] nB) _=q;obtain ⟨ex,s,rfl,tm,i,m,out,rfl,hm,hlen,hd,bi,hi,t0,t2,t3,rh⟩:=cW hq key (by simp only [go_sem,ya,yc,aM]<;>rfl)
  have e1:=Cl h.nT (s:=aD m) (v:=m) (by have:=oF (k:=8) (n:=m) (by omega);omega) (oA m);have dj:i<20000000000:=hi;obtain ⟨w,l,e2,hw,gM,fR,cT⟩:=fin i m out hm hlen hd bi dj;refine ⟨_,?_,w,l,rfl,hw,gM,fR,cT⟩;rcases rh with ⟨pZ,t4,rfl⟩ | ⟨pZ,t4,rfl⟩
  ·subst pZ;have fQ:out=[]:=yB hlen;subst fQ;have ia:∀hp:Hp,jT 0 1 (some (false,1,[AV.int .i64 (m:Int)],hp))=some (.aB false 1 [AV.int .i64 (m:Int)],hp):=fun hp=>rfl
   simp only [xu,yP,wc,yp] at e2;simp only [go_sem,ya,yc,xR,yV,ym,yv,aM,t0,t2,t3,t4,e1,jH,ia,e2,cI,hw.pu,hw.one,eL];rcases hw with ⟨rfl,_⟩ | ⟨e,rfl⟩<;>simp only [h0,yD]<;>rfl
  ·simp only [go_sem,ya,yc,ym,yv,aM,t0,t2,t3,t4,e1]
   rw [jn (ex:=false) (pu:=true) (cs:=out.map ab) (by simp only [go_sem,ya]) (by rw [yL,hlen,yv]) (by omega) (by omega) (by decide) (by simp only [go_sem])];have ia:∀hp:Hp,jT 0 (i+1) (some (false,1,out.map ab++[AV.int .i64 (m:Int)],hp))=some (.aB false (i+1) (out.map ab++[AV.int .i64 (m:Int)]),hp):=fun hp=>jl false (by simp [hlen]) (by decide)
   simp only [xm,yP,wc] at e2;simp only [go_sem,ya,yc,ia,e2,cI,hw.pu,hw.one,eL,u5];rcases hw with ⟨rfl,_⟩ | ⟨e,rfl⟩<;>simp only [h0,yD]<;>rfl
end
end
section
open Go (IntKind)
def Mk (n:Int) (r:List Nat):bV (bE n++r)=(bE n).length+bV r:=by
 rw [<-me]
 split
 ·simp only [yH,xu,bV,yx];rw [yE (by decide),AD r (qj _)];omega
 ·rw [xu];exact AD r (qj _)
def Io:∀{a b:List Nat},dA a b=true->a=b
 | [],[],_=>rfl
 | [],_::_,h=>by simp [dA] at h
 | _::_,[],h=>by simp [dA] at h
 | x::a,y::b,h=>by
  simp only [dA,Bool.and_eq_true] at h;rw [Nat.eq_of_beq_eq_true h.1,Io h.2]
def Ta {n:Int} {d:Nat} (h:n≠0):dA (TT n d) [48]=false:=by
 cases hb:dA (TT n d) [48] with
 | false=>rfl
 | true=>
  have e:=Io hb;unfold TT at e;by_cases h0:n<0
  ·rw [qv h0] at e;simp at e
  ·obtain ⟨m,rfl⟩:∃m:Nat,n=m:=⟨n.toNat,by omega⟩;rw [oG] at e;obtain ⟨b,r,db,_,_⟩:=DL m;rw [db] at e;simp only [yH,List.cons.injEq,List.append_eq_nil_iff] at e;have hv:=oA m;rw [db,e.1,e.2.1] at hv
   have:(some 0:Option Nat)=some m:=hv
   grind
section
variable {P:aF} {L:Lib}
def ag7 (h:Rb P L):∃r,aj P L 281 [ab 1] r/\gP r 1:=by
 obtain ⟨r,e,hr⟩:=lF h.fE h.bZ false (gC false [(1:Int)]) (by decide) (by decide);obtain ⟨w,l,rfl,hw,hd,hz,hv⟩:=hr;refine ⟨_,?_,w,l,rfl,hw,hd,hz,hv⟩;simp only [yP,wc,yx,yZ,yp] at e;have ia:∀hp:Hp,jT 0 1 (some (false,1,[AV.int .i64 1],hp))=some (.aB false 1 [AV.int .i64 1],hp):=fun hp=>rfl
 unfold aj at e ⊢;rw [aR h.UN];simp only [go_sem,ya,yc,xR,yV,ym,yv,Fp,bL,Int.reduceLT,yD,I3,aM,ml,Int.reduceEq,xE,yQ,yz,eJ _ _ _ (show (1000000000:Int)≠0 by decide),dX _ _ _ (show (1000000000:Int)≠0 by decide),show Int.tmod 1 1000000000=1 from rfl,show Int.tdiv 1 1000000000=0 from rfl,show IntKind.wrap .i64 0=0 from rfl,jH,ia,e,hw.pu,hw.one,cI,eL];rcases hw with ⟨rfl,_⟩ | ⟨e,rfl⟩<;>rfl
def UW (h:Rb P L) {n:Int} {d:Nat} (hn:(aD n.natAbs).length<=144000000000) (hd:(aD d).length<=144000000000):
  ∃x y,aj P L 274 [.str (TT n d)] (.aw [x,y])/\gP x n/\gP y d:=by
 obtain ⟨x,e1,hx⟩:=UU h (n:=n) (by omega);have hli:(bE n).length<=(aD n.natAbs).length+1:=by rw [<-me];split<;>simp
 by_cases h1:d=1
 ·subst h1;obtain ⟨y,e2,hy⟩:=ag7 h;have hT:TT n 1=bE n:=by unfold TT;simp
  have hs:=Mk n [];rw [List.append_nil] at hs;have e3:=Cj h.rI (s:=bE n) (by omega);rw [hs] at e3;refine ⟨x,y,?_,hx,hy⟩;obtain ⟨xw,xl,rfl,dl,_,_,_⟩:=hx;obtain ⟨yw,yl,rfl,dn,_,_,_⟩:=hy;rw [hT];unfold aj at e1 e2 e3 ⊢;rw [aR h.UL];simp only [go_sem,ya,yc,Fl,bL,e3,bV,xH,yz,e1,e2,cI,dl.pu,dl.one,dn.pu,dn.one,eL];rcases dl with ⟨rfl,_⟩ | ⟨e,rfl⟩<;>rcases dn with ⟨rfl,_⟩ | ⟨e',rfl⟩<;>rfl
 ·obtain ⟨y,e2,hy⟩:=UU h (n:=(d:Int)) (by simp;omega);rw [oG] at e2;obtain ⟨s,Wy⟩:∃s,s=TT n d:=⟨_,rfl⟩;have hT:s=bE n++47::aD d:=by rw [Wy];unfold TT;rw [yE h1]
  have hs:bV s=(bE n).length:=by rw [hT,Mk];rfl
  have hlen:s.length=(bE n).length+(aD d).length+1:=by rw [hT];simp;omega
  have e3:=Cj h.rI (s:=s) (by omega);rw [hs] at e3;have c1:fP s (some 0) (some (bE n).length)=some (.str (bE n)):=by
   rw [jo (by omega) (by omega),vc,hT,yaa]
  have c2:fP s (some ((bE n).length+1)) (some s.length)=some (.str (aD d)):=by
   rw [jo (by omega) (yC _),wK,hT,show bE n++47::aD d=(bE n++[47])++aD d by simp,show (bE n).length+1=(bE n++[47]).length by simp,uO]
  refine ⟨x,y,?_,hx,hy⟩;obtain ⟨xw,xl,rfl,dl,_,_,_⟩:=hx;obtain ⟨yw,yl,rfl,dn,_,_,_⟩:=hy;rw [<-Wy];unfold aj at e1 e2 e3 ⊢;rw [aR h.UL]
  simp only [go_sem,ya,yc,Fl,bL,e3,show ¬((bE n).length:Int)=(s.length:Int) by omega,dM,ei,dH,c1,wrapN (n:=(bE n).length+1) (by omega),show ((bE n).length:Int)+1=(((bE n).length+1:Nat):Int) from rfl,c2,e1,e2,cI,dl.pu,dl.one,dn.pu,dn.one,eL];rcases dl with ⟨rfl,_⟩ | ⟨e,rfl⟩<;>rcases dn with ⟨rfl,_⟩ | ⟨e',rfl⟩<;>rfl
end
end
section
open Go (IntKind)
def EA {n:Int} {d:Nat} (h:n<0):TT n d=45::TT (-n) d:=by
 have e:bE (-n)=aD n.natAbs:=by
  rw [<-me,yE (show ¬-n<0 by omega),xu,show (-n).natAbs=n.natAbs by omega]
 unfold TT;rw [qv h,e];rfl
def aex {n:Int} {d:Nat} (h:¬n<0):∃b u,TT n d=b::u/\48<=b:=by
 obtain ⟨b,r,hb,h1,_⟩:=DL n.natAbs;refine ⟨b,r++(if d=1 then [] else 47::aD d),?_,h1⟩;unfold TT;rw [<-me,yE h,xu,hb];rfl
def zb (a b:AV) (r:List AV):gK 2 true (a::b::r)=some (.agg [a,b]):=rfl
def aey (k:Nat):2^k<=1000000000^k:=Nat.pow_le_pow_left (by decide) k
def Bd.r {k:Nat} {z:Int} (h:Bd k z):z.natAbs<1000000000^k:=yU h (aey k)
def BR (r:Rat):RT r=TT r.num r.den:=rfl
def IP {n d:Int} (hd:0<d):RT (xM n d)=fO n d:=by
 obtain ⟨h1,h2⟩:=G1 (a:=n) hd;rw [aef hd,BR,h1]
 congr 1
 exact ta (show ((xM n d).den:Int)=((aQ n d).toNat:Int) by rw [h2];have:=mg (a:=n) hd;unfold aQ at this ⊢;omega)
structure Rm (P:aF) (L:Lib):Prop extends Rb P L where
 akn:Has P L 263 cB
 Ke:Has P L 273 rC
 an6:Has P L 284 Uh
 an7:Has P L 285 Ui
 an8:Has P L 286 Uj
 Cr:Has P L 287 B9
 lH:Has P L 301 nQ
structure Rp (P:aF) (L:Lib):Prop extends Wq P L,Rm P L
structure Rn (P:aF) (L:Lib):Prop extends Ra P L,Rp P L
section
variable {P:aF} {L:Lib}
def Tb (h:Rm P L) {v w:AV} {a b:List Int} (hv:aX v a) (hw:aX w b) (ha:dg a) (hb:dg b) (na:nz a) (nb:nz b) (la:a.length<=8000000000) (lb:b.length<=8000000000) (h0:0<dv b):
  ∃q r lq lr,aj P L 289 [v,w] (.aw [q,r])/\aX q lq/\aX r lr/\dg lq/\nz lq/\dg lr/\nz lr/\dv lq=dv a/dv b/\dv lr=dv a%dv b:=
 S8 h.Cp h.iz h.jW h.kJ h.bZ h.lH hv hw ha hb na nb la lb h0
def ag8 (h:Rm P L) {x y:AV} {a b:List Int} {n d:Int} {K:Nat} (hK:K<=8000000000) (hx:aX x a) (ha:dg a) (na:nz a) (va:dv a=n.natAbs) (hy:aX y b) (hb:dg b) (nb:nz b) (vb:dv b=d.natAbs) (kn:Bd K n) (kd:Bd K d) (hd:0<d) {tm:Env} (t2:ah tm 2= .ptr 0 0) (t3:ah tm 3= .ptr 1 0):
  jS [.t 4] (D P L (bq (bq jR.body)) ⟨tm,[(1,.cells true true true 2 [.bool (decide (d<0)),y]),(0,.cells true true true 2 [.bool (decide (n<0)),x])],2,0⟩)=some (.str (RT (xM n d))):=by
 rw [IP hd];have la:=xz (fY ha na (by rw [va];exact kn.r)) hK
 have lb:=xz (fY hb nb (by rw [vb];exact kd.r)) hK
 obtain ⟨g,lg,e1,hg,Lu,ng,vg⟩:=S9 h.UM h.Cp h.iz h.jW h.kJ h.bZ h.lH hx hy ha hb na nb la lb;rw [va,vb,show wb n.natAbs d.natAbs=xJ n d from rfl] at vg;have CK:=Eh (a:=n) hd;have ako:xJ n d<=d.natAbs:=Int.gcd_le_natAbs_right n (by omega);have Wz:lg.length<=8000000000:=xz (fY Lu ng (by rw [vg];exact Nat.lt_of_le_of_lt ako kd.r)) hK
 obtain ⟨p,p',lp,lp',e2,hp,ai,dp,np,dp',np',vp,vp'⟩:=Tb h hx hg ha Lu na ng la Wz (by omega);obtain ⟨q,q',lq,lq',e3,hq,bI,dq,nq,dq',nq',vq,vq'⟩:=Tb h hy hg hb Lu nb ng lb Wz (by omega);rw [va,vg] at vp;rw [vb,vg] at vq;have hrn:(aS n d).natAbs=n.natAbs/xJ n d:=by unfold aS;rw [wW (Int.gcd_dvd_left n d)];rfl
 have gN:(aQ n d).natAbs=d.natAbs/xJ n d:=by unfold aQ;rw [wW (Int.gcd_dvd_right n d)];rfl
 have hdp:=mg (a:=n) hd;rw [<-hrn] at vp;rw [<-gN] at vq;have an9:=qP n d;have Lt:fp (decide (n<0)) (dv lp)=aS n d:=by
  rw [vp];unfold fp;by_cases h0:n<0
  ·have:¬0<=aS n d:=fun h1=>by have:=Int.mul_nonneg (Int.le_of_lt CK) h1;omega
   simp only [h0,yz,yR];omega
  ·have:¬aS n d<0:=fun h1=>by have:=Int.mul_neg_of_pos_of_neg CK h1;omega
   simp only [h0,yD,yq,yM];omega
 have WA:Bd K (aS n d):=kn.le (ko n d);have Km:Bd K (aQ n d):=kd.le (lh n d);have lp1:lp.length<=8000000000:=xz (fY dp np (by rw [vp];exact WA.r)) hK
 have GN:lq.length<=8000000000:=xz (fY dq nq (by rw [vq];exact Km.r)) hK
 obtain ⟨s,e4,hs⟩:=lF h.fE h.bZ (decide (n<0)) hp dp (by omega);rw [Lt] at hs;obtain ⟨e5,l5⟩:=Kb (K:=K) h.Kc h.kI (by omega) hs WA.r;obtain ⟨u,e6,hu⟩:=lF h.fE h.bZ false hq dq (by omega);have Gt:fp false (dv lq)=aQ n d:=by rw [vq];unfold fp;simp only [yq,yM];omega
 rw [Gt] at hu;obtain ⟨e7,l7⟩:=Kb (K:=K) h.Kc h.kI (by omega) hu Km.r;obtain ⟨sw,sl,rfl,ol,_,_,_⟩:=hs;obtain ⟨uw,ul,rfl,WB,_,_,_⟩:=hu;have anm:0<lq.length:=by
  rcases xv lq.length with e | e
  ·rw [yB e] at vq;simp [dv] at vq;omega
  ·exact e
 by_cases Lv:lq.length=1
 ·obtain ⟨z,rfl⟩:∃z,lq=[z]:=by
   cases lq with
   | nil=>simp at Lv
   | cons z r=>cases r with
    | nil=>exact ⟨z,rfl⟩
    | cons y r=>simp at Lv
  have C9:z=aQ n d:=by simp [dv] at vq;omega
  have e8:=hq.bt (i:=0) (by simp);simp only [List.getElem_cons_zero] at e8;by_cases h1:aQ n d=1
  ·have hT:fO n d=bE (aS n d):=by unfold fO;rw [yS h1]
   rw [hT];simp only [go_sem,ya,jR,bq,t2,t3,hx.aE,hy.aE,cP,yp,fj,show ¬d<0 by omega,yD,e1,hg.aE,hg.shut,e2,hp.aE,hp.bW,ai.bW,e3,hq.len,hq.bW,bI.bW,e4,ol.aE,df,cI,e5,yx,yZ,show ((1:Nat):Int)=(1:Int) from rfl,yz,e8,C9,h1]
  ·have hT:fO n d=(bE (aS n d)++[47])++bE (aQ n d):=by unfold fO;rw [yE h1]
   rw [hT]
   simp only [go_sem,ya,jR,bq,t2,t3,hx.aE,hy.aE,cP,yp,fj,show ¬d<0 by omega,yD,e1,hg.aE,hg.shut,e2,hp.aE,hp.bW,ai.bW,e3,hq.len,hq.aE,hq.bW,bI.bW,e4,ol.aE,df,cI,e5,yx,yZ,show ((1:Nat):Int)=(1:Int) from rfl,yz,e8,C9,h1,fJ (a:=bE (aS n d)) (b:=[47]) (by simp;omega),e6,WB.aE,e7,fJ (a:=bE (aS n d)++[47]) (b:=bE (aQ n d)) (by simp;omega)]
 ·have h1:¬aQ n d=1:=fun h1=>Lv (by
   have h2:lq.length<=1:=PC dq nq (by rw [vq,h1];decide)
   omega)
  have hT:fO n d=(bE (aS n d)++[47])++bE (aQ n d):=by unfold fO;rw [yE h1]
  rw [hT]
  simp only [go_sem,ya,jR,bq,t2,t3,hx.aE,hy.aE,cP,yp,fj,show ¬d<0 by omega,yD,e1,hg.aE,hg.shut,e2,hp.aE,hp.bW,ai.bW,e3,hq.len,hq.aE,hq.bW,bI.bW,e4,ol.aE,df,cI,e5,show ¬(lq.length:Int)=1 by omega,fJ (a:=bE (aS n d)) (b:=[47]) (by simp;omega),e6,WB.aE,e7,fJ (a:=bE (aS n d)++[47]) (b:=bE (aQ n d)) (by simp;omega)]
def XS (n d:Int):xM (-n) (-d)=xM n d:=by rw [Rat.divInt_neg',yaG]
def Jx (h:Rm P L) {v w:AV} {n d:Int} {K:Nat} (hK:K<=8000000000) (hv:gP v n) (hw:gP w d) (kn:Bd K n) (kd:Bd K d) (hd:d≠0):aj P L 280 [v,w] (.str (RT (xM n d))):=by
 have fin:∀{x y:AV} {a b:List Int} {n' d':Int},aX x a->dg a->nz a->dv a=n'.natAbs->aX y b->dg b->nz b->dv b=d'.natAbs->Bd K n'->Bd K d'->0<d'->xM n' d'=xM n d->∀tm,ah tm 2= .ptr 0 0->ah tm 3= .ptr 1 0->
   D P L (.seq (eC jR.body) (eC (bq jR.body))) ⟨[(0,v),(1,w)],[],0,0⟩=some (.normal,⟨tm,[(1,.cells true true true 2 [.bool (decide (d'<0)),y]),(0,.cells true true true 2 [.bool (decide (n'<0)),x])],2,0⟩)->aj P L 280 [v,w] (.str (RT (xM n d))):=fun {x y a b n' d'} hx ha na va hy hb nb vb kn kd hd hq tm t2 t3 e=>by
  unfold aj;rw [aR h.akg];show jS [.t 4] (D P L (.seq (eC jR.body) (.seq (eC (bq jR.body)) (bq (bq jR.body)))) ⟨[(0,v),(1,w)],[],0,0⟩)=_
  rw [Il,e,ku,<-hq];exact ag8 h hK hx ha na va hy hb nb vb kn kd hd t2 t3
 have jC:=hv;have hw':=hw;obtain ⟨x,a,rfl,hx,ha,na,va⟩:=hv;obtain ⟨y,b,rfl,hy,hb,nb,vb⟩:=hw;by_cases h0:d<0
 ·obtain ⟨r,e1,hr⟩:=Uy (K:=K) h.UP h.fE h.bZ (by omega) jC kn.r;obtain ⟨s,e2,hs⟩:=Uy (K:=K) h.UP h.fE h.bZ (by omega) hw' kd.r;obtain ⟨x',a',rfl,C1,KE,na',va'⟩:=hr;obtain ⟨y',b',rfl,Lw,db,nb',vb'⟩:=hs;simp only [h0,yz] at e2
  refine fin C1 KE na' va' Lw db nb' vb' kn.neg kd.neg (by omega) (XS n d) _ ?_ ?_ (by
   simp only [go_sem,ya,yc,jR,eC,bq,bL,hx.pu,hx.aE,hx.one,hy.pu,hy.aE,hy.one,C1.pu,C1.one,Lw.pu,Lw.one,cP,yp,h0,yz,zb,df,e1,e2,cI,eL]<;>rfl)<;>simp only [go_sem,ya]
 ·refine fin hx ha na va hy hb nb vb kn kd (by omega) rfl _ ?_ ?_ (by simp only [go_sem,ya,yc,jR,eC,bq,bL,hx.pu,hx.one,hy.pu,hy.one,cP,yp,h0,yD]<;>rfl)<;>simp only [go_sem,ya]
end
end
section
open Go (IntKind)
def aiH (z:Int) (m:Nat) (h:z.natAbs=m):(z.tdiv 1000000000).natAbs=m/1000000000/\(if z.tmod 1000000000<0 then 0-z.tmod 1000000000 else z.tmod 1000000000)=((m%1000000000:Nat):Int)/\(z<0->z.tdiv 1000000000<=0)/\(0<=z->0<=z.tdiv 1000000000):=by
 rcases Int.lt_or_le z 0 with h0 | h0
 ·obtain ⟨n,rfl⟩:∃n:Nat,z= -(n:Int):=⟨z.natAbs,by omega⟩;rw [Int.neg_tdiv,Int.neg_tmod,xB (by omega),Int.tmod_eq_emod_of_nonneg (by omega)]
  grind
 ·grind
section
variable {P:aF} {L:Lib}
def ag9 {neg:Bool} {N:Nat} (hN:N<=9223372036854775808):
  ∀k s,(∃(i:Nat) (z:Int) (out:List Int),z.natAbs=k/\out.length=i/\dg out/\dv out+1000000000^i*z.natAbs=N/\(neg=true->z<=0)/\(neg=false->0<=z)/\i<=3/\
    ((i=0/\bA [0,2,3,4] s=⟨[(0,ab z),(2,.ptr 0 0),(3,.aa),(4,.bool neg)],[(0,.cells true true true 2 [.bool false,.aa])],1,0⟩)\/
    (0<i/\bA [0,2,3,4] s=⟨[(0,ab z),(2,.ptr 0 0),(3,.au 1 0 i),(4,.bool neg)],[(1,.cells true true false 1 (out.map ab)),(0,.cells true true true 2 [.bool false,.aa])],2,0⟩)))->
   ∃ex s',D P L (.loop [0,2,3,4] ml) s=some (ex,s')/\∃tm i out,ex= .exit 0/\out.length=i/\i<=3/\dg out/\dv out=N/\ah tm 2= .ptr 0 0/\ah tm 4= .bool neg/\
    ((i=0/\ah tm 3= .aa/\s'=⟨tm,[(0,.cells true true true 2 [.bool false,.aa])],1,0⟩)\/(0<i/\ah tm 3= .au 1 0 i/\s'=⟨tm,[(1,.cells true true false 1 (out.map ab)),(0,.cells true true true 2 [.bool false,.aa])],2,0⟩)):=by
 refine dt (I:=fun k s=>∃(i:Nat) (z:Int) (out:List Int),z.natAbs=k/\out.length=i/\dg out/\dv out+1000000000^i*z.natAbs=N/\(neg=true->z<=0)/\(neg=false->0<=z)/\i<=3/\
    ((i=0/\s=⟨[(0,ab z),(2,.ptr 0 0),(3,.aa),(4,.bool neg)],[(0,.cells true true true 2 [.bool false,.aa])],1,0⟩)\/
    (0<i/\s=⟨[(0,ab z),(2,.ptr 0 0),(3,.au 1 0 i),(4,.bool neg)],[(1,.cells true true false 1 (out.map ab)),(0,.cells true true true 2 [.bool false,.aa])],2,0⟩)))
  (Q:=fun ex s'=>∃tm i out,ex= .exit 0/\out.length=i/\i<=3/\dg out/\dv out=N/\ah tm 2= .ptr 0 0/\ah tm 4= .bool neg/\
    ((i=0/\ah tm 3= .aa/\s'=⟨tm,[(0,.cells true true true 2 [.bool false,.aa])],1,0⟩)\/(0<i/\ah tm 3= .au 1 0 i/\s'=⟨tm,[(1,.cells true true false 1 (out.map ab)),(0,.cells true true true 2 [.bool false,.aa])],2,0⟩))) ?_
 rintro k s ⟨i,z,out,rfl,hlen,hd,bi,fq,jB,WC,hs⟩;by_cases hz:z=0
 ·right
  subst hz;have hv:dv out=N:=by simpa using bi
  rcases hs with ⟨h0,rfl⟩ | ⟨h0,rfl⟩
  ·simp only [go_sem,ml,yz,yQ];exact ⟨_,_,rfl,by simp,_,i,out,rfl,hlen,WC,hd,hv,by simp only [go_sem,ya],by simp only [go_sem,ya],.inl ⟨h0,by simp only [go_sem,ya],rfl⟩⟩
  ·simp only [go_sem,ml,yz,yQ];exact ⟨_,_,rfl,by simp,_,i,out,rfl,hlen,WC,hd,hv,by simp only [go_sem,ya],by simp only [go_sem,ya],.inr ⟨h0,by simp only [go_sem,ya],rfl⟩⟩
 ·left
  obtain ⟨m,hm⟩:∃m,z.natAbs=m:=⟨_,rfl⟩;have Lr:0<m:=by omega
  rw [hm] at bi;have hi2:i<3:=by
   rcases Nat.lt_or_ge i 3 with h | h
   ·exact h
   ·have e3:i=3:=by omega
    subst e3
    have:=xn (1000000000^3) Lr
    omega
  have hmN:m<=9223372036854775808:=by
   have:=Nat.le_mul_of_pos_left m (yaU (n:=i) (show 0<1000000000 by decide))
   omega
  obtain ⟨d1,d2,d3,d4⟩:=aiH z m hm;have kg:=tY m 1000000000;have lG:dg (out++[((m%1000000000:Nat):Int)]):=eU.2 ⟨hd,ig.2 (by omega)⟩;have E0:dv (out++[((m%1000000000:Nat):Int)])+1000000000^(i+1)*(m/1000000000)=N:=by
   rw [iT,hlen,<-bi,xq,xZ];have e:1000000000^i*m=1000000000^i*(m%1000000000)+1000000000^i*(1000000000*(m/1000000000)):=by rw [<-xY,kg]
   rw [e];simp only [dv,xV,wz,xH];omega
  have Da:IntKind.wrap .i64 (z.tdiv 1000000000)=z.tdiv 1000000000:=wrap64 (by omega) (by omega);have jA: -9223372036854775808<=z.tmod 1000000000/\z.tmod 1000000000<1000000000:=by
   have h1:(z.tmod 1000000000).natAbs<1000000000:=by
    split at d2<;>omega
   omega
  have nJ:(neg=true->z.tdiv 1000000000<=0)/\(neg=false->0<=z.tdiv 1000000000):=⟨fun h=>d3 (by have:=fq h;omega),fun h=>d4 (jB h)⟩;have aV:(z.tdiv 1000000000).natAbs<m:=by rw [d1];omega
  obtain ⟨z',ew⟩:∃z',z.tdiv 1000000000=z':=⟨_,rfl⟩;rw [ew] at d1 d3 d4 Da nJ aV;have cT:dv (out++[((m%1000000000:Nat):Int)])+1000000000^(i+1)*z'.natAbs=N:=by rw [d1];exact E0
  generalize m%1000000000=r at*
  by_cases dU:z.tmod 1000000000<0
  ·rw [yS dU] at d2;rcases hs with ⟨h0,rfl⟩ | ⟨h0,rfl⟩
   ·subst h0;have fQ:out=[]:=yB hlen;subst fQ
    simp only [go_sem,ya,yc,xR,yV,ym,yv,ml,yD,hz,xE,eJ _ _ _ (show (1000000000:Int)≠0 by decide),dX _ _ _ (show (1000000000:Int)≠0 by decide),dU,d2,wrapN (n:=r) (by omega),jH,ew,Da];refine ⟨_,z'.natAbs,rfl,by omega,1,z',[]++[(r:Int)],rfl,rfl,lG,cT,nJ.1,nJ.2,by omega,.inr ⟨by omega,?_⟩⟩;simp only [go_sem,ya,yc,aM]<;>rfl
   ·simp only [go_sem,ya,yc,ym,yv,ml,yD,hz,xE,eJ _ _ _ (show (1000000000:Int)≠0 by decide),dU,d2,wrapN (n:=r) (by omega)]
    rw [jn (ex:=false) (pu:=true) (cs:=out.map ab) (by simp only [go_sem,ya]) (by rw [yL,hlen,yv]) (by omega) (by omega) (by decide) (by simp only [go_sem])];simp only [go_sem,ya,yc,dX _ _ _ (show (1000000000:Int)≠0 by decide),ew,Da];refine ⟨_,z'.natAbs,rfl,by omega,i+1,z',out++[(r:Int)],rfl,by simp [hlen],lG,cT,nJ.1,nJ.2,by omega,.inr ⟨by omega,?_⟩⟩;rw [xm];simp only [go_sem,ya,yc,aM]<;>rfl
  ·rw [yE dU] at d2;rcases hs with ⟨h0,rfl⟩ | ⟨h0,rfl⟩
   ·subst h0;have fQ:out=[]:=yB hlen;subst fQ;simp only [go_sem,ya,yc,xR,yV,ym,yv,ml,yD,hz,xE,eJ _ _ _ (show (1000000000:Int)≠0 by decide),dX _ _ _ (show (1000000000:Int)≠0 by decide),d2,show ¬((r:Nat):Int)<0 by omega,jH,ew,Da];refine ⟨_,z'.natAbs,rfl,by omega,1,z',[]++[(r:Int)],rfl,rfl,lG,cT,nJ.1,nJ.2,by omega,.inr ⟨by omega,?_⟩⟩;simp only [go_sem,ya,yc,aM]<;>rfl
   ·simp only [go_sem,ya,yc,ym,yv,ml,yD,hz,xE,eJ _ _ _ (show (1000000000:Int)≠0 by decide),d2,show ¬((r:Nat):Int)<0 by omega]
    rw [jn (ex:=false) (pu:=true) (cs:=out.map ab) (by simp only [go_sem,ya]) (by rw [yL,hlen,yv]) (by omega) (by omega) (by decide) (by simp only [go_sem])];simp only [go_sem,ya,yc,dX _ _ _ (show (1000000000:Int)≠0 by decide),ew,Da];refine ⟨_,z'.natAbs,rfl,by omega,i+1,z',out++[(r:Int)],rfl,by simp [hlen],lG,cT,nJ.1,nJ.2,by omega,.inr ⟨by omega,?_⟩⟩;rw [xm];simp only [go_sem,ya,yc,aM]<;>rfl
def PD {n:Int} (h: -9223372036854775808<=n/\n<9223372036854775808):n.natAbs<=9223372036854775808:=by omega
def PE (n:Int):fp (decide (n<0)) n.natAbs=n:=by
 unfold fp
 grind
def aiI (h:Rm P L) {n:Int} (hn: -9223372036854775808<=n/\n<9223372036854775808):∃r,aj P L 281 [ab n] r/\gP r n:=by
 have key:=fun s=>ag9 (P:=P) (L:=L) (neg:=decide (n<0)) (PD hn) n.natAbs s
 unfold aj;rw [aR h.UN];simp only [go_sem,ya,yc,Fp,bL];generalize hq:D P L (.loop [0,2,3,4] ml) _=q;obtain ⟨ex,s,rfl,tm,i,out,rfl,hlen,hi,hd,bi,t2,t4,rh⟩:=cW hq key (by
  refine ⟨0,n,[],rfl,rfl,rfl,by simp [dv],fun h=>by simp at h;omega,fun h=>by simp at h;omega,by omega,.inl ⟨rfl,?_⟩⟩
  simp only [go_sem,ya,yc,aM]<;>rfl)
 rcases rh with ⟨pZ,t3,rfl⟩ | ⟨pZ,t3,rfl⟩
 ·subst pZ;have fQ:out=[]:=yB hlen;subst fQ;obtain ⟨r,e,hr⟩:=lF h.fE h.bZ (decide (n<0)) (show aX .aa [] from ni) hd (by simp);rw [bi,PE] at hr;have dG:=hr;obtain ⟨w,l,rfl,hw,_,_,_⟩:=dG;refine ⟨_,?_,hr⟩;simp only [go_sem,ya,yc,aM,t2,t3,t4,e,hw.pu,hw.one,cI,eL];rcases hw with ⟨rfl,_⟩ | ⟨e,rfl⟩<;>rfl
 ·have hI:=gC false out;rw [hlen] at hI;obtain ⟨r,e,hr⟩:=lF h.fE h.bZ (decide (n<0)) hI hd (by omega);rw [bi,PE] at hr;have dG:=hr;obtain ⟨w,l,rfl,hw,_,_,_⟩:=dG;refine ⟨_,?_,hr⟩
  simp only [go_sem,ya,yc,aM,t2,t3,t4,fun hp=>jl (hp:=hp) (k:=i) (sz:=1) (cs:=out.map ab) false (by simp [hlen]) (by decide),e,hw.pu,hw.one,cI,eL];rcases hw with ⟨rfl,_⟩ | ⟨e,rfl⟩<;>rfl
def aha (n:Int):RT (n:Rat)=bE n:=by unfold RT;simp
def aiJ (h:Rm P L) (Kf:Has P L 265 Fj) {n:Int} (hn: -9223372036854775808<=n/\n<9223372036854775808):aj P L 265 [ab n] (.str (RT (n:Rat))):=by
 obtain ⟨r,e,hr⟩:=aiI h hn;obtain ⟨e2,_⟩:=Kb (K:=8) h.Kc h.kI (by omega) hr (by have:=PD hn;omega);rw [aha];obtain ⟨w,l,rfl,hw,_,_,_⟩:=hr;unfold aj at e e2 ⊢;rw [aR Kf];simp only [go_sem,ya,Fj,e,hw.aE,cI,df,e2]
def qQ {K:Nat} {a:Rat} (h:Hq K a):(RT a).length<=2*K+3:=by
 have h1:=HK h.1;have h2:=HK h.2;rw [oG] at h2;unfold RT
 grind
def PF {K:Nat} {z:Int} (h:Bd K z):(aD z.natAbs).length<=K+1:=by
 have:=HK (z:=(z.natAbs:Int)) (k:=K) (by unfold Bd at h ⊢;omega)
 rwa [oG] at this
def BS (h:Rm P L) {a:Rat} {K:Nat} (ka:Hq K a) (hK:K<=8000000000):∃x y,aj P L 274 [.str (RT a)] (.aw [x,y])/\gP x a.num/\gP y (a.den:Int):=by
 have h1:=PF ka.1;have h2:=PF ka.2
 exact UW h.toRb (n:=a.num) (d:=a.den) (by omega) (by simpa using (by omega:(aD ((a.den:Int)).natAbs).length<=144000000000))
def aiK (h:Rm P L) {n:Int} {d:Nat} (hl:(TT n d).length<=100000000000) (Lx:n=0->d=1):aj P L 262 [.str (TT n d)] (ab (eR n)):=by
 unfold aj;rw [aR h.ake];by_cases h0:n<0
 ·have e9:=Ta (n:=n) (d:=d) (by omega);rw [EA h0] at e9 ⊢;simp only [go_sem,ya,B2,jJ,e9,show (0:Int)<(((TT (-n) d).length+1:Nat):Int) by omega,rH,yz];unfold eR;rw [yS h0]
 ·by_cases h1:n=0
  ·subst h1
   have:=Lx rfl
   subst this;rw [show TT 0 1=[48] by decide];simp only [go_sem,ya,B2,jJ,show dA [48] [48]=true from rfl];rfl
  ·have e9:=Ta (n:=n) (d:=d) h1;obtain ⟨b,u,hb,pM⟩:=aex (d:=d) h0;rw [hb] at e9 ⊢;simp only [go_sem,ya,B2,jJ,e9,show (0:Int)<((u.length+1:Nat):Int) by omega,show kB 0 (.str (b::u))=some (.int .u8 (b:Nat)) from rfl,show ¬((b:Nat):Int)=45 by omega];unfold eR;rw [yE h0,yE h1]
def Xo {a:Rat} (h:a.num=0):a.den=1:=by simp_all
def Jy (h:Rm P L) {a:Rat} {K:Nat} (ka:Hq K a) (hK:K<=8000000000):aj P L 262 [.str (RT a)] (ab (eR a.num)):=
 aiK h (by have:=qQ ka;rw [BR] at this;omega) Xo
def aiL (h:Rp P L) {a:Rat} {K:Nat} (ka:Hq K a) (hK:K<=8000000000):aj P L 268 [.str (RT a)] (.str (RT (-a))):=by
 have e:=Jy h.toRm ka hK;have hl:=qQ ka;have en:(-a).num= -a.num:=rfl;have ed:(-a).den=a.den:=rfl;rw [BR] at hl e ⊢;rw [BR,en,ed];generalize a.num=n at*
 generalize a.den=d at*
 unfold aj at e ⊢;rw [aR h.akh];by_cases h0:n<0
 ·have es:eR n= -1:=by unfold eR;rw [yS h0]
  rw [es,EA h0] at e;rw [EA h0] at hl ⊢;have hc:fP (45::TT (-n) d) (some 1) (some ((TT (-n) d).length+1))=some (.str (TT (-n) d)):=by rw [jo (s:=45::TT (-n) d) (l:=1) (h:=(TT (-n) d).length+1) (by omega) (by simp)];simp
  simp only [go_sem,ya,B5,e,show (-1:Int)<0 by decide,dM,ei,dH,hc]
 ·by_cases h1:n=0
  ·subst h1;have es:eR 0=0:=rfl;rw [es] at e;simp only [go_sem,ya,B5,e,show ¬(0:Int)<0 by decide,yz,Int.neg_zero]
  ·have es:eR n=1:=by unfold eR;rw [yE h0,yE h1]
   rw [es] at e
   have:TT (-n) d=45::TT n d:=by rw [EA (by omega),yaG]
   rw [this]
   simp only [go_sem,ya,B5,e,show ¬(1:Int)<0 by decide,show ¬(1:Int)=0 by decide,fJ (a:=[45]) (b:=TT n d) (by simp;omega),yH,xu]
end
end
section
open Go (IntKind)
def PG (n:Int) (d:Nat):I8 true n d= .aw [ab n,ab d,.bool true]:=rfl
def BT {a b:Int} (ha:a.natAbs<1000000000) (hb:b.natAbs<1000000000):(a*b).natAbs<1000000000000000000:=by
 rw [Int.natAbs_mul];exact yU (tT ha hb) (by decide)
section
variable {P:aF} {L:Lib}
def Tc (h:Rm P L) {a b:Int} (ha: -4000000000000000000<=a/\a<=4000000000000000000) (hb:0<b/\b<=4000000000000000000):aj P L 277 [ab a,ab b] (.str (RT (xM a b))):=by
 rw [IP hb.1];exact ajT h.akf h.JZ h.kI ha hb
def E1 (h:Rp P L) {a:Rat} {K:Nat} (ka:Hq K a) (hK:K<=8000000000):∃q:Bool,aj P L 276 [.str (RT a)] (I8 q a.num a.den)/\(q=true->a.num.natAbs<1000000000/\a.den<1000000000):=
 ajU h.aki h.rI h.nT (n:=a.num) (d:=a.den) (by have:=qQ ka;rw [BR] at this;omega)
def Td (h:Rn P L) {a b:Rat} {K M:Nat} (ka:Hq K a) (kb:Hq M b) (hK:K+M<=8000000000):aj P L 267 [.str (RT a),.str (RT b)] (.str (RT (a*b))):=by
 obtain ⟨q1,e1,b1⟩:=E1 h.toRp ka (by omega);obtain ⟨q2,e2,b2⟩:=E1 h.toRp kb (by omega);have akp:=Dq a b;by_cases hq:(q1=true/\q2=true)
 ·obtain ⟨rfl,rfl⟩:=hq;obtain ⟨WD,b12⟩:=b1 rfl;obtain ⟨WE,b22⟩:=b2 rfl;have p1:=BT WD WE;have p2:=BT (a:=(a.den:Int)) (b:=(b.den:Int)) (by omega) (by omega);have e3:=Tc h.toRm (a:=a.num*b.num) (b:=(a.den:Int)*b.den) (by omega) (by omega);rw [<-mul_eq] at e3;rw [PG] at e1 e2;unfold aj at e1 e2 e3 ⊢;rw [aR h.UR]
  simp only [go_sem,ya,B4,e1,e2,wrap64 (n:=a.num*b.num) (by omega) (by omega),wrap64 (n:=(a.den:Int)*(b.den:Int)) (by omega) (by omega),e3]
 ·have bI:∃n1 d1 n2 d2,b5 P L (D P L) 276 [.str (RT a)]=some (.aw [ab n1,ab d1,.bool q1])/\b5 P L (D P L) 276 [.str (RT b)]=some (.aw [ab n2,ab d2,.bool q2]):=by
   cases q1<;>cases q2<;>exact ⟨_,_,_,_,e1,e2⟩
  obtain ⟨n1,d1,n2,d2,e1,e2⟩:=bI;obtain ⟨x,y,e3,hx,hy⟩:=BS h.toRm ka (by omega);obtain ⟨z,w,e4,hz,hw⟩:=BS h.toRm kb (by omega);have zI:max K M<=8000000000:=by omega
  obtain ⟨r,e5,hr⟩:=Cn (K:=max K M) h.Cq h.iz h.fE h.bZ zI hx hz (ka.1.mono (by omega)).r (kb.1.mono (by omega)).r;obtain ⟨s,e6,hs⟩:=Cn (K:=max K M) h.Cq h.iz h.fE h.bZ zI hy hw (ka.2.mono (by omega)).r (kb.2.mono (by omega)).r;have e7:=Jx h.toRm hK hr hs (ka.1.mul kb.1) (ka.2.mul kb.2) (by omega);rw [<-mul_eq] at e7;obtain ⟨xw,xl,rfl,dl,_,_,_⟩:=hx;obtain ⟨yw,yl,rfl,dn,_,_,_⟩:=hy;obtain ⟨zw,zl,rfl,kh,_,_,_⟩:=hz;obtain ⟨ww,wl,rfl,ki,_,_,_⟩:=hw;obtain ⟨dL,rl,rfl,lM,_,_,_⟩:=hr;obtain ⟨sw,sl,rfl,ol,_,_,_⟩:=hs;have hb:¬(q1=true/\q2=true):=hq;unfold aj at e3 e4 e5 e6 e7 ⊢;rw [aR h.UR]
  cases q1 with
  | false=>
   simp only [go_sem,ya,yc,B4,bL,e1,e2,e3,e4,dl.pu,dl.aE,dl.one,dn.pu,dn.aE,dn.one,kh.pu,kh.aE,kh.one,ki.pu,ki.aE,ki.one,lM.aE,ol.aE,df,cI,oz,eL,zb,e5,e6,e7]
  | true=>
   cases q2 with
   | true=>exact absurd ⟨rfl,rfl⟩ hb
   | false=>
    simp only [go_sem,ya,yc,B4,bL,e1,e2,e3,e4,dl.pu,dl.aE,dl.one,dn.pu,dn.aE,dn.one,kh.pu,kh.aE,kh.one,ki.pu,ki.aE,ki.one,lM.aE,ol.aE,df,cI,oz,eL,zb,e5,e6,e7]
def aiM (h:Rp P L) {a b:Rat} {K M:Nat} (ka:Hq K a) (kb:Hq M b) (hK:K+M+1<=8000000000):aj P L 264 [.str (RT a),.str (RT b)] (.str (RT (a+b))):=by
 obtain ⟨q1,e1,b1⟩:=E1 h ka (by omega);obtain ⟨q2,e2,b2⟩:=E1 h kb (by omega);have akp:=Dq a b;by_cases hq:(q1=true/\q2=true)
 ·obtain ⟨rfl,rfl⟩:=hq;obtain ⟨WD,b12⟩:=b1 rfl;obtain ⟨WE,b22⟩:=b2 rfl;have p1:=BT (a:=a.num) (b:=(b.den:Int)) (by omega) (by omega);have p2:=BT (a:=b.num) (b:=(a.den:Int)) (by omega) (by omega);have p3:=BT (a:=(a.den:Int)) (b:=(b.den:Int)) (by omega) (by omega);have e3:=Tc h.toRm (a:=a.num*b.den+b.num*a.den) (b:=(a.den:Int)*b.den) (by omega) (by omega);rw [<-add_eq] at e3;rw [PG] at e1 e2;unfold aj at e1 e2 e3 ⊢;rw [aR h.UQ]
  simp only [go_sem,ya,B3,e1,e2,wrap64 (n:=a.num*(b.den:Int)) (by omega) (by omega),wrap64 (n:=b.num*(a.den:Int)) (by omega) (by omega),wrap64 (n:=a.num*(b.den:Int)+b.num*(a.den:Int)) (by omega) (by omega),wrap64 (n:=(a.den:Int)*(b.den:Int)) (by omega) (by omega),e3]
 ·have bI:∃n1 d1 n2 d2,b5 P L (D P L) 276 [.str (RT a)]=some (.aw [ab n1,ab d1,.bool q1])/\b5 P L (D P L) 276 [.str (RT b)]=some (.aw [ab n2,ab d2,.bool q2]):=by
   cases q1<;>cases q2<;>exact ⟨_,_,_,_,e1,e2⟩
  obtain ⟨n1,d1,n2,d2,e1,e2⟩:=bI;obtain ⟨x,y,e3,hx,hy⟩:=BS h.toRm ka (by omega);obtain ⟨z,w,e4,hz,hw⟩:=BS h.toRm kb (by omega);have zI:max K M<=8000000000:=by omega
  obtain ⟨r,e5,hr⟩:=Cn (K:=max K M) h.Cq h.iz h.fE h.bZ zI hx hw (ka.1.mono (by omega)).r (kb.2.mono (by omega)).r;obtain ⟨r2,Ly,eH⟩:=Cn (K:=max K M) h.Cq h.iz h.fE h.bZ zI hz hy (kb.1.mono (by omega)).r (ka.2.mono (by omega)).r;obtain ⟨s,e6,hs⟩:=Cn (K:=max K M) h.Cq h.iz h.fE h.bZ zI hy hw (ka.2.mono (by omega)).r (kb.2.mono (by omega)).r;have k1:Bd (K+M) (a.num*b.den):=ka.1.mul kb.2;have k2:Bd (K+M) (b.num*a.den):=(kb.1.mul ka.2).mono (by omega);obtain ⟨t,e8,ht⟩:=ajY (K:=K+M) h.akj h.J8 h.jW h.FG h.jy h.fE h.bZ (by omega) hr eH k1.r k2.r;have e7:=Jx h.toRm hK ht hs (k1.UC k2) ((ka.2.mul kb.2).mono (by omega)) (by omega);rw [<-add_eq] at e7;obtain ⟨xw,xl,rfl,dl,_,_,_⟩:=hx;obtain ⟨yw,yl,rfl,dn,_,_,_⟩:=hy;obtain ⟨zw,zl,rfl,kh,_,_,_⟩:=hz;obtain ⟨ww,wl,rfl,ki,_,_,_⟩:=hw;obtain ⟨dL,rl,rfl,lM,_,_,_⟩:=hr
  obtain ⟨rw2,rl2,rfl,UX,_,_,_⟩:=eH;obtain ⟨tw,tl,rfl,WG,_,_,_⟩:=ht;obtain ⟨sw,sl,rfl,ol,_,_,_⟩:=hs;have hb:¬(q1=true/\q2=true):=hq;unfold aj at e3 e4 e5 Ly e6 e7 e8 ⊢;rw [aR h.UQ]
  cases q1 with
  | false=>
   simp only [go_sem,ya,yc,B3,bL,e1,e2,e3,e4,dl.pu,dl.aE,dl.one,dn.pu,dn.aE,dn.one,kh.pu,kh.aE,kh.one,ki.pu,ki.aE,ki.one,lM.aE,UX.aE,WG.aE,ol.aE,df,cI,oz,eL,zb,e5,Ly,e8,e6,e7]
  | true=>
   cases q2 with
   | true=>exact absurd ⟨rfl,rfl⟩ hb
   | false=>
    simp only [go_sem,ya,yc,B3,bL,e1,e2,e3,e4,dl.pu,dl.aE,dl.one,dn.pu,dn.aE,dn.one,kh.pu,kh.aE,kh.one,ki.pu,ki.aE,ki.one,lM.aE,UX.aE,WG.aE,ol.aE,df,cI,oz,eL,zb,e5,Ly,e8,e6,e7]
def inv_divInt (a:Rat) (h:a≠0):a⁻¹=xM (a.den:Int) a.num:=by
 rw [Rat.inv_def]
def aiN (h:Rn P L) (Cs:Has P L 283 B8) {a:Rat} {K:Nat} (ka:Hq K a) (hK:K<=8000000000) (h0:a≠0):aj P L 283 [.str (RT a)] (.str (RT a⁻¹)):=by
 obtain ⟨x,y,e3,hx,hy⟩:=BS h.toRm ka hK;have hn:a.num≠0:=fun e=>h0 (Rat.num_eq_zero.1 e)
 have e7:=Jx h.toRm hK hy hx ka.2 ka.1 hn;rw [<-inv_divInt a h0] at e7;obtain ⟨xw,xl,rfl,dl,_,_,_⟩:=hx;obtain ⟨yw,yl,rfl,dn,_,_,_⟩:=hy;unfold aj at e3 e7 ⊢;rw [aR Cs];simp only [go_sem,ya,yc,B8,bL,e3,dl.pu,dl.aE,dl.one,dn.pu,dn.aE,dn.one,df,oz,eL,zb,e7]
def aiO (h:Rn P L) (Kg:Has P L 266 Fk) (Cs:Has P L 283 B8) {a b:Rat} {K M:Nat} (ka:Hq K a) (kb:Hq M b) (hK:K+M<=8000000000) (h0:b≠0):aj P L 266 [.str (RT a),.str (RT b)] (.str (RT (a/b))):=by
 have e1:=aiN h Cs kb (by omega) h0;have e2:=Td h ka kb.inv hK;rw [<-Rat.div_def] at e2;unfold aj at e1 e2 ⊢;rw [aR Kg];simp only [go_sem,ya,Fk,e1,e2]
end
end
end VE
