import Derived.Test.YtpdlhopnhojpjaaGreatDoorTan
import Derived.Test.YtpdlhopnhojpjaaGreatDoorTal
import Derived.Test.YtpdlhopnhojpjaaGreatDoorTaj
import Derived.Test.YtpdlhopnhojpjaaGreatDoorTah
import Derived.Test.YtpdlhopnhojpjaaGreatDoorTag
import Derived.Test.YtpdlhopnhojpjaaGreatDoorTaf
import Derived.Test.YtpdlhopnhojpjaaGreatDoorTak
set_option linter.all false
set_option maxRecDepth 100000
open Bool renaming and_eq_true→yi,and_self→wm,and_true→uk,false_and→wE,false_eq_true→yN,false_or→vL,not_false→yU,not_true→yR,true_and→wK,true_eq_false→yaM,true_or→tU
open Int renaming gcd→vv,natAbs_ediv_of_dvd→uy,natAbs_natCast→vD,neg_neg→ybO,reduceEq→uh,tdiv_eq_ediv_of_nonneg→wG,toNat_natCast→wq
open List renaming append_nil→xT,cons_append→xr,drop_eq_getElem_cons→yP,drop_eq_nil_of_le→xe,drop_left→vj,drop_zero→yL,eq_nil_of_length_eq_zero→yF,flatten_cons→vH,getD_eq_getElem?_getD→yM,getElem?_eq_getElem→y9,getElem_cons_zero→xy,getElem_map→yX,getElem_mem→yE,length→tR,length_append→yG,length_cons→yy,length_drop→we,length_map→yk,length_nil→yO,length_pos_iff→uz,length_set→xD,length_take→yI,map_append→xg,map_cons→xd,map_nil→vN,mem_append→xL,mem_iff_getElem→xG,mem_map→wA,nil_append→xp,replicate→yf,replicate_succ→xP,set_eq_take_append_cons_drop→vX,take_left→uH,take_length→xJ,take_of_length_le→yC,take_succ_eq_append_getElem→yT
open Nat renaming add_comm→yaP,add_zero→y7,beq→yz,ble→yK,ble_eq_true_of_le→yx,div_eq_of_lt→vc,eq_zero_or_pos→xB,gcd→wW,gcd_comm→tq,le_of_ble_eq_true→yB,le_refl→yq,le_trans→xv,lt_of_lt_of_le→yV,min_eq_left→xt,mod_eq_of_lt→yY,mul_add→xK,mul_assoc→xx,mul_comm→xO,mul_le_mul_left→y8,mul_lt_mul''→yal,mul_lt_mul_of_pos_right→wT,mul_one→yh,mul_pos→yaq,mul_zero→xM,not_lt_zero→vE,pow_le_pow_left→ue,pow_le_pow_right→xh,pow_lt_pow_iff_right→yai,pow_succ→xi,reduceAdd→yd,reduceEqDiff→ya,reduceLT→yJ,reduceLeDiff→yp,reduceMul→xj,sub_self→ub,zero_add→yg,zero_le→uJ,zero_mul→yag
open Rat renaming divInt→wL,num_eq_zero→ybl
namespace VE
open Go (IntKind)
section
variable {P:aM} {L:Lib}
def avX (h:Has P L 292 AN) {n:Nat} (hn:n<1000000000):aj P L 292 [aa n,aa 9] (.str (jh 9 n)):=by
 have key:=fk (P:=P) (L:=L) (live:=[0,1,5]) (a:=pg)
  (I:=fun k st=>∃(m:Nat) (s:List Nat),st=⟨[(0,aa m),(1,aa 9),(5,.str s)],[],0,0⟩/\s.length+k=9/\m<10^k/\jh 9 n=jh k m++s)
  (Q:=fun ex st=>∃tm ct,st=⟨tm,[],ct,0⟩/\ex= .exit 0/\af tm 5= .str (jh 9 n)) ?_
 ·unfold aj;rw [aI h];simp only [go_sem,AN];generalize hq:D P L (.loop [0,1,5] pg) _=q;obtain ⟨ex,st,rfl,tm,ct,rfl,rfl,h2⟩:=bD hq (key 9) ⟨n,[],by simp only [go_sem,ya,aw]<;>rfl,rfl,by omega,by simp⟩
  simp only [go_sem,aw,h2]
 ·rintro k st ⟨m,s,rfl,hk,hm,hs⟩
  cases k with
  | zero=>
   right
   have hm0:m=0:=by simpa using hm
   subst hm0;simp only [go_sem,ya,pg,show ¬(0:Int)<((0:Nat):Int) by omega,show ¬((s.length:Nat):Int)<9 by omega];refine ⟨_,_,rfl,by simp,_,_,rfl,rfl,?_⟩;rw [hs];rfl
  | succ k=>
   left
   have hr:((m:Int)).tmod 10=((m%10:Nat):Int):=by rw [Int.tmod_eq_emod_of_nonneg (by omega)];rfl
   have hq:((m:Int)).tdiv 10=((m/10:Nat):Int):=by rw [wG (by omega)];rfl
   have hd:=Zy (r:=m%10) (by omega);have L4:m<10000000000:=yV hm (by simpa using xh (show 0<10 by decide) (show k+1<=10 by omega));have fin:∃s',D P L pg ⟨[(0,aa m),(1,aa 9),(5,.str s)],[],0,0⟩=some (.normal,s')/\aG [0,1,5] s'=⟨[(0,aa (m/10:Nat)),(1,aa 9),(5,.str ([48+m%10]++s))],[],0,0⟩:=by
    by_cases hc:(0:Int)<m
    ·simp only [go_sem,ya,yd,pg,hc,jt _ _ _ (show (10:Int)≠0 by decide),hZ _ _ _ (show (10:Int)≠0 by decide),hr,hq,wrapN (n:=m%10+1) (by omega),wrap64 (n:=((m/10:Nat):Int)) (by omega) (by omega),fb,dS,show ((m%10:Nat):Int)+1=((m%10+1:Nat):Int) from rfl,hd,ia (a:=[48+m%10]) (b:=s) (by simp;omega)];exact ⟨_,rfl,by simp only [go_sem,ya,aw]⟩
    ·simp only [go_sem,ya,yd,pg,hc,show ((s.length:Nat):Int)<9 by omega,jt _ _ _ (show (10:Int)≠0 by decide),hZ _ _ _ (show (10:Int)≠0 by decide),hr,hq,wrapN (n:=m%10+1) (by omega),wrap64 (n:=((m/10:Nat):Int)) (by omega) (by omega),fb,dS,show ((m%10:Nat):Int)+1=((m%10+1:Nat):Int) from rfl,hd,ia (a:=[48+m%10]) (b:=s) (by simp;omega)];exact ⟨_,rfl,by simp only [go_sem,ya,aw]⟩
   obtain ⟨s',f1,f2⟩:=fin;exact ⟨s',k,f1,by omega,m/10,_,f2,by simp;omega,by rw [xi] at hm;omega,by rw [hs];simp [jh]⟩
end
def last_pos {l:List Int} (hd:dg l) (hn:nz l) (h:0<l.length):0<l.getD (l.length-1) 0:=by
 rcases snoc l with rfl | ⟨m,a,rfl⟩
 ·grind
 ·have e:(m++[a]).getD ((m++[a]).length-1) 0=a:=by simp_all
  have ha:=mA.1 (iM.1 hd).2;by_cases h0:a=0
  ·subst h0
   have:=NP m
   have e:=congrArg tR hn;rw [I1] at e
   grind
  ·omega
section
variable {P:aM} {L:Lib}
def avY (rU:Has P L 292 AN) {neg:Bool} {w:AV} {l:List Int} (hw:bq w l) (hd:dg l) (hn:nz l) (hl:l.length<=20000000000):
  ∀k s,(∃(j:Nat) (t:List Nat),aG [1,3,4] s=⟨[(1,.ptr 0 0),(3,.str t),(4,aa ((j:Int)-1))],[(0,.cells true true true 2 [.bool neg,w])],1,0⟩/\j=k/\j<l.length/\0<dv (l.drop j)/\t=aD (dv (l.drop j))/\t.length<=9*(l.length-j))->
   ∃ex s',D P L (.loop [1,3,4] J7) s=some (ex,s')/\∃tm,s'=⟨tm,[(0,.cells true true true 2 [.bool neg,w])],1,0⟩/\ex= .exit 0/\af tm 1= .ptr 0 0/\af tm 3= .str (aD (dv l))/\(aD (dv l)).length<=180000000000:=by
 intro dq sq;generalize bh:aG [1,3,4] sq=s0;revert bh s0 sq dq;apply dj;rintro k s ⟨j,t,rfl,rfl,hj,zp,ht,X5⟩
 cases j with
 | zero=>
  right
  rw [yL] at ht;simp only [go_sem,ya,J7,show ¬(0:Int)<=((0:Nat):Int)-1 by omega];exact ⟨_,_,rfl,by simp,_,rfl,rfl,by simp only [go_sem,ya],by rw [<-ht];simp only [go_sem,ya],by rw [<-ht];omega⟩
 | succ i=>
  left
  have hi:i<l.length:=by omega
  obtain ⟨x,hx⟩:∃x,x=l.getD i 0:=⟨_,rfl⟩;have e1:=rR hw hi;have gx:=iQ hd i;rw [<-hx] at e1 gx;obtain ⟨m,rfl⟩:∃m:Nat,x=m:=⟨x.toNat,by omega⟩;have e2:=avX rU (n:=m) (by omega);unfold aj at e2;have hlp:=Td 9 m;have jG:dv (l.drop i)=dv (l.drop (i+1))*10^9+m:=by
   have:l.drop i=(m:Int)::l.drop (i+1):=by
    rw [yP hi,hx];simp [yM,y9 hi]
   rw [this];simp only [dv,wq];omega
  have azY:aD (dv (l.drop i))=t++jh 9 m:=by
   rw [jG,N9 9 _ m zp (by omega),ht]
  simp only [go_sem,ya,J7,show ((i+1:Nat):Int)-1=(i:Int) by omega,show (0:Int)<=(i:Int) by omega,b7,yg,dt,e1,e2,ia (a:=t) (b:=jh 9 m) (by omega)];refine ⟨_,i,rfl,by omega,i,t++jh 9 m,?_,rfl,by omega,by omega,azY.symm,by simp;omega⟩;rw [wrap64 (by omega) (by omega)];simp only [go_sem,ya,yd,aw]<;>rfl
def aiH (h:Has P L 282 Li) (rU:Has P L 292 AN) {v:AV} {n:Int} {K:Nat} (hK:K<=18000000000) (hv:lK v n) (hn:n.natAbs<1000000000^K):aj P L 282 [v] (.str (aY n))/\(aY n).length<=180000000001:=by
 obtain ⟨w,l,rfl,hw,hd,hz,rB⟩:=hv;have hl:=xv (jQ hd hz (by rw [rB];exact hn)) hK
 by_cases h0:l=[]
 ·subst h0;have pL:n=0:=by simp [dv] at rB;omega
  subst pL;refine ⟨?_,by decide⟩;unfold aj;rw [aI h];simp only [go_sem,ya,yd,Li,bc,hw.len,hw.pu,hw.one,b7,yg,dt,yO,show ((0:Nat):Int)=(0:Int) from rfl,yu];rfl
 ·have zp:0<l.length:=uz.2 h0;obtain ⟨x,hx⟩:∃x,x=l.getD (l.length-1) 0:=⟨_,rfl⟩;have e1:=rR hw (show l.length-1<l.length by omega);have gx:=iQ hd (l.length-1);have gp:=last_pos hd hz zp;rw [<-hx] at e1 gx gp;obtain ⟨m,rfl⟩:∃m:Nat,x=m:=⟨x.toNat,by omega⟩;have e2:=V1 rU (n:=m) (by omega);have jG:dv (l.drop (l.length-1))=m:=by
   rw [yP (show l.length-1<l.length by omega),xe (by omega)]
   have:l[l.length-1]=(m:Int):=by rw [hx];simp [yM,y9 (show l.length-1<l.length by omega)]
   simp [dv,this]
  have h9:(aD m).length<=9:=sG (k:=8) (by omega);have fin:∀neg:Bool,bK P L (D P L) 282 [.agg [.bool neg,w]]=some (.str ((if neg=true then [45] else [])++aD (dv l)))/\(aD (dv l)).length<=180000000000:=fun neg=>by
   rw [aI h]
   simp only [go_sem,ya,yd,Li,bc,hw.len,hw.pu,hw.one,b7,yg,dt,show ¬(l.length:Int)=0 by omega,show (l.length:Int)-1=((l.length-1:Nat):Int) by omega,wrapN (n:=l.length-1) (by omega),e1,e2];generalize hq:D P L (.loop [1,3,4] J7) _=q;obtain ⟨ex,s,rfl,tm,rfl,rfl,t1,t3,hlen⟩:=bD hq (avY (P:=P) (L:=L) rU (neg:=neg) hw hd hz (by omega) (l.length-1)) ⟨l.length-1,aD m,by
    rw [show (l.length:Int)-2=((l.length-1:Nat):Int)-1 by omega,wrap64 (by omega) (by omega)]
    simp only [go_sem,ya,yd,aw]<;>rfl,rfl,by omega,by rw [jG];omega,by rw [jG],by omega⟩
   refine ⟨?_,hlen⟩
   cases neg with
   | true=>
    simp only [go_sem,ya,aw,t1,t3,b7,yg,ia (a:=[45]) (b:=aD (dv l)) (by simp;omega),xE]
   | false=>
    simp only [go_sem,ya,aw,t1,t3,b7,yg];rfl
  obtain ⟨f1,f2⟩:=fin (decide (n<0));rw [rB] at f1 f2;simp only [wz] at f1;rw [oT] at f1;refine ⟨f1,?_⟩;rw [<-oT]
  split<;>simp<;>omega
structure Rb (P:aM) (L:Lib):Prop where
 azZ:Has P L 262 Lb
 Ct:Has P L 272 Lh
 aiI:Has P L 274 P1
 aiJ:Has P L 275 P2
 az0:Has P L 277 Ee
 az1:Has P L 280 pw
 az2:Has P L 281 VP
 aiK:Has P L 282 Li
 aiL:Has P L 288 P7
 LH:Has P L 289 zb
 AR:Has P L 290 GN
 V2:Has P L 291 Lk
 rU:Has P L 292 AN
 me:Has P L 293 Cm
 jS:Has P L 294 Cn
 Wy:Has P L 295 Ll
 pD:Has P L 296 zc
 aiM:Has P L 298 P8
 qW:Has P L 299 Co
 dd:Has P L 300 mJ
 ow:Has P L 302 zd
structure Ras (P:aM) (L:Lib):Prop extends Rb P L where
 aiN:Has P L 264 Lc
 az3:Has P L 268 Lf
 az4:Has P L 271 VO
 az5:Has P L 276 qR
 LI:Has P L 278 P3
 az6:Has P L 279 GM
 Qs:Has P L 297 Lm
structure Ra (P:aM) (L:Lib):Prop extends Ras P L where
 aiO:Has P L 267 Ld
def asT {v w:AV} {a vs:List Int} {f:Int} (hv:bq v a) (hw:bq w vs) {n:Nat} (la:a.length<=9000000000) {A:Nat}:
  ∀k st,(∃us:List Int,aG [0,8,9,10,11] st=⟨[(0,v),(8,.ak 0 0 1),(9,w),(10,aa n),(11,.ak 1 0 us.length)],[(1,.cells true true false 1 (us.map aa)),(0,.cells false true true 1 [aa f])],2,0⟩/\us.length+k=a.length+1/\dg us/\dv us=A)->
   ∃ex st',D P L (.loop [0,8,9,10,11] J8) st=some (ex,st')/\∃tm us,st'=⟨tm,[(1,.cells true true false 1 (us.map aa)),(0,.cells false true true 1 [aa f])],2,0⟩/\ex= .exit 0/\af tm 8= .ak 0 0 1/\af tm 9=w/\af tm 10=aa n/\af tm 11= .ak 1 0 (a.length+1)/\us.length=a.length+1/\dg us/\dv us=A:=by
 intro dq sq;generalize bh:aG [0,8,9,10,11] sq=s0;revert bh s0 sq dq;apply dj;rintro k st ⟨us,rfl,hk,gu,aR⟩;have ea:((a.length:Nat):Int)+1=((a.length+1:Nat):Int):=rfl;by_cases hi:us.length<a.length+1
 ·left
  simp only [go_sem,ya,yd,yp,yh,J8,hv.len,ea,wrapN (n:=a.length+1) (by omega),show ((us.length:Nat):Int)<((a.length+1:Nat):Int) by omega]
  rw [fA (ex:=false) (pu:=true) (cs:=us.map aa) (by simp only [go_sem,ya]) (by simp) (by omega) (by omega) (by decide) (by simp only [go_sem])];refine ⟨_,k-1,rfl,by omega,us++[0],?_,by simp;omega,iM.2 ⟨gu,mA.2 (by decide)⟩,by rw [nU];simp [dv,aR]⟩;rw [xg,yG];simp only [go_sem,ya,yd,aw,aq hv.pu,au _ hv.pu,aq hw.pu,au _ hw.pu]<;>rfl
 ·right
  have hl:us.length=a.length+1:=by omega
  rw [hl]
  simp only [go_sem,ya,J8,hv.len,ea,wrapN (n:=a.length+1) (by omega),show ¬((a.length+1:Nat):Int)<((a.length+1:Nat):Int) by omega];exact ⟨_,_,rfl,by simp,_,us,rfl,rfl,by simp only [go_sem,ya],by simp only [go_sem,ya],by simp only [go_sem,ya],by simp only [go_sem,ya],hl,gu,aR⟩
end
def aeK:∀l:List Int,cw (l.map aa)=true
 | []=>rfl
 | a::r=>by rw [xd,aan,aeK r];rfl
def aeL:∀l:List Int,aH (l.map aa)=true
 | []=>rfl
 | a::r=>by rw [xd,aH,aeL r];rfl
def asU {hp:Hp} {ct:Nat} {e:Bool} {us:List Int} {o:Obj} (h:us.length<=100000000000):
  Cs ((1,.cells true true true 1 [])::(0,o)::hp) ct 1 8 (.ak 1 0 0) (iN ((1,.cells true true true 1 [])::(0,o)::hp) 1 (.aE e us.length (us.map aa)))=some (.ak ct 0 us.length,(ct,.cells true true false 1 (us.map aa))::dJ ((1,.cells true true true 1 [])::(0,o)::hp) 1,ct+1):=by
 have h1:iN ((1,.cells true true true 1 [])::(0,o)::hp) 1 (.aE e us.length (us.map aa))=some (us.length,us.map aa):=by
  simp [iN]
 rw [h1,fA (cs:=[]) (pu:=true) (ex:=true) rfl (by simp) (by omega) (by omega) (by decide) (aeK us),aeL,yg];rfl
def avZ {l:List Int} (hd:dg l) (hn:nz l) (h:0<l.length):1000000000^(l.length-1)<=dv l:=Po hn hd (fun e=>by subst e;simp at h)
def aqJ {n top f V:Nat} (hf:f=1000000000/(top+1)) (ht0:0<top) (ht:top<1000000000) (h1:V<1000000000^(n-1)*(top+1)) (hn:0<n):0<f/\f<1000000000/\V*f<1000000000^n:=by
 have h2:f*(top+1)<=1000000000:=by rw [hf];exact Nat.div_mul_le_self _ _
 have h3:0<f:=by rw [hf];exact Nat.div_pos (by omega) (by omega)
 refine ⟨h3,?_,?_⟩
 ·have:=y8 f (show 2<=top+1 by omega)
  omega
 ·have e1:=wT h1 h3;have e2:=y8 (1000000000^(n-1)) h2;rw [<-xi,show (n-1).succ=n by omega] at e2
  grind
section
variable {P:aM} {L:Lib}
def av0 (h:Has P L 289 zb) (me:Has P L 293 Cm) (qW:Has P L 299 Co) (dd:Has P L 300 mJ) (rV:Has P L 301 AO) {v w:AV} {a b:List Int} (hv:bq v a) (hw:bq w b) (ha:dg a) (hb:dg b) (na:nz a) (nb:nz b) (la:a.length<=8000000000) (lb:2<=b.length) (ec:aj P L 296 [v,w] (aa (dY (dv a) (dv b)))) (hc:dv b<=dv a):
  ∃q r lq lr,aj P L 289 [v,w] (.az [q,r])/\bq q lq/\bq r lr/\dg lq/\nz lq/\dg lr/\nz lr/\dv lq=dv a/dv b/\dv lr=dv a%dv b:=by
 have eK:¬dY (dv a) (dv b)<0:=by unfold dY;rw [yo (by omega)];split<;>decide
 have axP:=avZ hb nb (by omega);have hba:b.length<=a.length:=by
  have:=kh ha
  have h1:1000000000^(b.length-1)<1000000000^a.length:=by omega
  have:=(yai (show 1<1000000000 by decide)).1 h1
  omega
 obtain ⟨n,hn⟩:∃n,n=b.length:=⟨_,rfl⟩;have az7:=iQ hb (n-1);have Cd:=last_pos hb nb (by omega);rw [<-hn] at Cd;obtain ⟨top,py⟩:∃v:Nat,b.getD (n-1) 0=v:=⟨(b.getD (n-1) 0).toNat,by omega⟩;have aiP:=rR hw (i:=n-1) (by omega);rw [py] at az7 Cd aiP;have hbt:=qu (l:=b) (n-1);rw [show n-1+1=n by omega,yC (by omega),py,wq] at hbt;have axQ:=kh (Dt hb (n-1));rw [yI,xt (by omega)] at axQ;obtain ⟨f,hf⟩:∃f,f=1000000000/(top+1):=⟨_,rfl⟩;obtain ⟨E5,hfB,hfV⟩:=aqJ (n:=n) (V:=dv b) hf (by omega) (by omega) (by rw [xK,yh];omega) (by omega);have hIf:bq (.aE true 1 [aa f]) [(f:Int)]:=kP true [(f:Int)];have gf:dg [(f:Int)]:=mA.2 (by omega);have vf:dv [(f:Int)]=f:=by simp [dv]
 obtain ⟨v',vs,e1,fh,hsv,EV,MG,zQ⟩:=Wx me dd hw hIf hb gf (by omega) (by simp);obtain ⟨u',C7,e2,jJ,EP,HI,nus,MR⟩:=Wx me dd hv hIf ha gf (by omega) (by simp);rw [vf] at zQ MR;have sj:0<dv b:=by have:=Nat.pow_pos (n:=b.length-1) (show 0<1000000000 by decide);omega
 have Bm:vs.length=n:=by
  have h1:vs.length<=n:=jQ EV MG (by rw [zQ];exact hfV)
  have h2:dv b<=dv vs:=by rw [zQ];exact Nat.le_mul_of_pos_right _ E5
  have h3:=kh EV;have h4:1000000000^(n-1)<1000000000^vs.length:=by rw [hn];omega
  have:=(yai (show 1<1000000000 by decide)).1 h4
  omega
 have Rr:C7.length<=a.length+1:=by
  refine jQ HI nus ?_;rw [MR,xi];exact yal (kh ha) hfB
 have aiQ:0<C7.length:=by
  rcases xB C7.length with e | e
  ·have h1:0<dv a*f:=yaq (by omega) E5;rw [yF e] at MR;simp only [dv] at MR;omega
  ·exact e
 have fp:0<vs.getD (n-1) 0:=by
  have:=last_pos EV MG (by omega)
  rwa [Bm] at this
 obtain ⟨m,hm⟩:∃m,m=a.length+1-n:=⟨_,rfl⟩;have cg:∀ct:Nat,om ct 1 8 [.int .i64 0] (some m) (some m)=some (.ak ct 0 m,.cells true true true 1 ((yf m (0:Int)).map aa)):=fun ct=>by
  rw [sQ (sz:=1) (by omega) (by omega) (by rfl) (by rfl),Sn];rfl
 obtain ⟨e,rfl⟩:∃e,u'= .aE e C7.length (C7.map aa):=by
  rcases jJ with ⟨rfl,h0⟩ | ⟨e,rfl⟩
  ·rw [List.map_eq_nil_iff] at h0;rw [h0] at aiQ;simp at aiQ
  ·exact ⟨e,by rw [yk]⟩
 have U7:∀us:List Int,us.length=a.length+1->dv us=dv a*f->dv (us.drop m)<dv vs:=fun us hl hd=>by
  have e1:=Ti us m (by omega);have e2:=kh ha;have e3:=wT e2 E5;have e4:1000000000^a.length=1000000000^m*1000000000^(n-1):=by rw [<-Nat.pow_add];congr 1;omega
  rw [<-hd,e4,xx] at e3;have e5:1000000000^m*dv (us.drop m)<1000000000^m*(1000000000^(n-1)*f):=by omega
  refine yV (Nat.lt_of_mul_lt_mul_left e5) ?_;rw [zQ,hn];exact Nat.mul_le_mul_right _ axP
 have jB:∃us qs,(us.length=a.length+1/\qs.length=m/\dg us/\dg qs/\dv us+dv qs*dv vs=dv a*f/\dv us<dv vs)/\
   ∃q1 r1 lr,bq q1 (eA qs)/\bq r1 lr/\dg lr/\nz lr/\dv lr=dv (us.take n)/f/\aj P L 289 [v,w] (.az [q1,r1]):=by
  unfold aj at ec e1 e2;unfold aj;rw [aI h];have Ly:IntKind.wrap .i64 ((1000000000:Int).tdiv ((top+1:Nat):Int))=(f:Int):=by
   rw [wG (by decide),show (1000000000:Int)/((top+1:Nat):Int)=((1000000000/(top+1):Nat):Int) from rfl,<-hf,wrap64 (by omega) (by omega)]
  simp only [go_sem,ya,yd,yJ,yp,yh,zb,hv.an,hw.len,hw.an,ec,eK,show ¬(n:Int)=1 by omega,<-hn,show (n:Int)-1=((n-1:Nat):Int) by omega,wrapN (n:=n-1) (by omega),aiP,show ((top:Nat):Int)+1=((top+1:Nat):Int) from rfl,wrapN (n:=top+1) (by omega),hZ _ _ _ (show ((top+1:Nat):Int)≠0 by omega),Ly,e1,hsv,fh.len,Bm,e2,EP,asU (us:=C7) (e:=e) (by omega)];generalize bh:D P L (.loop [0,8,9,10,11] J8) _=q0;obtain ⟨ex,st,rfl,tm,us,rfl,rfl,t8,t9,t10,t11,lu,gu,vu⟩:=bD bh (asT (P:=P) (L:=L) (f:=(f:Int)) (n:=n) (A:=dv a*f) hv fh (by omega) (a.length+1-C7.length)) ⟨C7,by
   simp only [go_sem,ya,yd,aw,aq hv.pu,au _ hv.pu,aq fh.pu,au _ fh.pu]<;>rfl,by omega,HI,MR⟩
  have em:((a.length+1:Nat):Int)-(n:Int)=(m:Int):=by omega
  have em1:(m:Int)-1=((m-1:Nat):Int):=by omega
  simp only [go_sem,ya,yd,aw,aq fh.pu,au _ fh.pu,t8,t9,t10,t11,em,wrapN (n:=m) (by omega),cg,em1,wrapN (n:=m-1) (by omega)];generalize fK:D P L (.loop [8,9,10,11,12,13] Ka) _=q1;obtain ⟨ex,st,rfl,rX,C8,qs,rfl,rfl,t8,t10,t11,t12,lu1,MJ,gu1,gq1,aR,aU⟩:=bD fK (asS (P:=P) (L:=L) rV (f:=(f:Int)) fh EV Bm (by omega) (show n<a.length+1 by omega) (by omega) (by omega) fp (U0:=dv a*f) m) ⟨m,us,yf m 0,by
   rw [show ((m-1:Nat):Int)=(m:Int)-1 by omega]
   simp only [go_sem,ya,yd,aw,aq fh.pu,au _ fh.pu]<;>rfl,rfl,yq _,lu,by simp,gu,abf m,fun i _=>ZI m i,by rw [abe,yag,y7,vu],U7 us lu vu⟩
  have mL:∀(hp:Hp) tm (y:X),ao hp 1=some (.cells true true false 1 (C8.map aa))->dl tm (a.length+1) (some y)=some n->fG hp (.sl 1) (.ak 1 0 (a.length+1)) tm none (some y)=some (.ak 1 0 n):=fun hp tm y h1 h2=>abr h1 h2 (by omega) (by omega)
  obtain ⟨e',MI⟩:∃e',∀hp:Hp,kw 0 n (some (false,1,C8.map aa,hp))=some (.aE e' n ((C8.take n).map aa),hp):=by
   refine ⟨false&&Nat.blt 0 1&&yz n (C8.map aa).length,fun hp=>?_⟩;simp only [kw,yg,yh,slice,yL,<-List.map_take];rw [yx (by simp;omega)];rfl
  have ltk:(C8.take n).length=n:=by rw [yI];omega
  have jI:=kP e' (C8.take n);rw [ltk] at jI;obtain ⟨r0,f1,fF,az8⟩:=Cu dd jI (by omega);obtain ⟨r1,lr,f2,cO,aEA,axR,dr,nr,vr⟩:=aiD qW dd fF (BH (Dt gu1 n)) (by have:=NP (C8.take n);omega) E5 hfB;have MH:=kP true qs;rw [MJ] at MH;obtain ⟨q1,f3,fK,az9⟩:=Cu dd MH (by omega);rw [zZ] at vr;unfold aj at f1 f2 f3;refine ⟨C8,qs,⟨lu1,MJ,gu1,gq1,aR,aU⟩,q1,r1,lr,fK,cO,dr,nr,vr,?_⟩;have pQ:kX 1 0 (AV.ak 0 0 1)=some (.ptr 0 0):=bA 0 0 (show 0<1 by omega)
  simp only [go_sem,ya,yd,aw,t8,t10,t11,t12,mL,dS,MI,f1,az8,fF.an,pQ,f2,axR,fun hp=>lP (hp:=hp) (k:=m) (sz:=1) (cs:=qs.map aa) true (by simp [MJ]) (by decide),f3,az9];rcases fK with ⟨rfl,_⟩ | ⟨_,rfl⟩<;>rcases cO with ⟨rfl,_⟩ | ⟨_,rfl⟩<;>rfl
 obtain ⟨us,qs,⟨lu,lq,gu,gq,aR,aU⟩,q1,r1,lr,fK,cO,dr,nr,vr,e⟩:=jB;rw [zQ] at aR aU;have Ly:dv qs=dv a/dv b:=by
  rw [<-Nat.mul_div_mul_right _ _ E5,<-aR,yaP,xO,Nat.mul_add_div (yaq sj E5),vc aU,y7]
 have Rv:dv us=(dv a%dv b)*f:=by
  rw [<-Nat.mul_mod_mul_right,<-aR,yaP,xO (dv qs),Nat.mul_add_mod,yY aU]
 have kV:=Ti us n (by omega);have jc:dv (us.drop n)=0:=by
  rcases xB (dv (us.drop n)) with h0 | h0
  ·exact h0
  ·have:=y8 (1000000000^n) h0
   omega
 rw [jc,xM,y7] at kV;rw [<-kV,Rv,Nat.mul_div_cancel _ E5] at vr;exact ⟨q1,r1,_,lr,e,fK,cO,BH gq,FH _,dr,nr,by rw [zZ,Ly],vr⟩
def ag1 (h:Has P L 289 zb) (me:Has P L 293 Cm) (pD:Has P L 296 zc) (qW:Has P L 299 Co) (dd:Has P L 300 mJ) (rV:Has P L 301 AO) {v w:AV} {a b:List Int} (hv:bq v a) (hw:bq w b) (ha:dg a) (hb:dg b) (na:nz a) (nb:nz b) (la:a.length<=8000000000) (lb:b.length<=8000000000) (h0:0<dv b):
  ∃q r lq lr,aj P L 289 [v,w] (.az [q,r])/\bq q lq/\bq r lr/\dg lq/\nz lq/\dg lr/\nz lr/\dv lq=dv a/dv b/\dv lr=dv a%dv b:=by
 by_cases hl:b.length<=1
 ·exact azS h pD qW dd hv hw ha hb na nb (by omega) hl h0
 have ec:=Ww pD hv hw ha hb na nb (by omega) (by omega);by_cases hc:dv a<dv b
 ·unfold aj at ec;have eK:dY (dv a) (dv b)= -1:=by unfold dY;rw [yA hc]
  rw [eK] at ec;refine ⟨.ab,v,[],a,?_,rI,hv,rfl,rfl,ha,na,?_,?_⟩
  ·unfold aj;rw [aI h];simp only [go_sem,ya,zb,hv.an,hw.an,ec,show (-1:Int)<0 by decide];rcases hv with ⟨rfl,_⟩ | ⟨e,rfl⟩<;>rfl
  ·rw [vc hc];rfl
  ·rw [yY hc]
 ·exact av0 h me qW dd rV hv hw ha hb na nb la (by omega) ec (by omega)
def ag2 (h:Has P L 275 P2) (LH:Has P L 289 zb) (me:Has P L 293 Cm) (pD:Has P L 296 zc) (qW:Has P L 299 Co) (dd:Has P L 300 mJ) (rV:Has P L 301 AO) {v w:AV} {a b:List Int} (hv:bq v a) (hw:bq w b) (ha:dg a) (hb:dg b) (na:nz a) (nb:nz b) (la:a.length<=8000000000) (lb:b.length<=8000000000):
  ∃r l,aj P L 275 [v,w] r/\bq r l/\dg l/\nz l/\dv l=wW (dv a) (dv b):=by
 have key:=fk (P:=P) (L:=L) (live:=[0,1]) (a:=J6)
  (I:=fun k st=>∃x y lx ly,st=⟨[(0,x),(1,y)],[],0,0⟩/\bq x lx/\bq y ly/\dg lx/\nz lx/\dg ly/\nz ly/\lx.length<=8000000000/\ly.length<=8000000000/\dv ly=k/\wW (dv lx) (dv ly)=wW (dv a) (dv b))
  (Q:=fun ex st=>∃tm ct,st=⟨tm,[],ct,0⟩/\ex= .exit 0/\∃x lx,af tm 0=x/\bq x lx/\dg lx/\nz lx/\dv lx=wW (dv a) (dv b)) ?_
 ·unfold aj;rw [aI h];simp only [go_sem,P2];generalize hq:D P L (.loop [0,1] J6) _=q;obtain ⟨ex,st,rfl,tm,ct,rfl,rfl,x,lx,h2,hx,dx,nx,vx⟩:=bD hq (key (dv b)) ⟨v,w,a,b,by simp only [go_sem,ya,aw,aq hv.pu,au _ hv.pu,aq hw.pu,au _ hw.pu]<;>rfl,hv,hw,ha,na,hb,nb,la,lb,rfl,rfl⟩
  refine ⟨x,lx,?_,hx,dx,nx,vx⟩;simp only [go_sem,aw,h2,hx.fm,aq hx.pu,au _ hx.pu]
 ·rintro k st ⟨x,y,lx,ly,rfl,hx,hy,dx,nx,dy,ny,llx,lly,rfl,hg⟩;by_cases h0:ly=[]
  ·right
   subst h0;simp only [go_sem,ya,J6,hy.len,yO,show ¬(0:Int)<((0:Nat):Int) by omega];refine ⟨_,_,rfl,by simp,_,_,rfl,rfl,x,lx,by simp only [go_sem,ya],hx,dx,nx,?_⟩;rw [<-hg];simp [dv]
  ·left
   have hp:0<dv ly:=by
    rcases xB (dv ly) with e | e
    ·exact absurd (acD ny dy e) h0
    ·exact e
   have hl:0<ly.length:=uz.2 h0;obtain ⟨q,r,lq,lr,e1,hq,hr,dq,nq,dr,nr,vq,vr⟩:=ag1 LH me pD qW dd rV hx hy dx dy nx ny llx lly hp;have aU:dv lr<dv ly:=by rw [vr];exact Nat.mod_lt _ hp
   have hB:=kh dy;simp only [go_sem,ya,J6,hx.an,hy.len,hy.an,show (0:Int)<ly.length by omega,e1,hq.bZ,hr.bZ];refine ⟨_,dv lr,rfl,aU,y,r,ly,lr,?_,hy,hr,dy,ny,dr,nr,by omega,xv (jQ dr nr (Nat.lt_trans aU hB)) lly,rfl,?_⟩
   ·simp only [go_sem,ya,aw,aq hy.pu,au _ hy.pu,aq hr.pu,au _ hr.pu]<;>rfl
   ·rw [<-hg,vr,tq (dv ly),<-Nat.gcd_rec,tq]
def av1 (AR:Has P L 290 GN) {neg:Bool} {N:Nat} (hN:(aD N).length<=180000000000):
  ∀k s,(∃(i m:Nat) (out:List Int),m=k/\out.length=i/\dg out/\dv out+1000000000^i*m=N/\(aD m).length+9*i<=180000000000/\
    ((i=0/\aG [0,2,3,4] s=⟨[(0,.str (aD m)),(2,.ptr 0 0),(3,.bool neg),(4,.ab)],[(0,.cells true true true 2 [.bool false,.ab])],1,0⟩)\/
    (0<i/\aG [0,2,3,4] s=⟨[(0,.str (aD m)),(2,.ptr 0 0),(3,.bool neg),(4,.ak 1 0 i)],[(1,.cells true true false 1 (out.map aa)),(0,.cells true true true 2 [.bool false,.ab])],2,0⟩)))->
   ∃ex s',D P L (.loop [0,2,3,4] As) s=some (ex,s')/\∃tm i m out,ex= .exit 0/\m<1000000000/\out.length=i/\dg out/\dv out+1000000000^i*m=N/\i<20000000000/\af tm 0= .str (aD m)/\af tm 2= .ptr 0 0/\af tm 3= .bool neg/\
    ((i=0/\af tm 4= .ab/\s'=⟨tm,[(0,.cells true true true 2 [.bool false,.ab])],1,0⟩)\/(0<i/\af tm 4= .ak 1 0 i/\s'=⟨tm,[(1,.cells true true false 1 (out.map aa)),(0,.cells true true true 2 [.bool false,.ab])],2,0⟩)):=by
 intro dq sq;generalize bh:aG [0,2,3,4] sq=s0;revert bh s0 sq dq;apply dj;rintro k s ⟨i,m,out,rfl,hlen,hd,aR,hl,hs⟩;by_cases hm:1000000000<=m
 ·left
  obtain ⟨q,hq⟩:∃q,q=m/1000000000:=⟨_,rfl⟩;obtain ⟨r,hr⟩:∃r,r=m%1000000000:=⟨_,rfl⟩;have mL:=aqn hm;rw [<-hq,<-hr] at mL;have eJ:=Td 9 r;have hqp:=z6 q;have hlm:(aD m).length=(aD q).length+9:=by rw [mL,yG,eJ]
  have c1:iW (aD m) (some (aD q).length) (some (aD m).length)=some (.str (jh 9 r)):=by
   rw [my (by omega) (yq _),xJ,mL,vj]
  have c2:iW (aD m) (some 0) (some (aD q).length)=some (.str (aD q)):=by
   rw [my (by omega) (by omega),yL,mL,uH]
  have e1:=Lt AR (s:=jh 9 r) (v:=r) (by omega) (by rw [abp 9 r 0 (by omega)];simp)
  unfold aj at e1;have G2:dg (out++[(r:Int)]):=iM.2 ⟨hd,mA.2 (by omega)⟩;have ag3:dv (out++[(r:Int)])+1000000000^(i+1)*q=N:=by
   rw [nU,hlen,<-aR,xi];have e:=Nat.mod_add_div m 1000000000;rw [<-hr,<-hq] at e;rw [<-e];simp only [dv,wq,xM,y7,xK,xx];omega
  have PH:((aD m).length:Int)-9=((aD q).length:Int):=by omega
  rcases hs with ⟨h0,rfl⟩ | ⟨h0,rfl⟩
  ·subst h0;have nC:out=[]:=yF hlen;subst nC
   simp only [go_sem,ya,yd,xj,yJ,yp,yh,As,show (9:Int)<((aD m).length:Int) by omega,PH,wrapN (n:=(aD q).length) (by omega),fb,fB,dS,c1,c2,e1,fY];refine ⟨_,q,rfl,by omega,1,q,[]++[(r:Int)],rfl,rfl,G2,ag3,by omega,.inr ⟨by omega,?_⟩⟩;rfl
  ·simp only [go_sem,ya,yd,yp,yh,As,show (9:Int)<((aD m).length:Int) by omega,PH,wrapN (n:=(aD q).length) (by omega),fb,fB,dS,c1,e1]
   rw [fA (ex:=false) (pu:=true) (cs:=out.map aa) (by simp only [go_sem,ya]) (by rw [yk,hlen,yh]) (by omega) (by omega) (by decide) (by simp only [go_sem])]
   simp only [go_sem,ya,yd,fb,fB,dS,PH,wrapN (n:=(aD q).length) (by omega),c2];refine ⟨_,q,rfl,by omega,i+1,q,out++[(r:Int)],rfl,by simp [hlen],G2,ag3,by omega,.inr ⟨by omega,?_⟩⟩;rw [xg];simp only [go_sem,ya,yd,aw]<;>rfl
 ·right
  have h9:(aD m).length<=9:=sG (k:=8) (by omega);have hp0:=z6 m;rcases hs with ⟨h0,rfl⟩ | ⟨h0,rfl⟩
  ·simp only [go_sem,As,show ¬(9:Int)<((aD m).length:Int) by omega];exact ⟨_,_,rfl,by simp,_,i,m,out,rfl,by omega,hlen,hd,aR,by omega,by simp only [go_sem,ya],by simp only [go_sem,ya],by simp only [go_sem,ya],.inl ⟨h0,by simp only [go_sem,ya],rfl⟩⟩
  ·simp only [go_sem,As,show ¬(9:Int)<((aD m).length:Int) by omega];exact ⟨_,_,rfl,by simp,_,i,m,out,rfl,by omega,hlen,hd,aR,by omega,by simp only [go_sem,ya],by simp only [go_sem,ya],by simp only [go_sem,ya],.inr ⟨h0,by simp only [go_sem,ya],rfl⟩⟩
def aiR (h:Rb P L) {n:Int} (hn:(aD n.natAbs).length<=180000000000):∃r,aj P L 288 [.str (aY n)] r/\lK r n:=by
 obtain ⟨u,hu⟩:∃u,u=aD n.natAbs:=⟨_,rfl⟩;obtain ⟨b,t,hb,nI,rq⟩:=Fw n.natAbs;have hs:aY n=(if n<0 then [45] else [])++u:=by rw [hu,oT]
 have CS:0<u.length:=by rw [hu];exact z6 _
 have sd:u[0]=b:=by
  have:u=b::t:=by rw [hu,hb]
  simp [this]
 have key:∀(s:St),aG [0,2,3,4] s=⟨[(0,.str u),(2,.ptr 0 0),(3,.bool (decide (n<0))),(4,.ab)],[(0,.cells true true true 2 [.bool false,.ab])],1,0⟩->
   ∃ex s',D P L (.loop [0,2,3,4] As) s=some (ex,s')/\∃tm i m out,ex= .exit 0/\m<1000000000/\out.length=i/\dg out/\dv out+1000000000^i*m=n.natAbs/\i<20000000000/\af tm 0= .str (aD m)/\af tm 2= .ptr 0 0/\af tm 3= .bool (decide (n<0))/\
    ((i=0/\af tm 4= .ab/\s'=⟨tm,[(0,.cells true true true 2 [.bool false,.ab])],1,0⟩)\/(0<i/\af tm 4= .ak 1 0 i/\s'=⟨tm,[(1,.cells true true false 1 (out.map aa)),(0,.cells true true true 2 [.bool false,.ab])],2,0⟩)):=fun s hc=>
  av1 (P:=P) (L:=L) h.AR (neg:=decide (n<0)) hn n.natAbs s ⟨0,n.natAbs,[],rfl,rfl,rfl,by simp [dv],by omega,.inl ⟨rfl,by rw [hc,hu]⟩⟩
 have fin:∀(i m:Nat) (out:List Int),m<1000000000->out.length=i->dg out->dv out+1000000000^i*m=n.natAbs->i<20000000000->∃w l,bK P L (D P L) 294 [.bool (decide (n<0)),.aE false (i+1) ((out++[(m:Int)]).map aa)]=some (.agg [.bool (decide (n<0)),w])/\bq w l/\dg l/\nz l/\dv l=n.natAbs:=fun i m out h1 h2 h3 h4 h5=>by
  have hv:=kP false (out++[(m:Int)]);have hd:dg (out++[(m:Int)]):=iM.2 ⟨h3,mA.2 (by omega)⟩;have aR:dv (out++[(m:Int)])=n.natAbs:=by rw [nU,h2];simp [dv];exact h4
  obtain ⟨r,e,hr⟩:=AS h.jS h.dd (decide (n<0)) hv hd (by simp;omega);have pT:cM (decide (n<0)) (dv (out++[(m:Int)]))=n:=by
   rw [aR];unfold cM;by_cases h0:n<0
   ·simp only [h0,yu,xE];omega
   ·simp only [h0,yv,yN,xn];omega
  rw [pT] at hr;obtain ⟨w,l,rfl,hw,gE,fU,dM⟩:=hr;simp only [yG,List.length_singleton,h2] at e;exact ⟨w,l,e,hw,gE,fU,dM⟩
 unfold aj;rw [hs];by_cases h0:n<0
 ·rw [yA h0,aI h.aiL];have mj:iW (45::u) (some 1) (some (u.length+1))=some (.str u):=by rw [my (s:=45::u) (l:=1) (h:=u.length+1) (by omega) (by simp)];simp
  simp only [h0,yu] at key fin ⊢;simp only [go_sem,ya,yd,P7,bc,show (0:Int)<((u.length+1:Nat):Int) by omega,xr,xp,Ej,yu,fb,fB,dS,mj];generalize hq:D P L (.loop [0,2,3,4] As) _=q;obtain ⟨ex,s,rfl,tm,i,m,out,rfl,hm,hlen,hd,aR,hi,t0,t2,t3,nk⟩:=bD hq key (by simp only [go_sem,ya,yd,aw]<;>rfl)
  have e1:=Lt h.AR (s:=aD m) (v:=m) (by have:=sG (k:=8) (n:=m) (by omega);omega) (Dm m);have cB:i<20000000000:=hi;obtain ⟨w,l,e2,hw,gE,fU,dM⟩:=fin i m out hm hlen hd aR cB;refine ⟨_,?_,w,l,rfl,hw,gE,fU,dM⟩;unfold aj at e1;rcases nk with ⟨zR,t4,rfl⟩ | ⟨zR,t4,rfl⟩
  ·subst zR;have nC:out=[]:=yF hlen;subst nC;have jI:∀hp:Hp,kw 0 1 (some (false,1,[AV.int .i64 (m:Int)],hp))=some (.aE false 1 [AV.int .i64 (m:Int)],hp):=fun hp=>rfl
   simp only [xp,xd,vN,yg] at e2;simp only [go_sem,ya,yd,xj,yJ,yp,yh,aw,t0,t2,t3,t4,e1,fY,jI,e2,bO,hw.pu,hw.one,ie];rcases hw with ⟨rfl,_⟩ | ⟨e,rfl⟩<;>simp only [h0,yu]<;>rfl
  ·simp only [go_sem,ya,yd,yp,yh,aw,t0,t2,t3,t4,e1]
   rw [fA (ex:=false) (pu:=true) (cs:=out.map aa) (by simp only [go_sem,ya]) (by rw [yk,hlen,yh]) (by omega) (by omega) (by decide) (by simp only [go_sem])];have jI:∀hp:Hp,kw 0 (i+1) (some (false,1,out.map aa++[AV.int .i64 (m:Int)],hp))=some (.aE false (i+1) (out.map aa++[AV.int .i64 (m:Int)]),hp):=fun hp=>lP false (by simp [hlen]) (by decide)
   simp only [xg,xd,vN] at e2;simp only [go_sem,ya,yd,jI,e2,bO,hw.pu,hw.one,ie,uk];rcases hw with ⟨rfl,_⟩ | ⟨e,rfl⟩<;>simp only [h0,yu]<;>rfl
 ·rw [yo h0,aI h.aiL,xp];simp only [h0,yv] at key fin ⊢;simp only [go_sem,ya,yd,P7,bc,show (0:Int)<(u.length:Int) by omega,rM CS,sd,show ¬((b:Nat):Int)=45 by omega];generalize hq:D P L (.loop [0,2,3,4] As) _=q;obtain ⟨ex,s,rfl,tm,i,m,out,rfl,hm,hlen,hd,aR,hi,t0,t2,t3,nk⟩:=bD hq key (by simp only [go_sem,ya,yd,aw]<;>rfl)
  have e1:=Lt h.AR (s:=aD m) (v:=m) (by have:=sG (k:=8) (n:=m) (by omega);omega) (Dm m);have cB:i<20000000000:=hi;obtain ⟨w,l,e2,hw,gE,fU,dM⟩:=fin i m out hm hlen hd aR cB;refine ⟨_,?_,w,l,rfl,hw,gE,fU,dM⟩;rcases nk with ⟨zR,t4,rfl⟩ | ⟨zR,t4,rfl⟩
  ·subst zR;have nC:out=[]:=yF hlen;subst nC;have jI:∀hp:Hp,kw 0 1 (some (false,1,[AV.int .i64 (m:Int)],hp))=some (.aE false 1 [AV.int .i64 (m:Int)],hp):=fun hp=>rfl
   simp only [xp,xd,vN,yg] at e2;simp only [go_sem,ya,yd,xj,yJ,yp,yh,aw,t0,t2,t3,t4,e1,fY,jI,e2,bO,hw.pu,hw.one,ie];rcases hw with ⟨rfl,_⟩ | ⟨e,rfl⟩<;>simp only [h0,yv]<;>rfl
  ·simp only [go_sem,ya,yd,yp,yh,aw,t0,t2,t3,t4,e1]
   rw [fA (ex:=false) (pu:=true) (cs:=out.map aa) (by simp only [go_sem,ya]) (by rw [yk,hlen,yh]) (by omega) (by omega) (by decide) (by simp only [go_sem])];have jI:∀hp:Hp,kw 0 (i+1) (some (false,1,out.map aa++[AV.int .i64 (m:Int)],hp))=some (.aE false (i+1) (out.map aa++[AV.int .i64 (m:Int)]),hp):=fun hp=>lP false (by simp [hlen]) (by decide)
   simp only [xg,xd,vN] at e2;simp only [go_sem,ya,yd,jI,e2,bO,hw.pu,hw.one,ie,uk];rcases hw with ⟨rfl,_⟩ | ⟨e,rfl⟩<;>simp only [h0,yv]<;>rfl
end
def Ns (n:Int) (r:List Nat):bY (aY n++r)=(aY n).length+bY r:=by
 rw [<-oT]
 split
 ·simp only [xr,xp,bY,yy];rw [yo (by decide),Nq r (Ja _)];omega
 ·rw [xp];exact Nq r (Ja _)
def Tj:∀{a b:List Nat},de a b=true->a=b
 | [],[],_=>rfl
 | [],_::_,h=>by simp [de] at h
 | _::_,[],h=>by simp [de] at h
 | x::a,y::b,h=>by
  simp only [de,yi] at h;rw [Nat.eq_of_beq_eq_true h.1,Tj h.2]
def ag4 {n:Int} {d:Nat} (h:n≠0):de (TT n d) [48]=false:=by
 cases hb:de (TT n d) [48] with
 | false=>rfl
 | true=>
  have e:=Tj hb;unfold TT at e;by_cases h0:n<0
  ·rw [nV h0] at e;simp at e
  ·obtain ⟨m,rfl⟩:∃m:Nat,n=m:=⟨n.toNat,by omega⟩;rw [mw] at e;obtain ⟨b,r,cA,_,_⟩:=Fw m;rw [cA] at e;simp only [xr,List.cons.injEq,List.append_eq_nil_iff] at e;have hv:=Dm m;rw [cA,e.1,e.2.1] at hv
   have:(some 0:Option Nat)=some m:=hv
   grind
section
variable {P:aM} {L:Lib}
def av2 (h:Rb P L):∃r,aj P L 281 [aa 1] r/\lK r 1:=by
 obtain ⟨r,e,hr⟩:=AS h.jS h.dd false (kP false [(1:Int)]) (by decide) (by decide);obtain ⟨w,l,rfl,hw,hd,hz,hv⟩:=hr;refine ⟨_,?_,w,l,rfl,hw,hd,hz,hv⟩;simp only [xd,vN,yy,yO,yg] at e;have jI:∀hp:Hp,kw 0 1 (some (false,1,[AV.int .i64 1],hp))=some (.aE false 1 [AV.int .i64 1],hp):=fun hp=>rfl
 unfold aj at e ⊢;rw [aI h.az2];simp only [go_sem,ya,yd,xj,yJ,yp,yh,VP,bc,Int.reduceLT,yv,OU,aw,adn,uh,yU,yR,yu,jt _ _ _ (show (1000000000:Int)≠0 by decide),hZ _ _ _ (show (1000000000:Int)≠0 by decide),show Int.tmod 1 1000000000=1 from rfl,show Int.tdiv 1 1000000000=0 from rfl,show IntKind.wrap .i64 0=0 from rfl,fY,jI,e,hw.pu,hw.one,bO,ie];rcases hw with ⟨rfl,_⟩ | ⟨e,rfl⟩<;>rfl
def aiS (h:Rb P L) {n:Int} {d:Nat} (hn:(aD n.natAbs).length<=144000000000) (hd:(aD d).length<=144000000000):
  ∃x y,aj P L 274 [.str (TT n d)] (.az [x,y])/\lK x n/\lK y d:=by
 obtain ⟨x,e1,hx⟩:=aiR h (n:=n) (by omega);have hli:(aY n).length<=(aD n.natAbs).length+1:=by rw [<-oT];split<;>simp
 by_cases h1:d=1
 ·subst h1;obtain ⟨y,e2,hy⟩:=av2 h;have hT:TT n 1=aY n:=by unfold TT;simp
  have hs:=Ns n [];rw [xT] at hs;have e3:=GV h.Ct (s:=aY n) (by omega);rw [hs] at e3;refine ⟨x,y,?_,hx,hy⟩;obtain ⟨xw,xl,rfl,eP,_,_,_⟩:=hx;obtain ⟨yw,yl,rfl,eQ,_,_,_⟩:=hy;rw [hT];unfold aj at e1 e2 e3 ⊢;rw [aI h.aiI];simp only [go_sem,ya,yd,P1,bc,e3,bY,y7,yu,e1,e2,bO,eP.pu,eP.one,eQ.pu,eQ.one,ie];rcases eP with ⟨rfl,_⟩ | ⟨e,rfl⟩<;>rcases eQ with ⟨rfl,_⟩ | ⟨e',rfl⟩<;>rfl
 ·obtain ⟨y,e2,hy⟩:=aiR h (n:=(d:Int)) (by simp;omega);rw [mw] at e2;obtain ⟨s,CZ⟩:∃s,s=TT n d:=⟨_,rfl⟩;have hT:s=aY n++47::aD d:=by rw [CZ];unfold TT;rw [yo h1]
  have hs:bY s=(aY n).length:=by rw [hT,Ns];rfl
  have hlen:s.length=(aY n).length+(aD d).length+1:=by rw [hT];simp;omega
  have e3:=GV h.Ct (s:=s) (by omega);rw [hs] at e3;have c1:iW s (some 0) (some (aY n).length)=some (.str (aY n)):=by
   rw [my (by omega) (by omega),yL,hT,uH]
  have c2:iW s (some ((aY n).length+1)) (some s.length)=some (.str (aD d)):=by
   rw [my (by omega) (yq _),xJ,hT,show aY n++47::aD d=(aY n++[47])++aD d by simp,show (aY n).length+1=(aY n++[47]).length by simp,vj]
  refine ⟨x,y,?_,hx,hy⟩;obtain ⟨xw,xl,rfl,eP,_,_,_⟩:=hx;obtain ⟨yw,yl,rfl,eQ,_,_,_⟩:=hy;rw [<-CZ];unfold aj at e1 e2 e3 ⊢;rw [aI h.aiI]
  simp only [go_sem,ya,yd,P1,bc,e3,show ¬((aY n).length:Int)=(s.length:Int) by omega,fb,fB,dS,c1,wrapN (n:=(aY n).length+1) (by omega),show ((aY n).length:Int)+1=(((aY n).length+1:Nat):Int) from rfl,c2,e1,e2,bO,eP.pu,eP.one,eQ.pu,eQ.one,ie];rcases eP with ⟨rfl,_⟩ | ⟨e,rfl⟩<;>rcases eQ with ⟨rfl,_⟩ | ⟨e',rfl⟩<;>rfl
end
def O1 {n:Int} {d:Nat} (h:n<0):TT n d=45::TT (-n) d:=by
 have e:aY (-n)=aD n.natAbs:=by
  rw [<-oT,yo (show ¬-n<0 by omega),xp,show (-n).natAbs=n.natAbs by omega]
 unfold TT;rw [nV h,e];rfl
def asV {n:Int} {d:Nat} (h:¬n<0):∃b u,TT n d=b::u/\48<=b:=by
 obtain ⟨b,r,hb,h1,_⟩:=Fw n.natAbs;refine ⟨b,r++(if d=1 then [] else 47::aD d),?_,h1⟩;unfold TT;rw [<-oT,yo h,xp,hb];rfl
def Gf (a b:AV) (r:List AV):iX 2 true (a::b::r)=some (.agg [a,b]):=rfl
def asW (k:Nat):2^k<=1000000000^k:=ue (by decide) k
def Bd.r {k:Nat} {z:Int} (h:Bd k z):z.natAbs<1000000000^k:=yV h (asW k)
def KN (r:Rat):RT r=TT r.num r.den:=rfl
def acR {n d:Int} (hd:0<d):RT (wL n d)=qS n d:=by
 obtain ⟨h1,h2⟩:=R2 (a:=n) hd;rw [asy hd,KN,h1]
 congr 1
 exact Int.ofNat.inj (show ((wL n d).den:Int)=((dK n d).toNat:Int) by rw [h2];have:=Jj (a:=n) hd;unfold dK at this ⊢;omega)
structure Rm (P:aM) (L:Lib):Prop extends Rb P L where
 aAa:Has P L 263 dB
 Qt:Has P L 273 Ed
 aAb:Has P L 284 VQ
 aAc:Has P L 285 P5
 aAd:Has P L 286 P6
 G3:Has P L 287 Lj
 rV:Has P L 301 AO
structure Rl (P:aM) (L:Lib):Prop extends Rm P L where
 aAe:Has P L 269 Lg
structure Rp (P:aM) (L:Lib):Prop extends Ras P L,Rm P L
structure Rn (P:aM) (L:Lib):Prop extends Ra P L,Rp P L
section
variable {P:aM} {L:Lib}
def ag5 (h:Rm P L) {v w:AV} {a b:List Int} (hv:bq v a) (hw:bq w b) (ha:dg a) (hb:dg b) (na:nz a) (nb:nz b) (la:a.length<=8000000000) (lb:b.length<=8000000000) (h0:0<dv b):
  ∃q r lq lr,aj P L 289 [v,w] (.az [q,r])/\bq q lq/\bq r lr/\dg lq/\nz lq/\dg lr/\nz lr/\dv lq=dv a/dv b/\dv lr=dv a%dv b:=
 ag1 h.LH h.me h.pD h.qW h.dd h.rV hv hw ha hb na nb la lb h0
def av3 (h:Rm P L) {x y:AV} {a b:List Int} {n d:Int} {K:Nat} (hK:K<=8000000000) (hx:bq x a) (ha:dg a) (na:nz a) (va:dv a=n.natAbs) (hy:bq y b) (hb:dg b) (nb:nz b) (vb:dv b=d.natAbs) (kn:Bd K n) (kd:Bd K d) (hd:0<d) {tm:Env} (t2:af tm 2= .ptr 0 0) (t3:af tm 3= .ptr 1 0):
  gJ [.t 4] (D P L (aB (aB pw.body)) ⟨tm,[(1,.cells true true true 2 [.bool (decide (d<0)),y]),(0,.cells true true true 2 [.bool (decide (n<0)),x])],2,0⟩)=some (.str (RT (wL n d))):=by
 rw [acR hd];have la:=xv (jQ ha na (by rw [va];exact kn.r)) hK
 have lb:=xv (jQ hb nb (by rw [vb];exact kd.r)) hK
 obtain ⟨g,lg,e1,hg,Yf,ng,vg⟩:=ag2 h.aiJ h.LH h.me h.pD h.qW h.dd h.rV hx hy ha hb na nb la lb;rw [va,vb,show wW n.natAbs d.natAbs=vv n d from rfl] at vg;have Mb:=Oz (a:=n) hd;have aAf:vv n d<=d.natAbs:=Int.gcd_le_natAbs_right n (by omega);have lg1:lg.length<=8000000000:=xv (jQ Yf ng (by rw [vg];exact Nat.lt_of_le_of_lt aAf kd.r)) hK
 obtain ⟨p,p',lp,lp',e2,hp,ah,dp,np,dp',np',vp,vp'⟩:=ag5 h hx hg ha Yf na ng la lg1 (by omega);obtain ⟨q,q',lq,lq',e3,hq,bI,dq,nq,dq',nq',vq,vq'⟩:=ag5 h hy hg hb Yf nb ng lb lg1 (by omega);rw [va,vg] at vp;rw [vb,vg] at vq;have hrn:(dC n d).natAbs=n.natAbs/vv n d:=by unfold dC;rw [uy (Int.gcd_dvd_left n d)];rfl
 have kF:(dK n d).natAbs=d.natAbs/vv n d:=by unfold dK;rw [uy (Int.gcd_dvd_right n d)];rfl
 have hdp:=Jj (a:=n) hd;rw [<-hrn] at vp;rw [<-kF] at vq;have aEB:=avi n d;have pT:cM (decide (n<0)) (dv lp)=dC n d:=by
  rw [vp];unfold cM;by_cases h0:n<0
  ·have:¬0<=dC n d:=fun h1=>by have:=Int.mul_nonneg (Int.le_of_lt Mb) h1;omega
   simp only [h0,yu,xE];omega
  ·have:¬dC n d<0:=fun h1=>by have:=Int.mul_neg_of_pos_of_neg Mb h1;omega
   simp only [h0,yv,yN,xn];omega
 have kn':Bd K (dC n d):=kn.le (abn n d);have WW:Bd K (dK n d):=kd.le (abo n d);have lp1:lp.length<=8000000000:=xv (jQ dp np (by rw [vp];exact kn'.r)) hK
 have MJ:lq.length<=8000000000:=xv (jQ dq nq (by rw [vq];exact WW.r)) hK
 obtain ⟨s,e4,hs⟩:=AS h.jS h.dd (decide (n<0)) hp dp (by omega);rw [pT] at hs;obtain ⟨e5,l5⟩:=aiH (K:=K) h.aiK h.rU (by omega) hs kn'.r;obtain ⟨u,e6,hu⟩:=AS h.jS h.dd false hq dq (by omega);have Bf:cM false (dv lq)=dK n d:=by rw [vq];unfold cM;simp only [yN,xn];omega
 rw [Bf] at hu;obtain ⟨e7,l7⟩:=aiH (K:=K) h.aiK h.rU (by omega) hu WW.r;obtain ⟨sw,sl,rfl,lJ,_,_,_⟩:=hs;obtain ⟨uw,ul,rfl,huw,_,_,_⟩:=hu;have aEl:0<lq.length:=by
  rcases xB lq.length with e | e
  ·rw [yF e] at vq;simp [dv] at vq;omega
  ·exact e
 by_cases RC:lq.length=1
 ·obtain ⟨z,rfl⟩:∃z,lq=[z]:=by
   cases lq with
   | nil=>simp at RC
   | cons z r=>cases r with
    | nil=>exact ⟨z,rfl⟩
    | cons y r=>simp at RC
  have MS:z=dK n d:=by simp [dv] at vq;omega
  have e8:=hq.bi (i:=0) (by simp);simp only [xy] at e8;by_cases h1:dK n d=1
  ·have hT:qS n d=aY (dC n d):=by unfold qS;rw [yA h1]
   rw [hT];simp only [go_sem,ya,pw,aB,t2,t3,hx.an,hy.an,b7,yg,dt,show ¬d<0 by omega,yv,e1,hg.an,hg.shut,e2,hp.an,hp.bZ,ah.bZ,e3,hq.len,hq.bZ,bI.bZ,e4,lJ.an,cy,bO,e5,yy,yO,show ((1:Nat):Int)=(1:Int) from rfl,yu,e8,MS,h1]
  ·have hT:qS n d=(aY (dC n d)++[47])++aY (dK n d):=by unfold qS;rw [yo h1]
   rw [hT]
   simp only [go_sem,ya,pw,aB,t2,t3,hx.an,hy.an,b7,yg,dt,show ¬d<0 by omega,yv,e1,hg.an,hg.shut,e2,hp.an,hp.bZ,ah.bZ,e3,hq.len,hq.an,hq.bZ,bI.bZ,e4,lJ.an,cy,bO,e5,yy,yO,show ((1:Nat):Int)=(1:Int) from rfl,yu,e8,MS,h1,ia (a:=aY (dC n d)) (b:=[47]) (by simp;omega),e6,huw.an,e7,ia (a:=aY (dC n d)++[47]) (b:=aY (dK n d)) (by simp;omega)]
 ·have h1:¬dK n d=1:=fun h1=>RC (by
   have h2:lq.length<=1:=acQ dq nq (by rw [vq,h1];decide)
   omega)
  have hT:qS n d=(aY (dC n d)++[47])++aY (dK n d):=by unfold qS;rw [yo h1]
  rw [hT]
  simp only [go_sem,ya,pw,aB,t2,t3,hx.an,hy.an,b7,yg,dt,show ¬d<0 by omega,yv,e1,hg.an,hg.shut,e2,hp.an,hp.bZ,ah.bZ,e3,hq.len,hq.an,hq.bZ,bI.bZ,e4,lJ.an,cy,bO,e5,show ¬(lq.length:Int)=1 by omega,ia (a:=aY (dC n d)) (b:=[47]) (by simp;omega),e6,huw.an,e7,ia (a:=aY (dC n d)++[47]) (b:=aY (dK n d)) (by simp;omega)]
def ama (n d:Int):wL (-n) (-d)=wL n d:=by rw [Rat.divInt_neg',ybO]
def U9 (h:Rm P L) {v w:AV} {n d:Int} {K:Nat} (hK:K<=8000000000) (hv:lK v n) (hw:lK w d) (kn:Bd K n) (kd:Bd K d) (hd:d≠0):aj P L 280 [v,w] (.str (RT (wL n d))):=by
 have fin:∀{x y:AV} {a b:List Int} {n' d':Int},bq x a->dg a->nz a->dv a=n'.natAbs->bq y b->dg b->nz b->dv b=d'.natAbs->Bd K n'->Bd K d'->0<d'->wL n' d'=wL n d->∀tm,af tm 2= .ptr 0 0->af tm 3= .ptr 1 0->
   D P L (.seq (bw pw.body) (bw (aB pw.body))) ⟨[(0,v),(1,w)],[],0,0⟩=some (.normal,⟨tm,[(1,.cells true true true 2 [.bool (decide (d'<0)),y]),(0,.cells true true true 2 [.bool (decide (n'<0)),x])],2,0⟩)->aj P L 280 [v,w] (.str (RT (wL n d))):=fun {x y a b n' d'} hx ha na va hy hb nb vb kn kd hd hq tm t2 t3 e=>by
  unfold aj;rw [aI h.az1];show gJ [.t 4] (D P L (.seq (bw pw.body) (.seq (bw (aB pw.body)) (aB (aB pw.body)))) ⟨[(0,v),(1,w)],[],0,0⟩)=_
  rw [Dp,e,fN,<-hq];exact av3 h hK hx ha na va hy hb nb vb kn kd hd t2 t3
 have fh:=hv;have XV:=hw;obtain ⟨x,a,rfl,hx,ha,na,va⟩:=hv;obtain ⟨y,b,rfl,hy,hb,nb,vb⟩:=hw;by_cases h0:d<0
 ·obtain ⟨r,e1,hr⟩:=aii (K:=K) h.aiM h.jS h.dd (by omega) fh kn.r;obtain ⟨s,e2,hs⟩:=aii (K:=K) h.aiM h.jS h.dd (by omega) XV kd.r;obtain ⟨x',a',rfl,sr,ED,na',va'⟩:=hr;obtain ⟨y',b',rfl,E3,cA,nb',vb'⟩:=hs;simp only [h0,yu] at e2
  refine fin sr ED na' va' E3 cA nb' vb' kn.neg kd.neg (by omega) (ama n d) _ ?_ ?_ (by
   simp only [go_sem,ya,yd,pw,bw,aB,bc,hx.pu,hx.an,hx.one,hy.pu,hy.an,hy.one,sr.pu,sr.one,E3.pu,E3.one,b7,yg,h0,yu,Gf,cy,e1,e2,bO,ie]<;>rfl)<;>simp only [go_sem,ya]
 ·refine fin hx ha na va hy hb nb vb kn kd (by omega) rfl _ ?_ ?_ (by simp only [go_sem,ya,yd,pw,bw,aB,bc,hx.pu,hx.one,hy.pu,hy.one,b7,yg,h0,yv]<;>rfl)<;>simp only [go_sem,ya]
def Ko {K:Nat} {a:Rat} (h:Hq K a):(RT a).length<=2*K+3:=by
 have h1:=Jb h.1;have h2:=Jb h.2;rw [mw] at h2;unfold RT
 grind
def acS {K:Nat} {z:Int} (h:Bd K z):(aD z.natAbs).length<=K+1:=by
 have:=Jb (z:=(z.natAbs:Int)) (k:=K) (by unfold Bd at h ⊢;omega)
 rwa [mw] at this
def KO (h:Rm P L) {a:Rat} {K:Nat} (ka:Hq K a) (hK:K<=8000000000):∃x y,aj P L 274 [.str (RT a)] (.az [x,y])/\lK x a.num/\lK y (a.den:Int):=by
 have h1:=acS ka.1;have h2:=acS ka.2
 exact aiS h.toRb (n:=a.num) (d:=a.den) (by omega) (by simpa using (by omega:(aD ((a.den:Int)).natAbs).length<=144000000000))
def ag6 (h:Rm P L) {n:Int} {d:Nat} (hl:(TT n d).length<=100000000000) (mq:n=0->d=1):aj P L 262 [.str (TT n d)] (aa (cJ n)):=by
 unfold aj;rw [aI h.azZ];by_cases h0:n<0
 ·have ck:=ag4 (n:=n) (d:=d) (by omega);rw [O1 h0] at ck ⊢;simp only [go_sem,ya,Lb,mz,ck,show (0:Int)<(((TT (-n) d).length+1:Nat):Int) by omega,Ej,yu];unfold cJ;rw [yA h0]
 ·by_cases h1:n=0
  ·subst h1
   have:=mq rfl
   subst this;rw [show TT 0 1=[48] by decide];simp only [go_sem,ya,Lb,mz,show de [48] [48]=true from rfl];rfl
  ·have ck:=ag4 (n:=n) (d:=d) h1;obtain ⟨b,u,hb,nI⟩:=asV (d:=d) h0;rw [hb] at ck ⊢;simp only [go_sem,ya,Lb,mz,ck,show (0:Int)<((u.length+1:Nat):Int) by omega,show n7 0 (.str (b::u))=some (.int .u8 (b:Nat)) from rfl,show ¬((b:Nat):Int)=45 by omega];unfold cJ;rw [yo h0,yo h1]
def alI {a:Rat} (h:a.num=0):a.den=1:=by simp_all
def ag7 (h:Rm P L) {a:Rat} {K:Nat} (ka:Hq K a) (hK:K<=8000000000):aj P L 262 [.str (RT a)] (aa (cJ a.num)):=
 ag6 h (by have:=Ko ka;rw [KN] at this;omega) alI
def axS (h:Rp P L) {a:Rat} {K:Nat} (ka:Hq K a) (hK:K<=8000000000):aj P L 268 [.str (RT a)] (.str (RT (-a))):=by
 have e:=ag7 h.toRm ka hK;have hl:=Ko ka;have en:(-a).num= -a.num:=rfl;have ed:(-a).den=a.den:=rfl;rw [KN] at hl e ⊢;rw [KN,en,ed];generalize a.num=n at*
 generalize a.den=d at*
 unfold aj at e ⊢;rw [aI h.az3];by_cases h0:n<0
 ·have es:cJ n= -1:=by unfold cJ;rw [yA h0]
  rw [es,O1 h0] at e;rw [O1 h0] at hl ⊢;have hc:iW (45::TT (-n) d) (some 1) (some ((TT (-n) d).length+1))=some (.str (TT (-n) d)):=by rw [my (s:=45::TT (-n) d) (l:=1) (h:=(TT (-n) d).length+1) (by omega) (by simp)];simp
  simp only [go_sem,ya,Lf,e,show (-1:Int)<0 by decide,fb,fB,dS,hc]
 ·by_cases h1:n=0
  ·subst h1;have es:cJ 0=0:=rfl;rw [es] at e;simp only [go_sem,ya,Lf,e,show ¬(0:Int)<0 by decide,yu,Int.neg_zero]
  ·have es:cJ n=1:=by unfold cJ;rw [yo h0,yo h1]
   rw [es] at e
   have:TT (-n) d=45::TT n d:=by rw [O1 (by omega),ybO]
   rw [this]
   simp only [go_sem,ya,Lf,e,show ¬(1:Int)<0 by decide,show ¬(1:Int)=0 by decide,ia (a:=[45]) (b:=TT n d) (by simp;omega),xr,xp]
end
def acT (n:Int) (d:Nat):Ur true n d= .az [aa n,aa d,.bool true]:=rfl
def KP {a b:Int} (ha:a.natAbs<1000000000) (hb:b.natAbs<1000000000):(a*b).natAbs<1000000000000000000:=by
 rw [Int.natAbs_mul];exact yV (yal ha hb) (by decide)
section
variable {P:aM} {L:Lib}
def ag8 (h:Rm P L) {a b:Int} (ha: -4000000000000000000<=a/\a<=4000000000000000000) (hb:0<b/\b<=4000000000000000000):aj P L 277 [aa a,aa b] (.str (RT (wL a b))):=by
 rw [acR hb.1];exact ay2 h.az0 h.V2 h.rU ha hb
def Py (h:Rp P L) {a:Rat} {K:Nat} (ka:Hq K a) (hK:K<=8000000000):∃q:Bool,aj P L 276 [.str (RT a)] (Ur q a.num a.den)/\(q=true->a.num.natAbs<1000000000/\a.den<1000000000):=
 ay3 h.az5 h.Ct h.AR (n:=a.num) (d:=a.den) (by have:=Ko ka;rw [KN] at this;omega)
def Va (h:Rn P L) {a b:Rat} {K M:Nat} (ka:Hq K a) (kb:Hq M b) (hK:K+M<=8000000000):aj P L 267 [.str (RT a),.str (RT b)] (.str (RT (a*b))):=by
 obtain ⟨q1,e1,b1⟩:=Py h.toRp ka (by omega);obtain ⟨q2,e2,b2⟩:=Py h.toRp kb (by omega);have aAg:=Fl a b;by_cases hq:(q1=true/\q2=true)
 ·obtain ⟨rfl,rfl⟩:=hq;obtain ⟨b11,b12⟩:=b1 rfl;obtain ⟨b21,b22⟩:=b2 rfl;have p1:=KP b11 b21;have p2:=KP (a:=(a.den:Int)) (b:=(b.den:Int)) (by omega) (by omega);have e3:=ag8 h.toRm (a:=a.num*b.num) (b:=(a.den:Int)*b.den) (by omega) (by omega);rw [<-mul_eq] at e3;rw [acT] at e1 e2;unfold aj at e1 e2 e3 ⊢;rw [aI h.aiO]
  simp only [go_sem,ya,Ld,e1,e2,wrap64 (n:=a.num*b.num) (by omega) (by omega),wrap64 (n:=(a.den:Int)*(b.den:Int)) (by omega) (by omega),e3]
 ·have bI:∃n1 d1 n2 d2,bK P L (D P L) 276 [.str (RT a)]=some (.az [aa n1,aa d1,.bool q1])/\bK P L (D P L) 276 [.str (RT b)]=some (.az [aa n2,aa d2,.bool q2]):=by
   cases q1<;>cases q2<;>exact ⟨_,_,_,_,e1,e2⟩
  obtain ⟨n1,d1,n2,d2,e1,e2⟩:=bI;obtain ⟨x,y,e3,hx,hy⟩:=KO h.toRm ka (by omega);obtain ⟨z,w,e4,hz,hw⟩:=KO h.toRm kb (by omega);have G4:max K M<=8000000000:=by omega
  obtain ⟨r,e5,hr⟩:=LF (K:=max K M) h.LI h.me h.jS h.dd G4 hx hz (ka.1.mono (by omega)).r (kb.1.mono (by omega)).r;obtain ⟨s,e6,hs⟩:=LF (K:=max K M) h.LI h.me h.jS h.dd G4 hy hw (ka.2.mono (by omega)).r (kb.2.mono (by omega)).r;have e7:=U9 h.toRm hK hr hs (ka.1.mul kb.1) (ka.2.mul kb.2) (by omega);rw [<-mul_eq] at e7;obtain ⟨xw,xl,rfl,eP,_,_,_⟩:=hx;obtain ⟨yw,yl,rfl,eQ,_,_,_⟩:=hy;obtain ⟨zw,zl,rfl,pX,_,_,_⟩:=hz;obtain ⟨ww,wl,rfl,oN,_,_,_⟩:=hw;obtain ⟨bS,rl,rfl,r7,_,_,_⟩:=hr;obtain ⟨sw,sl,rfl,lJ,_,_,_⟩:=hs;have hb:¬(q1=true/\q2=true):=hq;unfold aj at e3 e4 e5 e6 e7 ⊢;rw [aI h.aiO]
  cases q1 with
  | false=>
   simp only [go_sem,ya,yd,Ld,bc,e1,e2,e3,e4,eP.pu,eP.an,eP.one,eQ.pu,eQ.an,eQ.one,pX.pu,pX.an,pX.one,oN.pu,oN.an,oN.one,r7.an,lJ.an,cy,bO,BE,ie,Gf,e5,e6,e7]
  | true=>
   cases q2 with
   | true=>exact absurd ⟨rfl,rfl⟩ hb
   | false=>
    simp only [go_sem,ya,yd,Ld,bc,e1,e2,e3,e4,eP.pu,eP.an,eP.one,eQ.pu,eQ.an,eQ.one,pX.pu,pX.an,pX.one,oN.pu,oN.an,oN.one,r7.an,lJ.an,cy,bO,BE,ie,Gf,e5,e6,e7]
def Vb (h:Rp P L) {a b:Rat} {K M:Nat} (ka:Hq K a) (kb:Hq M b) (hK:K+M+1<=8000000000):aj P L 264 [.str (RT a),.str (RT b)] (.str (RT (a+b))):=by
 obtain ⟨q1,e1,b1⟩:=Py h ka (by omega);obtain ⟨q2,e2,b2⟩:=Py h kb (by omega);have aAg:=Fl a b;by_cases hq:(q1=true/\q2=true)
 ·obtain ⟨rfl,rfl⟩:=hq;obtain ⟨b11,b12⟩:=b1 rfl;obtain ⟨b21,b22⟩:=b2 rfl;have p1:=KP (a:=a.num) (b:=(b.den:Int)) (by omega) (by omega);have p2:=KP (a:=b.num) (b:=(a.den:Int)) (by omega) (by omega);have p3:=KP (a:=(a.den:Int)) (b:=(b.den:Int)) (by omega) (by omega);have e3:=ag8 h.toRm (a:=a.num*b.den+b.num*a.den) (b:=(a.den:Int)*b.den) (by omega) (by omega);rw [<-add_eq] at e3;rw [acT] at e1 e2;unfold aj at e1 e2 e3 ⊢;rw [aI h.aiN]
  simp only [go_sem,ya,Lc,e1,e2,wrap64 (n:=a.num*(b.den:Int)) (by omega) (by omega),wrap64 (n:=b.num*(a.den:Int)) (by omega) (by omega),wrap64 (n:=a.num*(b.den:Int)+b.num*(a.den:Int)) (by omega) (by omega),wrap64 (n:=(a.den:Int)*(b.den:Int)) (by omega) (by omega),e3]
 ·have bI:∃n1 d1 n2 d2,bK P L (D P L) 276 [.str (RT a)]=some (.az [aa n1,aa d1,.bool q1])/\bK P L (D P L) 276 [.str (RT b)]=some (.az [aa n2,aa d2,.bool q2]):=by
   cases q1<;>cases q2<;>exact ⟨_,_,_,_,e1,e2⟩
  obtain ⟨n1,d1,n2,d2,e1,e2⟩:=bI;obtain ⟨x,y,e3,hx,hy⟩:=KO h.toRm ka (by omega);obtain ⟨z,w,e4,hz,hw⟩:=KO h.toRm kb (by omega);have G4:max K M<=8000000000:=by omega
  obtain ⟨r,e5,hr⟩:=LF (K:=max K M) h.LI h.me h.jS h.dd G4 hx hw (ka.1.mono (by omega)).r (kb.2.mono (by omega)).r;obtain ⟨r2,Yg,nH⟩:=LF (K:=max K M) h.LI h.me h.jS h.dd G4 hz hy (kb.1.mono (by omega)).r (ka.2.mono (by omega)).r;obtain ⟨s,e6,hs⟩:=LF (K:=max K M) h.LI h.me h.jS h.dd G4 hy hw (ka.2.mono (by omega)).r (kb.2.mono (by omega)).r;have k1:Bd (K+M) (a.num*b.den):=ka.1.mul kb.2;have k2:Bd (K+M) (b.num*a.den):=(kb.1.mul ka.2).mono (by omega);obtain ⟨t,e8,ht⟩:=azR (K:=K+M) h.az6 h.Wy h.pD h.Qs h.ow h.jS h.dd (by omega) hr nH k1.r k2.r;have e7:=U9 h.toRm hK ht hs (k1.Wh k2) ((ka.2.mul kb.2).mono (by omega)) (by omega);rw [<-add_eq] at e7;obtain ⟨xw,xl,rfl,eP,_,_,_⟩:=hx;obtain ⟨yw,yl,rfl,eQ,_,_,_⟩:=hy;obtain ⟨zw,zl,rfl,pX,_,_,_⟩:=hz;obtain ⟨ww,wl,rfl,oN,_,_,_⟩:=hw;obtain ⟨bS,rl,rfl,r7,_,_,_⟩:=hr
  obtain ⟨E6,rl2,rfl,aiT,_,_,_⟩:=nH;obtain ⟨tw,tl,rfl,htw,_,_,_⟩:=ht;obtain ⟨sw,sl,rfl,lJ,_,_,_⟩:=hs;have hb:¬(q1=true/\q2=true):=hq;unfold aj at e3 e4 e5 Yg e6 e7 e8 ⊢;rw [aI h.aiN]
  cases q1 with
  | false=>
   simp only [go_sem,ya,yd,Lc,bc,e1,e2,e3,e4,eP.pu,eP.an,eP.one,eQ.pu,eQ.an,eQ.one,pX.pu,pX.an,pX.one,oN.pu,oN.an,oN.one,r7.an,aiT.an,htw.an,lJ.an,cy,bO,BE,ie,Gf,e5,Yg,e8,e6,e7]
  | true=>
   cases q2 with
   | true=>exact absurd ⟨rfl,rfl⟩ hb
   | false=>
    simp only [go_sem,ya,yd,Lc,bc,e1,e2,e3,e4,eP.pu,eP.an,eP.one,eQ.pu,eQ.an,eQ.one,pX.pu,pX.an,pX.one,oN.pu,oN.an,oN.one,r7.an,aiT.an,htw.an,lJ.an,cy,bO,BE,ie,Gf,e5,Yg,e8,e6,e7]
def axT (h:Rp P L) {a b:Rat} {K M:Nat} (ka:Hq K a) (kb:Hq M b) (hK:K+M+1<=8000000000):aj P L 271 [.str (RT a),.str (RT b)] (.str (RT (a-b))):=by
 have e1:=axS h kb (by omega);have e2:=Vb h ka kb.neg hK;rw [<-Rat.sub_eq_add_neg] at e2;unfold aj at e1 e2 ⊢;rw [aI h.az4];simp only [go_sem,ya,VO,e1,e2]
def inv_divInt (a:Rat) (h:a≠0):a⁻¹=wL (a.den:Int) a.num:=by
 rw [Rat.inv_def]
def axU (h:Rn P L) (WB:Has P L 283 P4) {a:Rat} {K:Nat} (ka:Hq K a) (hK:K<=8000000000) (h0:a≠0):aj P L 283 [.str (RT a)] (.str (RT a⁻¹)):=by
 obtain ⟨x,y,e3,hx,hy⟩:=KO h.toRm ka hK;have hn:a.num≠0:=fun e=>h0 (ybl.1 e)
 have e7:=U9 h.toRm hK hy hx ka.2 ka.1 hn;rw [<-inv_divInt a h0] at e7;obtain ⟨xw,xl,rfl,eP,_,_,_⟩:=hx;obtain ⟨yw,yl,rfl,eQ,_,_,_⟩:=hy;unfold aj at e3 e7 ⊢;rw [aI WB];simp only [go_sem,ya,yd,P4,bc,e3,eP.pu,eP.an,eP.one,eQ.pu,eQ.an,eQ.one,cy,BE,ie,Gf,e7]
end
def aaz {P:aM} {L:Lib} (a b c d:VC) (s:St):D P L (.seq a (.seq b (.seq c d))) s=kj P L (D P L (.seq a (.seq b c)) s) d:=by
 have e:=Dp (P:=P) (L:=L) b c d;rw [kZ,kZ]
 cases D P L a s with
 | none=>rfl
 | some q=>
  obtain ⟨ex,st⟩:=q
  cases ex with
  | normal=>rw [fN,fN];exact e st
  | ret=>rfl
  | exit id=>rfl
def po {a b:List Nat} (h:a≠b):de a b=false:=by
 cases hb:de a b with
 | false=>rfl
 | true=>exact absurd (Tj hb) h
def abF:∀a:List Nat,de a a=true
 | []=>rfl
 | x::a=>by simp [de,abF a]
def UB {a b:List Nat} (h:a=b):de a b=true:=h▸abF a
def aoB {s:List Nat} {i:Nat} (h:i<s.length):dw (s.drop i)=(yK 48 s[i]&&yK s[i] 57&&dw (s.drop (i+1))):=by
 rw [yP h];rfl
section
variable {P:aM} {L:Lib}
def aAh (h:Has P L 287 Lj) {s:List Nat} (hl:s.length<9223372036854775808):aj P L 287 [.str s] (.bool (dw s)):=by
 have key:=fk (P:=P) (L:=L) (live:=[0,3]) (a:=DK)
  (I:=fun k st=>∃i:Nat,st=⟨[(0,.str s),(3,aa i)],[],0,0⟩/\i+k=s.length/\dw (s.drop i)=dw s)
  (Q:=fun ex st=>∃tm ct,st=⟨tm,[],ct,0⟩/\((ex= .ret/\af tm 2= .bool false/\dw s=false)\/(ex= .exit 0/\dw s=true))) ?_
 ·unfold aj;rw [aI h];simp only [go_sem,Lj];generalize hq:D P L (.loop [0,3] DK) _=q;obtain ⟨ex,st,rfl,tm,ct,rfl,h2⟩:=bD hq (key s.length) ⟨0,by simp only [go_sem,ya,aw]<;>rfl,by omega,by simp⟩
  rcases h2 with ⟨rfl,h2,h3⟩ | ⟨rfl,h3⟩
  ·simp only [go_sem,h2,h3]
  ·simp only [go_sem,aw,h3]
 ·rintro k st ⟨i,rfl,hk,hs⟩;by_cases hi:i<s.length
  ·rw [aoB hi] at hs;by_cases h1:s[i]<48
   ·right
    have e:yK 48 s[i]=false:=by
     cases hb:yK 48 s[i] with
     | false=>rfl
     | true=>have:=yB hb;omega
    rw [e,wE,wE] at hs;simp only [go_sem,ya,DK,show (i:Int)<s.length by omega,rM hi,show ((s[i]:Nat):Int)<48 by omega,yu];exact ⟨_,_,rfl,by simp,_,_,rfl,.inl ⟨rfl,by simp only [go_sem],hs.symm⟩⟩
   ·by_cases h2:57<s[i]
    ·right
     have e:yK s[i] 57=false:=by
      cases hb:yK s[i] 57 with
      | false=>rfl
      | true=>have:=yB hb;omega
     rw [e,Bool.and_false,wE] at hs;simp only [go_sem,ya,DK,show (i:Int)<s.length by omega,rM hi,show ¬((s[i]:Nat):Int)<48 by omega,yv,show (57:Int)<((s[i]:Nat):Int) by omega];exact ⟨_,_,rfl,by simp,_,_,rfl,.inl ⟨rfl,by simp only [go_sem],hs.symm⟩⟩
    ·left
     rw [yx (show 48<=s[i] by omega),yx (show s[i]<=57 by omega),wK,wK] at hs;simp only [go_sem,ya,DK,show (i:Int)<s.length by omega,rM hi,show ¬((s[i]:Nat):Int)<48 by omega,yv,show ¬(57:Int)<((s[i]:Nat):Int) by omega];refine ⟨_,k-1,rfl,by omega,i+1,?_,by omega,hs⟩;rw [wrap64 (by omega) (by omega)];simp only [go_sem,ya,aw]<;>rfl
  ·right
   simp only [go_sem,ya,DK,show ¬(i:Int)<s.length by omega];refine ⟨_,_,rfl,by simp,_,_,rfl,.inr ⟨rfl,?_⟩⟩;rw [<-hs,xe (by omega)];rfl
def Qu (h:Has P L 273 Ed) (G3:Has P L 287 Lj) {s:List Nat} (hl:s.length<9223372036854775808):aj P L 273 [.str s] (.bool (dZ s)):=by
 have e:=aAh G3 hl;unfold aj at e ⊢;rw [aI h]
 match s,hl,e with
 | [],_,_=>
  simp only [go_sem,ya,Ed,yO,show ((0:Nat):Int)=0 from rfl,yu];rfl
 | [b],_,e=>
  have:dZ [b]=dw [b]:=by simp [dZ]
  rw [this];simp only [go_sem,ya,Ed,yy,yO,yg,show ¬((1:Nat):Int)=0 by decide,show ¬(1:Int)<((1:Nat):Int) by decide,yv,e]
 | b::c::r,hl,e=>
  have hd:dZ (b::c::r)=(dw (b::c::r)&& !(yz b 48)):=by simp [dZ]
  rw [hd];have EF:r.length+2<9223372036854775808:=by simpa using hl
  by_cases hb:b=48
  ·subst hb;simp only [go_sem,ya,Ed,yy,show ¬((r.length+1+1:Nat):Int)=0 by omega,yv,show (1:Int)<((r.length+1+1:Nat):Int) by omega,show n7 0 (.str (48::c::r))=some (.int .u8 48) from rfl,yu]
   simp
  ·have:yz b 48=false:=iO hb
   rw [this,yU,uk];simp only [go_sem,ya,Ed,yy,show ¬((r.length+1+1:Nat):Int)=0 by omega,yv,show (1:Int)<((r.length+1+1:Nat):Int) by omega,show n7 0 (.str (b::c::r))=some (.int .u8 (b:Nat)) from rfl,show ¬((b:Nat):Int)=48 by omega,e]
def abG {s:List Nat} {k:Nat} (h:k<=s.length):iW s (some 0) (some k)=some (.str (s.take k)):=by
 rw [my (by omega) h,yL]
def Oe {s:List Nat} {k:Nat} (h:k<=s.length):iW s (some k) (some s.length)=some (.str (s.drop k)):=by
 rw [my h (yq _),xJ]
def av4 (h:Rm P L) {t:List Nat} {k:Nat} (hk:k=bY t) (hl:t.length<9223372036854775808) (hp:dZ (t.take k)=true) {tm:Env} (t3:af tm 3= .str t) (t4:af tm 4=aa k):
  gJ [.t 2] (D P L (aB (aB (aB (aB (aB dB.body))))) ⟨tm,[],0,0⟩)=some (aa (
   if k<t.length/\(dZ (t.drop (k+1))=false\/t.drop (k+1)=[48]\/t.drop (k+1)=[49]) then 1
   else if 600<k\/600<t.length-k-1 then 4
   else if k<t.length/\wW (gn (t.take k)) (gn (t.drop (k+1)))≠1 then 1
   else 0)):=by
 have X8:k<=t.length:=by rw [hk];exact I9 t
 have e3:=Qu h.Qt h.G3 (s:=t.drop (k+1)) (by rw [we];omega);unfold aj at e3;have C9:(k:Int)+1=((k+1:Nat):Int):=rfl;by_cases hs:k<t.length
 ·have c2:=Oe (s:=t) (k:=k+1) (by omega);have kV:=YH t (by omega);rw [<-hk] at kV;have ML:(t.drop (k+1)).length=t.length-k-1:=by rw [we];omega
  have hlp:(t.take k).length=k:=by rw [yI];omega
  generalize hqe:t.drop (k+1)=q at*
  generalize hpe:t.take k=p at*
  cases hd:dZ q with
  | false=>
   rw [yA ⟨hs,.inl rfl⟩];rw [hd] at e3
   simp only [go_sem,ya,dB,aB,t3,t4,show (k:Int)<(t.length:Int) by omega,yu,C9,wrapN (n:=k+1) (by omega),fb,fB,dS,c2,e3,yU]
  | true=>
   rw [hd] at e3;by_cases jX:q=[48]
   ·rw [yA ⟨hs,.inr (.inl jX)⟩]
    simp only [go_sem,ya,dB,aB,t3,t4,show (k:Int)<(t.length:Int) by omega,yu,C9,wrapN (n:=k+1) (by omega),fb,fB,dS,c2,e3,yR,mz,UB jX]
   ·by_cases pV:q=[49]
    ·rw [yA ⟨hs,.inr (.inr pV)⟩]
     simp only [go_sem,ya,dB,aB,t3,t4,show (k:Int)<(t.length:Int) by omega,yu,C9,wrapN (n:=k+1) (by omega),fb,fB,dS,c2,e3,yR,mz,po jX,UB pV]
    ·rw [yo (by simp only [hs,tE,yaM,ybN];exact fun e=>e.elim jX pV)]
     by_cases Ew:600<k
     ·rw [yA (.inl Ew)]
      simp only [go_sem,ya,dB,aB,t3,t4,show (k:Int)<(t.length:Int) by omega,yu,C9,wrapN (n:=k+1) (by omega),fb,fB,dS,c2,e3,yR,mz,po jX,po pV,show (600:Int)<(k:Int) by omega]
     ·by_cases aAi:600<t.length-k-1
      ·rw [yA (.inr aAi)]
       simp only [go_sem,ya,dB,aB,t3,t4,show (k:Int)<(t.length:Int) by omega,yu,C9,wrapN (n:=k+1) (by omega),fb,fB,dS,c2,e3,yR,mz,po jX,po pV,show ¬(600:Int)<(k:Int) by omega,yv,show (t.length:Int)-(k:Int)=((t.length-k:Nat):Int) by omega,wrapN (n:=t.length-k) (by omega),show ((t.length-k:Nat):Int)-1=((t.length-k-1:Nat):Int) by omega,wrapN (n:=t.length-k-1) (by omega),show (600:Int)<((t.length-k-1:Nat):Int) by omega]
      ·rw [yo (by omega)];have so:=Fx _ rfl hp;have pW:=Fx _ rfl hd;have jc:gn q≠0:=fun e=>jX (by rw [<-pW,e];rfl)
       have gW:gn q≠1:=fun e=>pV (by rw [<-pW,e];rfl)
       generalize gn p=n at*
       generalize gn q=d at*
       have hT:TT (n:Int) d=t:=by
        unfold TT;rw [mw,yo gW,so,pW];exact kV.symm
       obtain ⟨x,y,e4,hx,hy⟩:=aiS h.toRb (n:=(n:Int)) (d:=d) (by rw [vD,so];omega) (by rw [pW];omega);rw [hT] at e4;obtain ⟨xw,xl,rfl,eP,dx,nx,vx⟩:=hx;obtain ⟨yw,yl,rfl,eQ,dy,ny,vy⟩:=hy;rw [vD] at vx vy;have rn:n<10^p.length:=by rw [<-so];exact JF n
       have hdb:d<10^q.length:=by rw [<-pW];exact JF d
       obtain ⟨K,hK⟩:∃K:Nat,K=600:=⟨_,rfl⟩;have Rh:∀{m j:Nat},m<10^j->j<=K->m<1000000000^K:=fun {m j} h1 h2=>
        yV h1 (xv (xh (by decide) h2) (ue (by decide) K))
       have lxl:=jQ dx nx (by rw [vx];exact Rh rn (by omega))
       have lyl:=jQ dy ny (by rw [vy];exact Rh hdb (by omega))
       obtain ⟨g,lg,e5,hg,dgg,ngg,vg⟩:=ag2 h.aiJ h.LH h.me h.pD h.qW h.dd h.rV eP eQ dx dy nx ny (by omega) (by omega);rw [vx,vy] at vg;have Mb:0<wW n d:=Nat.gcd_pos_of_pos_right _ (by omega);unfold aj at e4 e5;by_cases WC:lg.length=1
       ·obtain ⟨z,rfl⟩:∃z,lg=[z]:=by
         cases lg with
         | nil=>simp at WC
         | cons z r=>cases r with
          | nil=>exact ⟨z,rfl⟩
          | cons y r=>simp at WC
        have gz:=mA.1 dgg;have MS:z=(wW n d:Nat):=by simp [dv] at vg;omega
        have e8:=hg.bi (i:=0) (by simp);simp only [xy] at e8;by_cases iZ:wW n d=1
        ·rw [yo (by simp [iZ])]
         simp only [go_sem,ya,yd,dB,aB,t3,t4,show (k:Int)<(t.length:Int) by omega,yu,C9,wrapN (n:=k+1) (by omega),fb,fB,dS,c2,e3,yR,mz,po jX,po pV,show ¬(600:Int)<(k:Int) by omega,yv,show (t.length:Int)-(k:Int)=((t.length-k:Nat):Int) by omega,wrapN (n:=t.length-k) (by omega),show ((t.length-k:Nat):Int)-1=((t.length-k-1:Nat):Int) by omega,wrapN (n:=t.length-k-1) (by omega),show ¬(600:Int)<((t.length-k-1:Nat):Int) by omega,e4,bc,eP.pu,eP.an,eP.one,eQ.pu,eQ.an,eQ.one,ie,b7,yg,dt,e5,hg.len,hg.shut,yy,yO,show ((1:Nat):Int)=(1:Int) from rfl,yR,e8,MS,iZ]
        ·rw [yA ⟨hs,iZ⟩]
         simp only [go_sem,ya,yd,dB,aB,t3,t4,show (k:Int)<(t.length:Int) by omega,yu,C9,wrapN (n:=k+1) (by omega),fb,fB,dS,c2,e3,yR,mz,po jX,po pV,show ¬(600:Int)<(k:Int) by omega,yv,show (t.length:Int)-(k:Int)=((t.length-k:Nat):Int) by omega,wrapN (n:=t.length-k) (by omega),show ((t.length-k:Nat):Int)-1=((t.length-k-1:Nat):Int) by omega,wrapN (n:=t.length-k-1) (by omega),show ¬(600:Int)<((t.length-k-1:Nat):Int) by omega,e4,bc,eP.pu,eP.an,eP.one,eQ.pu,eQ.an,eQ.one,ie,b7,yg,dt,e5,hg.len,hg.shut,yy,yO,show ((1:Nat):Int)=(1:Int) from rfl,yR,e8,MS,show ¬((wW n d:Nat):Int)=1 by omega,yU]
       ·have iZ:wW n d≠1:=fun e=>WC (by
         have h1:lg.length<=1:=acQ dgg ngg (by omega);have h2:0<lg.length:=by
          rcases xB lg.length with h0 | h0
          ·rw [yF h0] at vg;simp [dv] at vg;omega
          ·exact h0
         omega)
        rw [yA ⟨hs,iZ⟩]
        simp only [go_sem,ya,yd,dB,aB,t3,t4,show (k:Int)<(t.length:Int) by omega,yu,C9,wrapN (n:=k+1) (by omega),fb,fB,dS,c2,e3,yR,mz,po jX,po pV,show ¬(600:Int)<(k:Int) by omega,yv,show (t.length:Int)-(k:Int)=((t.length-k:Nat):Int) by omega,wrapN (n:=t.length-k) (by omega),show ((t.length-k:Nat):Int)-1=((t.length-k-1:Nat):Int) by omega,wrapN (n:=t.length-k-1) (by omega),show ¬(600:Int)<((t.length-k-1:Nat):Int) by omega,e4,bc,eP.pu,eP.an,eP.one,eQ.pu,eQ.an,eQ.one,ie,b7,yg,dt,e5,hg.len,hg.shut,show ¬(lg.length:Int)=1 by omega,yU]
 ·have hkt:k=t.length:=by omega
  rw [yo (by omega)];by_cases Ew:600<k
  ·rw [yA (.inl Ew)];simp only [go_sem,ya,dB,aB,t3,t4,show ¬(k:Int)<(t.length:Int) by omega,yv,show (600:Int)<(k:Int) by omega,yu]
  ·rw [yo (by omega),yo (by omega)]
   simp only [go_sem,ya,dB,aB,t3,t4,show ¬(k:Int)<(t.length:Int) by omega,yv,show ¬(600:Int)<(k:Int) by omega,show (t.length:Int)-(k:Int)=((t.length-k:Nat):Int) by omega,wrapN (n:=t.length-k) (by omega),show ((t.length-k:Nat):Int)-1= -1 by omega,show IntKind.wrap .i64 (-1)= -1 by rfl,show ¬(600:Int)<(-1:Int) by omega]
def aeM (h:Rm P L) {b:Nat} {r:List Nat} {t:List Nat} {neg:Bool} (ji:decide (((b:Nat):Int)=45)=neg) (hl:t.length<9223372036854775808) {tm:Env} (t0:af tm 0= .str (b::r)) (t3:af tm 3= .str t):
  gJ [.t 2] (D P L (aB (aB (aB dB.body))) ⟨tm,[],0,0⟩)=some (aa (AX neg t)):=by
 obtain ⟨k,hk⟩:∃k,k=bY t:=⟨_,rfl⟩;have X8:k<=t.length:=by rw [hk];exact I9 t
 have e1:=GV h.Ct (s:=t) (by omega);have e2:=Qu h.Qt h.G3 (s:=t.take k) (by rw [yI];omega);have e3:=Qu h.Qt h.G3 (s:=t.drop (k+1)) (by rw [we];omega);unfold AX;rw [<-hk] at e1 ⊢;have c1:=abG X8;have hI:n7 0 (.str (b::r))=some (.int .u8 (b:Nat)):=rfl;unfold aj at e1 e2 e3;generalize hp:t.take k=p at*
 generalize hq:t.drop (k+1)=q at*
 cases hd:dZ p with
 | false=>
  rw [yA (.inl rfl)];rw [hd] at e2;simp only [go_sem,ya,dB,aB,t3,e1,fb,fB,dS,c1,e2,yU]
 | true=>
  rw [hd] at e2;by_cases hz:neg=true/\p=[48]
  ·rw [yA (.inr hz)];obtain ⟨z1,z2⟩:=hz;rw [z1] at ji;have hb:=of_decide_eq_true ji;subst z2;simp only [go_sem,ya,dB,aB,t0,t3,e1,fb,fB,dS,c1,e2,yR,hI,hb,yu,mz,show de [48] [48]=true from rfl]
  ·rw [yo (by simp only [yaM,ybN];exact hz)]
   have fin:∀tm',af tm' 3= .str t->af tm' 4=aa k->D P L (.seq (bw (aB (aB (aB dB.body)))) (bw (aB (aB (aB (aB dB.body)))))) ⟨tm,[],0,0⟩=some (.normal,⟨tm',[],0,0⟩)->gJ [.t 2] (D P L (aB (aB (aB dB.body))) ⟨tm,[],0,0⟩)=some (aa (
     if k<t.length/\(dZ q=false\/q=[48]\/q=[49]) then 1
     else if 600<k\/600<t.length-k-1 then 4
     else if k<t.length/\wW (gn p) (gn q)≠1 then 1
     else 0)):=fun tm' f3 f4 e=>by
    show gJ [.t 2] (D P L (.seq (bw (aB (aB (aB dB.body)))) (.seq (bw (aB (aB (aB (aB dB.body))))) (aB (aB (aB (aB (aB dB.body))))))) ⟨tm,[],0,0⟩)=_
    rw [Dp,e,fN,<-hp,<-hq];exact av4 h hk hl (by rw [hp];exact hd) f3 f4
   by_cases hb:((b:Nat):Int)=45
   ·have aAj:p≠[48]:=fun e=>hz ⟨by rw [<-ji];exact xq hb,e⟩
    refine fin _ ?_ ?_ (by simp only [go_sem,ya,dB,bw,aB,t0,t3,e1,fb,fB,dS,c1,e2,yR,hI,hb,yu,mz,po aAj]<;>rfl)<;>simp only [go_sem,ya,t3]
   ·refine fin _ ?_ ?_ (by simp only [go_sem,ya,dB,bw,aB,t0,t3,e1,fb,fB,dS,c1,e2,yR,hI,hb,yv]<;>rfl)<;>simp only [go_sem,ya,t3]
def aiU (h:Rm P L) {s:List Nat} (hl:s.length<9223372036854775808):aj P L 263 [.str s] (aa (bJ s)):=by
 unfold aj;rw [aI h.aAa]
 cases s with
 | nil=>
  have e1:=GV h.Ct (s:=[]) (by simp);have e2:=Qu h.Qt h.G3 (s:=[]) (by simp);unfold aj at e1 e2;have hc:iW [] (some 0) (some 0)=some (.str []):=rfl;simp only [go_sem,ya,dB,yO,show ¬(0:Int)<((0:Nat):Int) by decide,yv,e1,bY,fb,fB,dS,hc,e2,show dZ []=false from rfl,yU];rfl
 | cons b t=>
  have EF:t.length+1<9223372036854775808:=by simpa using hl
  have hI:n7 0 (.str (b::t))=some (.int .u8 (b:Nat)):=rfl;by_cases hb:b=45
  ·subst hb;have fin:∀tm',af tm' 0= .str (45::t)->af tm' 3= .str t->D P L (.seq (bw dB.body) (.seq (bw (aB dB.body)) (bw (aB (aB dB.body))))) ⟨[(0,.str (45::t))],[],0,0⟩=some (.normal,⟨tm',[],0,0⟩)->gJ [.t 2] (D P L dB.body ⟨[(0,.str (45::t))],[],0,0⟩)=some (aa (bJ (45::t))):=fun tm' f0 f3 e=>by
    show gJ [.t 2] (D P L (.seq (bw dB.body) (.seq (bw (aB dB.body)) (.seq (bw (aB (aB dB.body))) (aB (aB (aB dB.body)))))) ⟨[(0,.str (45::t))],[],0,0⟩)=_
    rw [aaz,e,fN]
    exact aeM h (b:=45) rfl (by omega) f0 f3
   have hc:iW (45::t) (some 1) (some (t.length+1))=some (.str t):=by
    have:=Oe (s:=45::t) (k:=1) (by simp)
    simpa using this
   refine fin _ ?_ ?_ (by simp only [go_sem,ya,dB,bw,aB,yy,show (0:Int)<((t.length+1:Nat):Int) by omega,yu,Ej,fb,fB,dS,hc]<;>rfl)<;>simp only [go_sem,ya]
  ·have fin:∀tm',af tm' 0= .str (b::t)->af tm' 3= .str (b::t)->D P L (.seq (bw dB.body) (.seq (bw (aB dB.body)) (bw (aB (aB dB.body))))) ⟨[(0,.str (b::t))],[],0,0⟩=some (.normal,⟨tm',[],0,0⟩)->gJ [.t 2] (D P L dB.body ⟨[(0,.str (b::t))],[],0,0⟩)=some (aa (bJ (b::t))):=fun tm' f0 f3 e=>by
    show gJ [.t 2] (D P L (.seq (bw dB.body) (.seq (bw (aB dB.body)) (.seq (bw (aB (aB dB.body))) (aB (aB (aB dB.body)))))) ⟨[(0,.str (b::t))],[],0,0⟩)=_
    rw [aaz,e,fN]
    have:=aeM h (b:=b) (neg:=false) (xb (by omega)) (by simpa using hl) f0 f3
    rw [this];simp only [bJ,yo hb]
   refine fin _ ?_ ?_ (by simp only [go_sem,ya,dB,bw,aB,yy,show (0:Int)<((t.length+1:Nat):Int) by omega,yu,hI,show ¬((b:Nat):Int)=45 by omega]<;>rfl)<;>simp only [go_sem,ya]
end
def bm (v:AV) (l:List (List Nat)):Prop:=cZ v (l.map AV.str)
section
variable {v:AV} {l:List (List Nat)}
def bm.len (h:bm v l) {hp:Hp}:gg hp 1 v=some (.int .i64 (l.length:Nat)):=by
 have:=cZ.len (hp:=hp) h
 grind
def bm.pu (h:bm v l):a7 v=true:=cZ.pu h
def bm.an (h:bm v l) (n:Nat) {hp:Hp}:freeze (n+1) hp v=some (v,hp):=cZ.an h n
def bm.shut (h:bm v l):VE.shut v=v:=cZ.shut h
def bm.bZ (h:bm v l):VE.bZ v=v:=cZ.bZ h
def bm.fm (h:bm v l) {hp:Hp}:result hp v=some v:=cZ.fm h
def bm.bi (h:bm v l) {i:Nat} (hi:i<l.length):kX 1 i v=some (.aO (.str l[i]::(l.map AV.str).drop (i+1))):=by
 have:=cZ.bi h (i:=i) (by simpa using hi)
 grind
def OH (e:Bool) (l:List (List Nat)):bm (.aE e l.length (l.map AV.str)) l:=by
 have:=JC e (l.map AV.str)
 rwa [yk] at this
end
section
variable {P:aM} {L:Lib}
def asX (h:Rm P L) {a:Rat} {K:Nat} (ka:Hq K a) (hK:K<=4000000000):bK P L (D P L) 284 [.str (RT a)]=some (.str (aY a.num))/\bK P L (D P L) 285 [.str (aY a.num)]=some (.str (aD a.num.natAbs))/\bK P L (D P L) 286 [.str (RT a)]=some (.str (aD a.den)):=by
 have hl:=Ko ka;have e0:=GV h.Ct (s:=RT a) (by omega);have mL:bY (RT a)=(aY a.num).length/\(RT a).take (aY a.num).length=aY a.num:=by
  unfold RT;by_cases hd:a.den=1
  ·rw [yA hd,xT]
   have:=Ns a.num []
   rw [xT] at this;exact ⟨by rw [this];simp [bY],xJ⟩
  ·rw [yo hd];exact ⟨by rw [Ns];simp [bY],uH⟩
 obtain ⟨eK,zG⟩:=mL;rw [eK] at e0;have hlen:(aY a.num).length<=(RT a).length:=by unfold RT;simp
 have e1:bK P L (D P L) 284 [.str (RT a)]=some (.str (aY a.num)):=by
  rw [aI h.aAb]
  have:=abG (s:=RT a) hlen
  simp only [go_sem,ya,VQ,e0,fb,fB,dS,this,zG]
 have hT:aY a.num=TT a.num 1:=by unfold TT;simp
 have e2:bK P L (D P L) 285 [.str (aY a.num)]=some (.str (aD a.num.natAbs)):=by
  have e:=ag6 h (n:=a.num) (d:=1) (by rw [<-hT];omega) (fun _=>rfl);rw [<-hT] at e;rw [aI h.aAc];by_cases h0:a.num<0
  ·have es:cJ a.num= -1:=by unfold cJ;rw [yA h0]
   rw [es] at e;rw [nV h0] at e ⊢;have hc:=Oe (s:=45::aD a.num.natAbs) (k:=1) (by simp);simp only [List.drop_succ_cons,yL,yy] at hc;simp only [go_sem,ya,P5,e,show (-1:Int)<0 by decide,fb,fB,dS,hc]
  ·have es:¬cJ a.num<0:=by unfold cJ;rw [yo h0];split<;>decide
   have hi:aY a.num=aD a.num.natAbs:=by
    obtain ⟨m,hm⟩:∃m:Nat,a.num=m:=⟨a.num.toNat,by omega⟩;rw [hm,mw,vD]
   simp only [go_sem,ya,P5,e,es];rw [hi]
 have e3:bK P L (D P L) 286 [.str (RT a)]=some (.str (aD a.den)):=by
  rw [aI h.aAd];by_cases hd:a.den=1
  ·have hR:(RT a).length=(aY a.num).length:=by unfold RT;rw [yA hd];simp
   rw [hd,show aD 1=[49] by decide];simp only [go_sem,ya,P6,e0,show ((aY a.num).length:Int)=((RT a).length:Int) by omega,yu]
  ·have hR:RT a=(aY a.num++[47])++aD a.den:=by unfold RT;rw [yo hd];simp
   have hRl:(RT a).length=(aY a.num).length+1+(aD a.den).length:=by rw [hR];simp;omega
   have hc:=Oe (s:=RT a) (k:=(aY a.num).length+1) (by omega);have jG:(RT a).drop ((aY a.num).length+1)=aD a.den:=by
    rw [hR,show (aY a.num).length+1=(aY a.num++[47]).length by simp,vj]
   rw [jG] at hc
   simp only [go_sem,ya,P6,e0,show ¬((aY a.num).length:Int)=((RT a).length:Int) by omega,show ((aY a.num).length:Int)+1=(((aY a.num).length+1:Nat):Int) from rfl,wrapN (n:=(aY a.num).length+1) (by omega),fb,fB,dS,hc]
 exact ⟨e1,e2,e3⟩
def axV (h:Rl P L) {a:Rat} {K:Nat} (ka:Hq K a) (hK:K<=4000000000):aj P L 269 [.str (RT a)] (aa (if LG a=true then 4 else 0)):=by
 obtain ⟨e1,e2,e3⟩:=asX h.toRm ka hK;unfold aj;rw [aI h.aAe];unfold LG LN;rw [vD];by_cases h1:600<(aD a.num.natAbs).length
 ·rw [xq h1,tU,yA rfl];simp only [go_sem,ya,Lg,e1,e2,show (600:Int)<((aD a.num.natAbs).length:Int) by omega,yu]
 ·by_cases h2:600<(aD a.den).length
  ·rw [xq h2,Bool.or_true,yA rfl];simp only [go_sem,ya,Lg,e1,e2,show ¬(600:Int)<((aD a.num.natAbs).length:Int) by omega,yv,e3,show (600:Int)<((aD a.den).length:Int) by omega]
  ·rw [xb h1,xb h2,Bool.or_self,yo (by decide)];simp only [go_sem,ya,Lg,e1,e2,show ¬(600:Int)<((aD a.num.natAbs).length:Int) by omega,yv,e3,show ¬(600:Int)<((aD a.den).length:Int) by omega]
def aaA {l:List (List Nat)} {i:Nat} (h:i<l.length):bH ((l.drop i).map bJ)=if bJ l[i]=0 then bH ((l.drop (i+1)).map bJ) else bJ l[i]:=by
 rw [yP h];rfl
def ag9 (h:Rm P L) (G5:Has P L 261 La) {v:AV} {l:List (List Nat)} (hv:bm v l) (hl:l.length<=1000000) (hs:∀s,s∈l->s.length<9223372036854775808):aj P L 261 [v] (aa (bH (l.map bJ))):=by
 have key:=fk (P:=P) (L:=L) (live:=[0,3]) (a:=FW)
  (I:=fun k st=>∃i:Nat,st=⟨[(0,v),(3,aa i)],[],0,0⟩/\i+k=l.length/\bH ((l.drop i).map bJ)=bH (l.map bJ))
  (Q:=fun ex st=>∃tm ct,st=⟨tm,[],ct,0⟩/\((ex= .ret/\af tm 2=aa (bH (l.map bJ)))\/(ex= .exit 0/\bH (l.map bJ)=0))) ?_
 ·unfold aj;rw [aI G5];simp only [go_sem,La];generalize hq:D P L (.loop [0,3] FW) _=q;obtain ⟨ex,st,rfl,tm,ct,rfl,h2⟩:=bD hq (key l.length) ⟨0,by simp only [go_sem,ya,aw,aq hv.pu,au _ hv.pu]<;>rfl,by omega,by simp⟩
  rcases h2 with ⟨rfl,h2⟩ | ⟨rfl,h3⟩
  ·simp only [go_sem,h2]
  ·simp only [go_sem,aw,h3]
 ·rintro k st ⟨i,rfl,hk,hd⟩;by_cases hi:i<l.length
  ·rw [aaA hi] at hd;have e1:=aiU h (hs l[i] (yE hi));have ev:=hv.bi hi;unfold aj at e1;by_cases h1:bJ l[i]=0
   ·left
    rw [yA h1] at hd;rw [h1] at e1;simp only [go_sem,ya,FW,hv.len,show (i:Int)<l.length by omega,ev,e1,yu,yR];refine ⟨_,k-1,rfl,by omega,i+1,?_,by omega,hd⟩;rw [wrap64 (by omega) (by omega)];simp only [go_sem,ya,aw,aq hv.pu,au _ hv.pu]<;>rfl
   ·right
    rw [yo h1] at hd;simp only [go_sem,ya,FW,hv.len,show (i:Int)<l.length by omega,ev,e1,h1,yv,yU];refine ⟨_,_,rfl,by simp,_,_,rfl,.inl ⟨rfl,?_⟩⟩;rw [<-hd];simp only [go_sem]
  ·right
   simp only [go_sem,ya,FW,hv.len,show ¬(i:Int)<l.length by omega];refine ⟨_,_,rfl,by simp,_,_,rfl,.inr ⟨rfl,?_⟩⟩;rw [<-hd,xe (by omega)];rfl
def amY {l:List Rat} {i:Nat} (h:i<l.length):(l.drop i).any LG=(LG l[i]||(l.drop (i+1)).any LG):=by
 rw [yP h];rfl
def aha (h:Rl P L) (CC:Has P L 316 GO) {v:AV} {l:List Rat} (hv:bm v (l.map RT)) (hl:l.length<=1000000) {K:Nat} (hs:∀r,r∈l->Hq K r) (hK:K<=4000000000):aj P L 316 [v] (aa (if l.any LG=true then 4 else 0)):=by
 have hlen:(l.map RT).length=l.length:=by simp
 have key:=fk (P:=P) (L:=L) (live:=[0,3]) (a:=FZ)
  (I:=fun k st=>∃i:Nat,st=⟨[(0,v),(3,aa i)],[],0,0⟩/\i+k=l.length/\(l.drop i).any LG=l.any LG)
  (Q:=fun ex st=>∃tm ct,st=⟨tm,[],ct,0⟩/\((ex= .ret/\af tm 2=aa 4/\l.any LG=true)\/(ex= .exit 0/\l.any LG=false))) ?_
 ·unfold aj;rw [aI CC];simp only [go_sem,GO];generalize hq:D P L (.loop [0,3] FZ) _=q;obtain ⟨ex,st,rfl,tm,ct,rfl,h2⟩:=bD hq (key l.length) ⟨0,by simp only [go_sem,ya,aw,aq hv.pu,au _ hv.pu]<;>rfl,by omega,by simp⟩
  rcases h2 with ⟨rfl,h2,h3⟩ | ⟨rfl,h3⟩
  ·simp only [go_sem,h2,h3,xE]
  ·simp only [go_sem,aw,h3];rfl
 ·rintro k st ⟨i,rfl,hk,hd⟩;by_cases hi:i<l.length
  ·rw [amY hi] at hd;have e1:=axV h (hs l[i] (yE hi)) hK;have ev:=hv.bi (i:=i) (by simpa using hi);rw [yX] at ev
   cases hb:LG l[i] with
   | false=>
    left
    rw [hb,vL] at hd;rw [hb] at e1;simp only [yN,xn] at e1;simp only [go_sem,ya,FZ,hv.len,hlen,show (i:Int)<l.length by omega,ev,e1,yu,yR];refine ⟨_,k-1,rfl,by omega,i+1,?_,by omega,hd⟩;rw [wrap64 (by omega) (by omega)];simp only [go_sem,ya,aw,aq hv.pu,au _ hv.pu]<;>rfl
   | true=>
    right
    rw [hb,tU] at hd;rw [hb] at e1;simp only [xE] at e1;simp only [go_sem,ya,FZ,hv.len,hlen,show (i:Int)<l.length by omega,ev,e1,show ¬(4:Int)=0 by decide,yv,yU];exact ⟨_,_,rfl,by simp,_,_,rfl,.inl ⟨rfl,by simp only [go_sem],hd.symm⟩⟩
  ·right
   simp only [go_sem,ya,FZ,hv.len,hlen,show ¬(i:Int)<l.length by omega];refine ⟨_,_,rfl,by simp,_,_,rfl,.inr ⟨rfl,?_⟩⟩;rw [<-hd,xe (by omega)];rfl
end
section
open Go (IntKind)
open Classical in
noncomputable def aZ (s:List Nat):Rat:=if h:bJ s=0 then Classical.choose (avP h) else 0
def BL {s:List Nat} (h:bJ s=0):s=RT (aZ s)/\(aD (aZ s).num.natAbs).length<=600/\(aD (aZ s).den).length<=600:=by
 unfold aZ
 grind
def NU {z:Int} {k M:Nat} (h:(aD z.natAbs).length<=k) (hM:4*k<=M):Bd M z:=by
 have h1:=JF z.natAbs;have h2:=JI (aD z.natAbs).length;have h3:(2:Nat)^(4*(aD z.natAbs).length)<=2^M:=xh (by decide) (by omega);exact yV h1 (xv h2 h3)
def acU {s:List Nat} (h:bJ s=0) {M:Nat} (hM:2400<=M):Hq M (aZ s):=by
 obtain ⟨_,h1,h2⟩:=BL h
 exact ⟨NU h1 (by omega),NU (z:=((aZ s).den:Int)) (by rw [vD];exact h2) (by omega)⟩
noncomputable def nD (s:List Nat) (least:Int):Int:=if bJ s=0 then (if cJ (aZ s).num<least then 3 else 0) else bJ s
def asY {s:List Nat} {m:Int} (h:nD s m=0):bJ s=0/\m<=cJ (aZ s).num:=by
 unfold nD at h
 grind
instance (k:Nat) (z:Int):Decidable (Bd k z):=inferInstanceAs (Decidable (z.natAbs<2^k))
def WD:RT 0=[48]:=by decide
def WE:Hq 2 0:=⟨by decide,by decide⟩
def asZ {a:Rat} (h:RT a=[48]):a=0:=by
 unfold RT at h;have hp:=z6 a.den;by_cases hd:a.den=1
 ·rw [yA hd,xT] at h;by_cases h0:a.num<0
  ·rw [nV h0] at h;simp at h
  ·obtain ⟨m,hm⟩:∃m:Nat,a.num=m:=⟨a.num.toNat,by omega⟩;rw [hm,mw] at h;have hv:=Dm m;rw [h] at hv;have hv:some 0=some m:=hv
   have:m=0:=by simp_all
   simp_all
 ·rw [yo hd] at h;have hl:=congrArg tR h
  grind
def av5 (a:Rat):de (RT a) [48]=decide (a=0):=by
 by_cases h:a=0
 ·subst h;exact UB WD
 ·rw [xb h];exact po (fun e=>h (asZ e))
end
def av6 (hs h:Rat):Bool:=decide (hs=0)||decide (h<hs)
section
variable {s1 s2 s3 s4:Int} {w1 w2 w3 w4:AV} {l1 l2 l3 l4:List Nat}
def B2 (a b c d:AV) (r:List AV):iX 4 true (a::b::c::d::r)=some (.agg [a,b,c,d]):=rfl
end
structure Sp (P:aM) (L:Lib):Prop extends Ck P L where
 zM:Has P L 31 CP
 CR:Has P L 33 Hs
 h53:Has P L 53 c53
 h54:Has P L 54 c54
 h60:Has P L 60 c60
 E0:Has P L 61 EK
 W3:Has P L 63 c63
 C4:Has P L 64 c64
 h65:Has P L 65 c65
 h68:Has P L 68 c68
 h75:Has P L 75 c75
 aEC:Has P L 112 ahN
 aED:Has P L 113 ahO
 aEE:Has P L 114 ahP
section
variable {P:aM} {L:Lib}
def aoC (a:List Nat):de a a=true:=OF rfl
end
structure F4 (c1 c2 c3 c4:AV):Prop where
 an:∀(n:Nat) (hp:Hp),freeze (n+20) hp (.agg [c1,c2,c3,c4])=some (.agg [c1,c2,c3,c4],hp)
 fm:∀hp:Hp,result hp (.agg [c1,c2,c3,c4])=some (.agg [c1,c2,c3,c4])
 st:∀(hp:Hp) (ct id:Nat) (a b c d:AV),gP hp ct id 0 4 [c1,c2,c3,c4] (some (.cells true true true 4 [a,b,c,d]))=some (.az [],aT hp id (.cells true true true 4 [c1,c2,c3,c4]),ct)
 bx:∀ct:Nat,GU ct 4 [c1,c2,c3,c4]=some (.ptr ct 0,.cells true true true 4 [c1,c2,c3,c4])
 o1:dG c1=true
 o2:dG c2=true
 o3:dG c3=true
 o4:dG c4=true
 pu:a7 (.agg [c1,c2,c3,c4])=true
 z1:∀(n:Nat) (hp:Hp),freeze (n+1) hp c1=some (c1,hp)
 z2:∀(n:Nat) (hp:Hp),freeze (n+1) hp c2=some (c2,hp)
 z3:∀(n:Nat) (hp:Hp),freeze (n+1) hp c3=some (c3,hp)
 z4:∀(n:Nat) (hp:Hp),freeze (n+1) hp c4=some (c4,hp)
def dh.gen {v:AV} {a:Rat} (h:dh v a):∃c1 c2 c3 c4,v= .agg [c1,c2,c3,c4]/\F4 c1 c2 c3 c4:=by
 obtain ⟨s1,w1,s2,w2,rfl,h1,h2⟩:=h;obtain ⟨l1,u1⟩:=h1.aQ;obtain ⟨l2,u2⟩:=h2.aQ;refine ⟨_,_,_,_,rfl,fun n hp=>?_,mF u1 u2,fun hp ct id a b c d=>mE u1 u2 hp ct id a b c d,fun ct=>by simp only [go_sem,yd,bc,u1.pu,u1.one,u2.pu,u2.one],rfl,u1.one,rfl,u2.one,by simp [a7,aH,u1.pu,u2.pu],fun _ _=>rfl,fun n _=>u1.an n,fun _ _=>rfl,fun n _=>u2.an n⟩;exact cy _ _ (by simp only [go_sem,u1.an,u2.an])
def QL:List AV->List Rat->Prop
 | [],[]=>True
 | a::b::c::d::r,x::l=>dh (.agg [a,b,c,d]) x/\QL r l
 | _,_=>False
def QL.inv {cs:List AV} {x:Rat} {l:List Rat} (h:QL cs (x::l)):∃a b c d r,cs=a::b::c::d::r/\dh (.agg [a,b,c,d]) x/\QL r l:=by
 match cs,h with
 | a::b::c::d::r,h=>exact ⟨a,b,c,d,r,rfl,h.1,h.2⟩
def QL.Qv {cs:List AV} (h:QL cs []):cs=[]:=by
 match cs,h with
 | [],_=>rfl
 | [_],h=>exact h.elim
 | [_,_],h=>exact h.elim
 | [_,_,_],h=>exact h.elim
 | _::_::_::_::_,h=>exact h.elim
def QL.len:∀{l:List Rat} {cs:List AV},QL cs l->cs.length=l.length*4
 | [],_,h=>by rw [h.Qv];rfl
 | x::l,cs,h=>by
  obtain ⟨a,b,c,d,r,rfl,_,h2⟩:=h.inv
  have:=h2.len
  grind
def F4.E7 {c1 c2 c3 c4:AV} (g:F4 c1 c2 c3 c4):a7 c1=true/\a7 c2=true/\a7 c3=true/\a7 c4=true:=by
 have:=g.pu
 simpa only [a7,aH,uk,yi] using this
def dh.f4 {a b c d:AV} {x:Rat} (h:dh (.agg [a,b,c,d]) x):F4 a b c d:=by
 obtain ⟨_,_,_,_,e,g⟩:=h.gen
 grind
def QL.pu:∀{l:List Rat} {cs:List AV},QL cs l->aH cs=true
 | [],_,h=>by rw [h.Qv];rfl
 | x::l,cs,h=>by
  obtain ⟨a,b,c,d,r,rfl,h1,h2⟩:=h.inv;obtain ⟨p1,p2,p3,p4⟩:=h1.f4.E7;simp only [aH,p1,p2,p3,p4,h2.pu,wm]
def QL.one:∀{l:List Rat} {cs:List AV},QL cs l->cw cs=true
 | [],_,h=>by rw [h.Qv];rfl
 | x::l,cs,h=>by
  obtain ⟨a,b,c,d,r,rfl,h1,h2⟩:=h.inv;have g:=h1.f4;simp only [cw,g.o1,g.o2,g.o3,g.o4,h2.one,wm]
def QL.cX:∀{l m:List Rat} {cs ds:List AV},QL cs l->QL ds m->QL (cs++ds) (l++m)
 | [],m,cs,ds,h,k=>by rw [h.Qv];exact k
 | x::l,m,cs,ds,h,k=>by
  obtain ⟨a,b,c,d,r,rfl,h1,h2⟩:=h.inv;exact ⟨h1,h2.cX k⟩
def QL.snoc {l:List Rat} {x:Rat} {cs:List AV} {a b c d:AV} (h:QL cs l) (k:dh (.agg [a,b,c,d]) x):QL (cs++[a,b,c,d]) (l++[x]):=h.cX ⟨k,trivial⟩
def QL.get:∀{l:List Rat} {cs:List AV} {i:Nat},QL cs l->∀(hi:i<l.length),∃a b c d r,cs.drop (i*4)=a::b::c::d::r/\dh (.agg [a,b,c,d]) l[i]
 | [],_,i,_,hi=>absurd hi (vE i)
 | x::l,cs,0,h,hi=>by
  obtain ⟨a,b,c,d,r,rfl,h1,_⟩:=h.inv
  grind
 | x::l,cs,i+1,h,hi=>by
  obtain ⟨a,b,c,d,r,rfl,_,h2⟩:=h.inv;obtain ⟨a',b',c',d',r',e,k⟩:=h2.get (i:=i) (by simpa using hi)
  grind
def cS (v:AV) (l:List Rat):Prop:=(v= .ab/\l=[])\/∃e cs,v= .aE e l.length cs/\QL cs l
section
variable {v:AV} {l:List Rat} {hp:Hp}
def cS.len (h:cS v l) {hp:Hp}:gg hp 1 v=some (.int .i64 (l.length:Nat)):=by
 rcases h with ⟨rfl,rfl⟩ | ⟨e,cs,rfl,h⟩<;>rfl
def cS.pu (h:cS v l):a7 v=true:=by
 rcases h with ⟨rfl,rfl⟩ | ⟨e,cs,rfl,h⟩<;>rfl
def cS.an (h:cS v l) (n:Nat) {hp:Hp}:freeze (n+1) hp v=some (v,hp):=by
 rcases h with ⟨rfl,rfl⟩ | ⟨e,cs,rfl,h⟩<;>rfl
def cS.one (h:cS v l):dG v=true:=by
 rcases h with ⟨rfl,rfl⟩ | ⟨e,cs,rfl,h⟩<;>rfl
def cS.cells (h:cS v l):cellsOf v=[v]:=by
 rcases h with ⟨rfl,rfl⟩ | ⟨e,cs,rfl,h⟩<;>rfl
def cS.bi (h:cS v l) {i:Nat} (hi:i<l.length):∃a b c d r,kX 4 i v=some (.aO (a::b::c::d::r))/\dh (.agg [a,b,c,d]) l[i]:=by
 rcases h with ⟨rfl,rfl⟩ | ⟨e,cs,rfl,h⟩
 ·grind
 ·obtain ⟨a,b,c,d,r,e1,e2⟩:=h.get hi;refine ⟨a,b,c,d,r,?_,e2⟩;rw [TG e _ hi,e1]
def aoD:cS .ab []:= .inl ⟨rfl,rfl⟩
def Jn {cs:List AV} (e:Bool) (h:QL cs l):cS (.aE e l.length cs) l:= .inr ⟨e,cs,rfl,h⟩
end
def UC {tm:Env} {a b c d x0 x1 x2 x3:AV} {r:List (Nat×Nat×X)} (h1:dG a=true) (h2:dG b=true) (h3:dG c=true) (h4:dG d=true):qJ tm [x0,x1,x2,x3] 0 4 [a,b,c,d] r=fill tm [a,b,c,d] r:=by
 rw [TI (by rfl) (by simp) (by simp [cw,h1,h2,h3,h4])];rfl
def Cf (bS pu ex:Bool) (a b c d:AV):Xz 0 1 4 (some (.cells bS pu ex 4 [a,b,c,d]))=some (1,[a,b,c,d]):=rfl
def Er (hp:Hp) (cs:List AV):jz hp 4 true (.aO cs)=iX 4 true cs:=rfl
abbrev Mx:=List (List Rat)
def du (a b:List Rat) (x y:Rat):List Rat:=List.zipWith (fun p q=>p*x+q*y) a b
def Ag {a b:List Rat} {x y:Rat} (h:a.length=b.length):(du a b x y).length=a.length:=by
 simp [du,h]
def JJ {a b:List Rat} {x y:Rat} {i:Nat} (ha:i<a.length) (hb:i<b.length) (h:i<(du a b x y).length):(du a b x y)[i]=a[i]*x+b[i]*y:=by
 simp [du]
def gR (m:Mx) (i:Nat):List Rat:=m.getD i []
def aW (r:List Rat) (c:Nat):Rat:=r.getD c 0
def cm {m:Mx} {i:Nat} (h:i<m.length):gR m i=m[i]:=by
 simp [gR,yM,y9 h]
def db {r:List Rat} {i:Nat} (h:i<r.length):aW r i=r[i]:=by
 simp [aW,yM,y9 h]
def ib (m:Mx) (i j:Nat) (r:List Rat):gR (m.set i r) j=if i=j/\j<m.length then r else gR m j:=by
 simp only [gR,yM,List.getElem?_set]
 grind
def kI (m:Mx) (c:Nat):Nat->Nat->Nat
 | 0,p=>p
 | d+1,p=>if aW (gR m p) c=0 then kI m c d (p+1) else p
def UD (m:Mx) (c:Nat):∀d p,p<=kI m c d p/\kI m c d p<=p+d
 | 0,p=>⟨yq _,yq _⟩
 | d+1,p=>by
  have:=UD m c d (p+1)
  simp only [kI];split<;>omega
def TV (m:Mx) (c:Nat):∀d p,kI m c d p<p+d->aW (gR m (kI m c d p)) c≠0
 | 0,p,h=>by simp only [kI] at h;omega
 | d+1,p,h=>by
  simp only [kI] at h ⊢
  split
  ·rename_i h0;rw [yA h0] at h;exact TV m c d (p+1) (by omega)
  ·grind
def bN (m:Mx) (i j:Nat):Mx:=(m.set i (gR m j)).set j (gR m i)
def pZ (m:Mx) (a c:Nat):Mx:=m.set a (du (gR m a) (gR m a) (aW (gR m a) c)⁻¹ 0)
def p0 (m:Mx) (a c i:Nat):Mx:=if i≠a/\aW (gR m i) c≠0 then m.set i (du (gR m i) (gR m a) 1 (-(aW (gR m i) c))) else m
def cK (m:Mx) (a c:Nat):Nat->Mx
 | 0=>m
 | i+1=>p0 (cK m a c i) a c i
def a8 (s:Mx×List Nat) (c:Nat):Nat:=kI s.1 c (s.1.length-s.2.length) s.2.length
def eL (s:Mx×List Nat) (c:Nat):Mx:=pZ (bN s.1 s.2.length (a8 s c)) s.2.length c
def ir (s:Mx×List Nat) (c:Nat):Mx×List Nat:=
 if a8 s c<s.1.length then (cK (eL s c) s.2.length c s.1.length,s.2++[c]) else s
def ay (m:Mx):Nat->Mx×List Nat
 | 0=>(m,[])
 | c+1=>ir (ay m c) c
def z8 (m:Mx) (i j:Nat):(bN m i j).length=m.length:=by simp [bN]
def as3 (m:Mx) (a c:Nat):(pZ m a c).length=m.length:=by simp [pZ]
def as4 (m:Mx) (a c i:Nat):(p0 m a c i).length=m.length:=by unfold p0;split<;>simp
def Ah (m:Mx) (a c:Nat):∀i,(cK m a c i).length=m.length
 | 0=>rfl
 | i+1=>by rw [cK,as4,Ah m a c i]
def Ai (s:Mx×List Nat) (c:Nat):(eL s c).length=s.1.length:=by rw [eL,as3,z8]
def as5 (s:Mx×List Nat) (c:Nat):(ir s c).1.length=s.1.length:=by
 unfold ir;split
 ·simp only [Ah,Ai]
 ·rfl
def BS (m:Mx):∀c,(ay m c).1.length=m.length
 | 0=>rfl
 | c+1=>by rw [ay,as5,BS m c]
def wid (w:Nat) (m:Mx):Prop:=∀i,i<m.length->(gR m i).length=w
def wid.set {w:Nat} {m:Mx} {r:List Rat} (h:wid w m) (i:Nat) (hr:r.length=w):wid w (m.set i r):=fun j hj=>by
 rw [xD] at hj;rw [ib];split
 ·grind
 ·exact h j hj
def wid.bN {w:Nat} {m:Mx} (h:wid w m) {i j:Nat} (hi:i<m.length) (hj:j<m.length):wid w (bN m i j):=(h.set i (h j hj)).set j (h i hi)
def wid.pZ {w:Nat} {m:Mx} (h:wid w m) {a:Nat} (ha:a<m.length) (c:Nat):wid w (pZ m a c):=h.set a (by rw [Ag rfl];exact h a ha)
def wid.p0 {w:Nat} {m:Mx} (h:wid w m) {a i:Nat} (ha:a<m.length) (hi:i<m.length) (c:Nat):wid w (p0 m a c i):=by
 unfold VE.p0;split
 ·exact h.set i (by rw [Ag ((h i hi).trans (h a ha).symm)];exact h i hi)
 ·exact h
def wid.cK {w:Nat} {m:Mx} (h:wid w m) {a:Nat} (ha:a<m.length) (c:Nat):∀i,i<=m.length->wid w (cK m a c i)
 | 0,_=>h
 | i+1,hi=>by
  have ih:=wid.cK h ha c i (by omega);exact ih.p0 (by rw [Ah];exact ha) (by rw [Ah];omega) c
structure Pv (m:Mx) (w c:Nat) (s:Mx×List Nat):Prop where
 len:s.1.length=m.length
 wid:wid w s.1
 pv:s.2.length<=m.length
 lt:∀p,p∈s.2->p<c
def Pv.a8 {m:Mx} {w c:Nat} {s:Mx×List Nat} (h:Pv m w c s) (c':Nat):s.2.length<=a8 s c'/\a8 s c'<=m.length:=by
 have:=UD s.1 c' (s.1.length-s.2.length) s.2.length
 have h1:=h.len;have h2:=h.pv;unfold VE.a8;omega
def Pv.eL {m:Mx} {w c:Nat} {s:Mx×List Nat} (h:Pv m w c s) {c':Nat} (hp:VE.a8 s c'<s.1.length):VE.wid w (eL s c'):=by
 have h1:=(h.a8 c').1;exact (h.wid.bN (by omega) hp).pZ (by rw [z8];omega) c'
def Pv.step {m:Mx} {w c:Nat} {s:Mx×List Nat} (h:Pv m w c s):Pv m w (c+1) (ir s c):=by
 have h1:=(h.a8 c).1;have h2:=h.len;unfold ir;split
 ·rename_i hp;refine ⟨by simp only [Ah,Ai,h2],(h.eL hp).cK (by rw [Ai];omega) c _ (by rw [Ai];omega),by simp only [yG,yy,yO];omega,fun p hp=>?_⟩;rcases xL.1 hp with hp | hp
  ·have:=h.lt p hp;omega
  ·grind
 ·exact ⟨h2,h.wid,h.pv,fun p hp=>by have:=h.lt p hp;omega⟩
def Gg {m:Mx} {w:Nat} (h:wid w m):∀c,Pv m w c (ay m c)
 | 0=>⟨rfl,h,uJ _,fun p hp=>by cases hp⟩
 | c+1=>(Gg h c).step
def aqK {s:Mx×List Nat} (h:s.2.length=s.1.length) (c:Nat):ir s c=s:=by
 have:¬a8 s c<s.1.length:=by
  unfold a8;rw [h,ub];simp [kI]
 unfold ir;rw [yo this]
def abH {m:Mx} {c:Nat} (h:(ay m c).2.length=m.length):∀d,ay m (c+d)=ay m c
 | 0=>rfl
 | d+1=>by
  have ih:=abH h d;rw [<-Nat.add_assoc,ay,ih];exact aqK (by rw [h,BS]) _
def TW {m:Mx} {a c:Nat}:∀{n:Nat},n<=m.length->∀j,gR (cK m a c n) j=if j<n/\j≠a/\aW (gR m j) c≠0 then du (gR m j) (gR m a) 1 (-(aW (gR m j) c)) else gR m j
 | 0,_,j=>by rw [yo (by omega)];rfl
 | n+1,hn,j=>by
  have ih:=TW (m:=m) (a:=a) (c:=c) (n:=n) (by omega);have en:gR (cK m a c n) n=gR m n:=by simp_all
  have ea:gR (cK m a c n) a=gR m a:=by simp_all
  rw [cK];unfold p0;rw [en,ea];by_cases h:n≠a/\aW (gR m n) c≠0
  ·rw [yA h,ib];by_cases hj:n=j
   ·subst hj;rw [yA ⟨rfl,by rw [Ah];omega⟩,yA ⟨by omega,h⟩]
   ·grind
  ·grind
def b9 (K:Nat) (m:Mx):Prop:=∀i,i<m.length->∀x,x∈gR m i->Hq K x
def b9.mono {K J:Nat} {m:Mx} (h:b9 K m) (hK:K<=J):b9 J m:=fun i hi x hx=>(h i hi x hx).mono hK
def b9.set {K:Nat} {m:Mx} {r:List Rat} (h:b9 K m) (i:Nat) (hr:∀x,x∈r->Hq K x):b9 K (m.set i r):=fun j hj x hx=>by
 rw [xD] at hj;rw [ib] at hx;split at hx
 ·grind
 ·exact h j hj x hx
def Dx {r:List Rat} {c:Nat} (h:c<r.length):aW r c∈r:=by rw [db h];exact yE h
def acV {a b:List Rat} {x y:Rat} (h:a.length=b.length) {z:Rat} (hz:z∈du a b x y):∃p q,p∈a/\q∈b/\z=p*x+q*y:=by
 obtain ⟨i,hi,rfl⟩:=xG.1 hz;have cB:=hi;rw [Ag h] at cB;exact ⟨_,_,yE cB,yE (h▸cB),JJ cB (h▸cB) hi⟩
def aoE {r:List Rat} {t:Rat} {k:Nat} (hr:∀x,x∈r->Hq k x) (ht:Hq k t):∀z,z∈du r r t 0->Hq (2*k) z:=fun z hz=>by
 obtain ⟨p,q,hp,_,rfl⟩:=acV rfl hz;rw [show p*t+q*0=p*t by grind];exact ((hr p hp).mul ht).mono (by omega)
def aqL {r p:List Rat} {t:Rat} {k:Nat} (hl:r.length=p.length) (hr:∀x,x∈r->Hq k x) (hp:∀x,x∈p->Hq (2*k) x) (ht:Hq k t):∀z,z∈du r p 1 (-t)->Hq (4*k+1) z:=fun z hz=>by
 obtain ⟨x,y,hx,hy,rfl⟩:=acV hl hz;rw [show x*1+y* -t=x+y* -t by grind];exact ((hr x hx).add ((hp y hy).mul ht.neg)).mono (by omega)
def b9.bN {K:Nat} {m:Mx} (h:b9 K m) {i j:Nat} (hi:i<m.length) (hj:j<m.length):b9 K (bN m i j):=(h.set i (h j hj)).set j (h i hi)
def b9.eL {m:Mx} {w c:Nat} {s:Mx×List Nat} (h:Pv m w c s) {k:Nat} (hk:b9 k s.1) (hc:c<w) (hp:a8 s c<s.1.length):(∀x,x∈gR (eL s c) s.2.length->Hq (2*k) x)/\∀i,i<s.1.length->i≠s.2.length->∀x,x∈gR (VE.eL s c) i->Hq k x:=by
 have h1:=(h.a8 c).1;have hs:=hk.bN (i:=s.2.length) (by omega) hp;have hw:=h.wid.bN (i:=s.2.length) (by omega) hp;unfold VE.eL pZ;refine ⟨fun x hx=>?_,fun i hi ck x hx=>?_⟩
 ·rw [ib,yA ⟨rfl,by rw [z8];omega⟩] at hx;have hr:=hs s.2.length (by rw [z8];omega);refine aoE hr (hr _ (Dx ?_)).inv x hx;rw [hw _ (by rw [z8];omega)];exact hc
 ·rw [ib,yo (fun q=>ck q.1.symm)] at hx;exact hs i (by rw [z8];exact hi) x hx
def acW {m:Mx} {w c a k:Nat} (hw:wid w m) (hc:c<w) (ha:a<m.length) (g1:∀x,x∈gR m a->Hq (2*k) x) (g2:∀i,i<m.length->i≠a->∀x,x∈gR m i->Hq k x) {n:Nat} (hn:n<=m.length):b9 (4*k+1) (cK m a c n):=fun i hi x hx=>by
 rw [Ah] at hi;rw [TW hn] at hx;have wi:=hw i hi;have wa:=hw a ha
 split at hx
 ·rename_i q;exact aqL (wi.trans wa.symm) (g2 i hi q.2.1) g1 (g2 i hi q.2.1 _ (Dx (by rw [wi];exact hc))) x hx
 ·by_cases kJ:i=a
  ·subst kJ;exact (g1 x hx).mono (by omega)
  ·exact (g2 i hi kJ x hx).mono (by omega)
def b9.step {m:Mx} {w c:Nat} {s:Mx×List Nat} (h:Pv m w c s) {k:Nat} (hk:b9 k s.1) (hc:c<w) (QD:1<=k):b9 (4*k+1) (ir s c).1:=by
 unfold ir;split
 ·rename_i hp;have h1:=(h.a8 c).1;obtain ⟨g1,g2⟩:=hk.eL h hc hp;exact acW (h.eL hp) hc (by rw [Ai];omega) g1 (fun i hi=>g2 i (by rw [Ai] at hi;exact hi)) (by rw [Ai];omega)
 ·exact hk.mono (by omega)
def Tk {s:Mx×List Nat} {c:Nat} (h:¬a8 s c<s.1.length):ir s c=s:=yo h
def ahb {m:Mx} {w K:Nat} (hw:wid w m) (hk:b9 K m) (hK:1<=K):∀c,c<=w->∃k,1<=k/\k+1<=4^(ay m c).2.length*(K+1)/\b9 k (ay m c).1
 | 0,_=>⟨K,hK,by simp [ay],hk⟩
 | c+1,hc=>by
  obtain ⟨k,k0,k1,k2⟩:=ahb hw hk hK c (by omega);have hP:=Gg hw c;rw [ay];by_cases hp:a8 (ay m c) c<(ay m c).1.length
  ·refine ⟨4*k+1,by omega,?_,k2.step hP (by omega) k0⟩
   have:(ir (ay m c) c).2.length=(ay m c).2.length+1:=by unfold ir;rw [yA hp];simp
   rw [this,xi,Nat.mul_right_comm];omega
  ·rw [Tk hp];exact ⟨k,k0,k1,k2⟩
section
variable {P:aM} {L:Lib}
def WG (h:Ck P L) {s:List Nat} (h0:bJ s=0):∃r,aj P L 62 [.str s] r/\dh r (aZ s):=by
 obtain ⟨hR,_⟩:=BL h0;have kr:=acU h0 (yq 2400);have hl:=Ko kr;obtain ⟨r,e,hr⟩:=m62 h.toTx (a:=aZ s) (by omega);rw [<-hR] at e;exact ⟨r,e,hr⟩
def amZ {q:Rat} (h:0<=cJ q.num):0<=q:=by
 refine Rat.num_nonneg.1 ?_;unfold cJ at h
 split at h
 ·exact absurd h (by decide)
 ·omega
end
def IQ:dI (.int .i64 0)=some 0:=rfl
def CG:dI (.int .i64 1)=some 1:=rfl
def aaB:∀{ps:List (List AV)},(∀p,p∈ps->p.length=4)->ps.flatten.length=ps.length*4
 | [],_=>by simp
 | p::ps,h=>by
  have:=aaB (ps:=ps) (fun q hq=>h q (List.mem_cons_of_mem _ hq))
  rw [vH,yG,this,h p List.mem_cons_self,yy,Nat.add_mul];omega
def WH (v:AV) (l:List Rat):Prop:=∃cs,v= .aE true l.length cs/\QL cs l
def WH.fs {v:AV} {l:List Rat} (h:WH v l):cS v l:=by
 obtain ⟨cs,rfl,h⟩:=h;exact Jn true h
section
variable {P:aM} {L:Lib}
def aAk (h:Ck P L) (CD:Has P L 161 GL) {v:AV} {l:List (List Nat)} (hv:bm v l) (hl:l.length<=1000000) (hs:∀s,s∈l->s.length<=1000000000):aj P L 161 [v] (aa (bH (l.map bJ))):=by
 unfold aj;rw [aI CD];simp only [go_sem,ya,GL,hv.len];have key:=fk (P:=P) (L:=L) (live:=[6,7,8]) (a:=OR)
  (I:=fun k s=>∃i:Nat,s=⟨[(6,v),(7,aa l.length),(8,aa i)],[],0,0⟩/\i+k=l.length/\bH ((l.drop i).map bJ)=bH (l.map bJ))
  (Q:=fun ex s=>∃tm ct,s=⟨tm,[],ct,0⟩/\((ex= .ret/\af tm 2=aa (bH (l.map bJ)))\/(ex= .exit 0/\bH (l.map bJ)=0))) ?_
 ·generalize hq:D P L (.loop [6,7,8] OR) _=q;obtain ⟨ex,s,rfl,tm,ct,rfl,h2⟩:=bD hq (key l.length) ⟨0,by simp only [go_sem,ya,aw,aq hv.pu,au _ hv.pu]<;>rfl,by omega,by simp⟩
  rcases h2 with ⟨rfl,h2⟩ | ⟨rfl,h2⟩
  ·simp only [go_sem,h2]
  ·rw [h2];simp only [go_sem,aw]
 ·rintro k s ⟨i,rfl,hk,hf⟩;simp only [go_sem,ya,OR];by_cases hi:i<l.length
  ·have cB:(i:Int)<l.length:=by omega
   have e1:=X7 h (hs l[i] (yE hi));unfold aj at e1;rw [aaA hi] at hf;by_cases hz:bJ l[i]=0
   ·left
    rw [hz] at e1;simp only [go_sem,ya,cB,hv.bi hi,e1];refine ⟨_,k-1,rfl,by omega,i+1,?_,by omega,by rw [yA hz] at hf;exact hf⟩
    rw [wrap64 (by omega) (by omega)];simp only [go_sem,ya,aw,aq hv.pu,au _ hv.pu]<;>rfl
   ·right
    simp only [go_sem,ya,cB,hv.bi hi,e1,hz];rw [yo hz] at hf;refine ⟨_,_,rfl,by simp,_,_,rfl,.inl ⟨rfl,?_⟩⟩;simp only [go_sem,hf]
  ·right
   have cB:¬(i:Int)<l.length:=by omega
   simp only [go_sem,cB];refine ⟨_,_,rfl,by simp,_,_,rfl,.inr ⟨rfl,?_⟩⟩;rw [<-hf,xe (by omega)];rfl
def aAl (h:Ck P L) (Da:Has P L 88 Hu) {v:AV} {l:List (List Nat)} (hv:bm v l) (hl:l.length<=1000000) (hc:∀s,s∈l->bJ s=0):∃r,aj P L 88 [v] r/\WH (shut r) (l.map aZ):=by
 have zf:∀n,(yf (n+1) [AV.int .i64 0,.ab,.int .i64 0,.ab]).flatten= .int .i64 0:: .ab:: .int .i64 0:: .ab::(yf n [AV.int .i64 0,.ab,.int .i64 0,.ab]).flatten:=fun n=>by rw [xP,vH];rfl
 have zl:∀n,(yf n [AV.int .i64 0,.ab,.int .i64 0,.ab]).flatten.length=n*4:=fun n=>by
  rw [aaB (fun p hp=>by rw [List.eq_of_mem_replicate hp];rfl),List.length_replicate]
 have key:=fk (P:=P) (L:=L) (live:=[3,9,10,11]) (a:=KF)
  (I:=fun k st=>∃(i:Nat) (qs:List AV),i+k=l.length/\QL qs ((l.take i).map aZ)/\st=⟨[(3,.ak 0 0 l.length),(9,v),(10,aa l.length),(11,aa i)],[(0,.cells true true true 4 (qs++(yf (l.length-i) [AV.int .i64 0,.ab,.int .i64 0,.ab]).flatten))],1,0⟩)
  (Q:=fun ex st=>∃tm hp ct qs,QL qs (l.map aZ)/\st=⟨tm,hp,ct,0⟩/\ex= .exit 0/\af tm 3= .ak 0 0 l.length/\ao hp 0=some (.cells true true true 4 qs)) ?_
 ·unfold aj;rw [aI Da];have mk:om 0 4 64 [AV.int .i64 0,.ab,.int .i64 0,.ab] (some l.length) (some l.length)=some (.ak 0 0 l.length,.cells true true true 4 (yf l.length [AV.int .i64 0,.ab,.int .i64 0,.ab]).flatten):=sQ (by omega) (by omega) (by rfl) (by rfl);simp only [go_sem,ya,yd,Hu,hv.len,NT (show (0:Int)<=l.length by omega),wq,mk];generalize hq:D P L (.loop [3,9,10,11] KF) _=q;obtain ⟨ex,st,rfl,tm,hp,ct,qs,lL,rfl,rfl,t3,g0⟩:=bD hq (key l.length) ⟨0,[],by omega,trivial,by simp only [go_sem,ya,yd,aw,aq hv.pu,au _ hv.pu]<;>rfl⟩
  have pJ:=lL.len;rw [yk] at pJ;refine ⟨.bV true 4 l.length qs,?_,?_⟩
  ·simp only [go_sem,yd,aw,t3,g0];exact p9 (ej _ _ _) pJ (by decide)
  ·exact ⟨qs,by rw [yk];rfl,lL⟩
 ·rintro k st ⟨i,qs,oB,lL,rfl⟩;by_cases hi:i<l.length
  ·left
   obtain ⟨r,e2,hr⟩:=WG h (hc _ (yE hi));have bk:=hr;obtain ⟨r1,r2,r3,r4,rfl,gr⟩:=hr.gen;have lq:qs.length=i*4:=by rw [lL.len,yk,yI,xt (by omega)]
   have pr:=gr.E7;have aJ:∀(hp:Hp) (ct:Nat),gP hp ct 0 (i*4) 4 [r1,r2,r3,r4] (some (.cells true true true 4 (qs++(yf (l.length-i) [AV.int .i64 0,.ab,.int .i64 0,.ab]).flatten)))=some (.az [],aT hp 0 (.cells true true true 4 ((qs++[r1,r2,r3,r4])++(yf (l.length-(i+1)) [AV.int .i64 0,.ab,.int .i64 0,.ab]).flatten)),ct):=fun hp ct=>by
    rw [od (by rfl) (by rw [yG,lq,zl];omega) (by simp [cw,gr.o1,gr.o2,gr.o3,gr.o4])];have Yh:over (i*4) [r1,r2,r3,r4] (qs++(yf (l.length-i) [AV.int .i64 0,.ab,.int .i64 0,.ab]).flatten)=(qs++[r1,r2,r3,r4])++(yf (l.length-(i+1)) [AV.int .i64 0,.ab,.int .i64 0,.ab]).flatten:=by
     rw [show l.length-i=(l.length-(i+1))+1 by omega,zf];unfold over;rw [<-lq,uH,show qs.length+[r1,r2,r3,r4].length=qs.length+4 from rfl,<-List.drop_drop,vj];rfl
    rw [Yh];simp [aH,pr.1,pr.2.1,pr.2.2.1,pr.2.2.2]
   unfold aj at e2;simp only [go_sem,ya,KF,show (i:Int)<l.length by omega,hv.bi hi,e2,bO,NT (show (0:Int)<=i by omega),wq,bA 0 0 hi,yg,aJ];refine ⟨_,k-1,rfl,by omega,i+1,qs++[r1,r2,r3,r4],by omega,?_,?_⟩
   ·rw [yT hi,xg];exact lL.snoc bk
   ·rw [wrap64 (by omega) (by omega)];simp only [go_sem,ya,yd,aw,aq hv.pu,au _ hv.pu]<;>rfl
  ·right
   have:i=l.length:=by omega
   subst this;rw [yC (yq _)] at lL;simp only [go_sem,ya,KF,show ¬(l.length:Int)<l.length by omega,ub];exact ⟨_,_,rfl,by simp,_,_,_,qs,lL,rfl,rfl,by simp only [go_sem,ya],by simp only [go_sem];simp⟩
def m88 (h:Ck P L) (Da:Has P L 88 Hu) {v:AV} {l:List (List Nat)} (hv:bm v l) (hl:l.length<=1000000) (hc:∀s,s∈l->bJ s=0):∃r,aj P L 88 [v] r/\cS (shut r) (l.map aZ):=by
 obtain ⟨r,h1,h2⟩:=aAl h Da hv hl hc;exact ⟨r,h1,h2.fs⟩
end
structure Vl (P:aM) (L:Lib):Prop extends Fr' P L where
 h55:Has P L 55 c55
 h56:Has P L 56 c56
 aEF:Has P L 103 ahJ
 aEG:Has P L 104 ahK
 aEH:Has P L 105 ahL
 aEI:Has P L 106 ahM
 aAm:Has P L 134 VK
 aEJ:Has P L 150 ahV
section
variable {P:aM} {L:Lib}
def aiV (hp:Hp) (ct:Nat) (q:Option (AV×Obj)):gM:=match q with | some (v,b)=>some (v,(ct,b)::hp,ct+1) | none=>none
def aeN {f:cG} {tm:Env} {hp:Hp} {ct:Nat} (sz b:Nat) (x v:X):bg P L f tm hp ct (.pG sz b x v)=aiV hp ct (n8 hp ct sz b (aC tm x) (iP hp sz (aC tm v))):=rfl
def aeO {hp:Hp} {ct:Nat} {v:AV} {b:Obj}:aiV hp ct (some (v,b))=some (v,(ct,b)::hp,ct+1):=rfl
structure BuT (P:aM) (L:Lib):Prop where
 h40:Has P L 40 c40
 h96:Has P L 96 c96
 aEK:Has P L 133 ahT
structure SmP (P:aM) (L:Lib):Prop extends BuT P L,Sq P L where
 h41:Has P L 41 c41
 h97:Has P L 97 c97
 aAm:Has P L 134 VK
structure ShP (P:aM) (L:Lib):Prop extends SmP P L where
 nK:Has P L 20 c20
 h51:Has P L 51 c51
 h58:Has P L 58 c58
 h34:Has P L 34 c34
end
def lyT (w:AV) (hh sc st ox oy wx wy:List Nat):AV:= .agg [w,.str hh,.str sc,.str st,.str ox,.str oy,.str wx,.str wy]
noncomputable def aAn (s:List (List Int)) (hh sc st ox oy wx wy:List Nat):Int:=bH [anG s,nD hh 0,nD sc 1,bJ st,bH [bJ ox,bJ oy],bH [bJ wx,bJ wy]]
def IX {a:Int} {l:List Int}:bH (a::l)=0↔a=0/\bH l=0:=by
 simp only [bH]
 grind
structure Lp (P:aM) (L:Lib):Prop extends Sp P L,Vl P L,ShP P L where
 h24:Has P L 24 c24
 h57:Has P L 57 c57
 X3:Has P L 66 c66
 h67:Has P L 67 c67
 aEL:Has P L 115 ahQ
 aEM:Has P L 116 ahR
structure Lay where
 w:AV
 s:List (List Int)
 hh:List Nat
 sc:List Nat
 st:List Nat
 ox:List Nat
 oy:List Nat
 wx:List Nat
 wy:List Nat
def Lay.cs (a:Lay):List AV:=[a.w,.str a.hh,.str a.sc,.str a.st,.str a.ox,.str a.oy,.str a.wx,.str a.wy]
def Lay.T (a:Lay):AV:=lyT a.w a.hh a.sc a.st a.ox a.oy a.wx a.wy
noncomputable def Lay.E (a:Lay):Int:=aAn a.s a.hh a.sc a.st a.ox a.oy a.wx a.wy
def take_set {α:Type} {l:List α} {i:Nat} {a:α} (h:i<l.length):(l.set i a).take (i+1)=l.take i++[a]:=by
 rw [yT (by simpa using h),List.getElem_set_self,List.take_set_of_le (yq i)]
def stS {hp:Hp} {ct id o:Nat} {v:List Nat} {ex:Bool} {l:List (List Nat)} (h:o<l.length):gP hp ct id o 1 [.str v] (some (.cells true true ex 1 (l.map .str)))=some (.az [],aT hp id (.cells true true ex 1 ((l.set o v).map .str)),ct):=by
 rw [od (by rfl) (by simp;omega) (by rfl)]
 have:over o [.str v] (l.map .str)=(l.set o v).map .str:=by
  simp only [over,yy,yO,yg];rw [List.map_set,vX,yA (by simpa using h)]
  simp
 rw [this];rfl
def aAo (ct:Nat) {n:Nat} (h:n<=10000000000):om ct 1 16 [.str []] (some n) (some n)=some (.ak ct 0 n,.cells true true true 1 ((yf n []).map .str)):=by
 rw [sQ (sz:=1) (by omega) (by omega) (by rfl) (by rfl)]
 have:∀n,(yf n [AV.str []]).flatten=(yf n []).map .str:=fun n=>by
  induction n with
  | zero=>rfl
  | succ n ih=>rw [xP,vH,ih,xP,xd];rfl
 rw [this];rfl
def as6 (l:List (List Nat)):bm (.aE true l.length (l.map .str)) l:=OH true l
section
variable {P:aM} {L:Lib}
def aAp (h:Has P L 160 GK) {v:AV} {l:List Rat} (hv:cS v l) (hl:l.length<=1000000) {g:Nat} {p:Rat->Bool} (hg:∀w x,x∈l->dh w x->aj P L g [w] (.bool (p x))):∃n:Int,aj P L 160 [v,.fn (.f g) [] []] (aa n)/\decide (0<=n)=l.any p:=by
 have key:=fk (P:=P) (L:=L) (live:=[0,1,7,8]) (a:=FU)
  (I:=fun k s=>∃i:Nat,i+k=l.length/\(l.drop i).any p=l.any p/\s=⟨[(0,v),(1,.fn (.f g) [] []),(7,aa l.length),(8,aa i)],[],0,0⟩)
  (Q:=fun ex s=>∃tm hp ct,s=⟨tm,hp,ct,0⟩/\((∃n:Int,ex= .ret/\af tm 4=aa n/\0<=n/\l.any p=true)\/(ex= .exit 0/\l.any p=false))) ?_
 ·unfold aj;rw [aI h];simp only [go_sem,ya,GK,hv.len];generalize hq:D P L (.loop [0,1,7,8] FU) _=q;obtain ⟨ex,s,rfl,tm,hp,ct,rfl,h2⟩:=bD hq (key l.length) ⟨0,by omega,rfl,by simp only [go_sem,ya,aw,aq hv.pu,au _ hv.pu]<;>rfl⟩
  rcases h2 with ⟨n,rfl,h2,h3,h4⟩ | ⟨rfl,h2⟩
  ·exact ⟨n,by simp only [go_sem,h2]<;>rfl,by rw [h4];simpa using h3⟩
  ·exact ⟨-1,by simp only [go_sem,aw]<;>rfl,by rw [h2];decide⟩
 ·rintro k s ⟨i,hk,hf,rfl⟩;by_cases hi:i<l.length
  ·have cB:(i:Int)<l.length:=by omega
   obtain ⟨a,b,c,d,r,e1,hx⟩:=hv.bi hi;have e2:=hg _ _ (yE hi) hx;have gx:=hx.f4;rw [aqk hi] at hf
   cases eF:p l[i] with
   | false=>
    left
    rw [eF] at e2;simp only [go_sem,ya,FU,cB,e1,Er,B2,gx.an,e2];rw [eF,vL] at hf;refine ⟨_,k-1,rfl,by omega,i+1,by omega,hf,?_⟩;rw [wrap64 (by omega) (by omega)];simp only [go_sem,ya,aw,aq hv.pu,au _ hv.pu]<;>rfl
   | true=>
    right
    rw [eF] at e2;simp only [go_sem,ya,FU,cB,e1,Er,B2,gx.an,e2];refine ⟨_,_,rfl,by simp,_,_,_,rfl,.inl ⟨i,rfl,?_,by omega,?_⟩⟩
    ·simp only [go_sem]
    ·rw [<-hf,eF,tU]
  ·right
   simp only [go_sem,ya,FU,show ¬(i:Int)<l.length by omega];refine ⟨_,_,rfl,by simp,_,_,_,rfl,.inr ⟨rfl,?_⟩⟩;rw [<-hf,xe (by omega)];rfl
def aAq (h:Has P L 122 K1) (LJ:Has P L 160 GK) {v:AV} {l:List Rat} (hv:cS v l) (hl:l.length<=1000000) {g:Nat} {p:Rat->Bool} (hg:∀w x,x∈l->dh w x->aj P L g [w] (.bool (p x))):aj P L 122 [v,.fn (.f g) [] []] (.bool (l.any p)):=by
 obtain ⟨n,e1,e2⟩:=aAp LJ hv hl hg;unfold aj at e1 ⊢;rw [aI h];simp only [go_sem,ya,K1,hv.an,e1,e2]
def aAr (h:Has P L 123 K2) (hT:Tx P L) {v:AV} {l:List Rat} {K:Nat} (hv:cS v l) (hl:l.length<=1000000) (hk:∀x,x∈l->Hq K x) (hK:K<=4000000000):∃r,aj P L 123 [v] r/\bm (shut r) (l.map RT):=by
 have key:=fk (P:=P) (L:=L) (live:=[3,9,10,11]) (a:=JT)
  (I:=fun k st=>∃(i:Nat) (out:List (List Nat)),i+k=l.length/\out.length=l.length/\out.take i=(l.take i).map RT/\st=⟨[(3,.ak 0 0 l.length),(9,v),(10,aa l.length),(11,aa i)],[(0,.cells true true true 1 (out.map .str))],1,0⟩)
  (Q:=fun ex st=>∃tm hp ct,st=⟨tm,hp,ct,0⟩/\ex= .exit 0/\af tm 3= .ak 0 0 l.length/\ao hp 0=some (.cells true true true 1 ((l.map RT).map .str))) ?_
 ·unfold aj;rw [aI h];simp only [go_sem,ya,yd,K2,hv.len,NT (show (0:Int)<=l.length by omega),wq,aAo 0 (show l.length<=10000000000 by omega)];generalize hq:D P L (.loop [3,9,10,11] JT) _=q;obtain ⟨ex,st,rfl,tm,hp,ct,rfl,rfl,t3,g0⟩:=bD hq (key l.length) ⟨0,yf l.length [],by omega,by simp,by simp,by simp only [go_sem,ya,yd,aw,aq hv.pu,au _ hv.pu]<;>rfl⟩
  refine ⟨.bV true 1 l.length ((l.map RT).map .str),?_,?_⟩
  ·simp only [go_sem,yd,aw,t3,g0];exact p9 (ej _ _ _) (by simp) (by decide)
  ·have:=as6 (l.map RT)
   rwa [yk] at this
 ·rintro k st ⟨i,out,oB,hlen,GC,rfl⟩;by_cases hi:i<l.length
  ·left
   obtain ⟨a,b,c,d,r,e1,hx⟩:=hv.bi hi;have e2:=m46 hT hx (hk _ (yE hi)) hK;have gx:=hx.f4;unfold aj at e2
   simp only [go_sem,ya,yd,yh,JT,show (i:Int)<l.length by omega,e1,Er,bc,gx.st,B2,gx.an,yL,e2,NT (show (0:Int)<=i by omega),wq,bA 0 0 hi,yg,stS (l:=out) (o:=i) (by omega)];refine ⟨_,k-1,rfl,by omega,i+1,out.set i (RT l[i]),by omega,by simpa using hlen,?_,?_⟩
   ·rw [take_set (by omega),GC,yT hi,xg];rfl
   ·rw [wrap64 (by omega) (by omega)];simp only [go_sem,ya,yd,aw,aq hv.pu,au _ hv.pu]<;>rfl
  ·right
   have:i=l.length:=by omega
   subst this;rw [yC (by omega),yC (yq _)] at GC;subst GC;simp only [go_sem,ya,JT,show ¬(l.length:Int)<l.length by omega];exact ⟨_,_,rfl,by simp,_,_,_,rfl,rfl,by simp only [go_sem,ya],by simp only [go_sem]⟩
def m83 (RG:Has P L 83 Ml) (WI:Has P L 122 K1) (WJ:Has P L 123 K2) (LJ:Has P L 160 GK) (hT:Tx P L) {v:AV} {l:List Rat} {K:Nat} (hv:cS v l) (hl:l.length<=1000000) (hk:∀x,x∈l->Hq K x) (hK:K<=4000000000):
  (l.any LG=true->aj P L 83 [v] (.az [.ab,aa 4]))/\(l.any LG=false->∃r,bm r (l.map RT)/\aj P L 83 [v] (.az [r,aa 0])):=by
 have e1:=aAq WI LJ hv hl (g:=107) (p:=LG) (fun w x hx hw=>azO hT hw (hk x hx) hK);obtain ⟨r,e2,hr⟩:=aAr WJ hT hv hl hk hK;unfold aj at e1 e2 ⊢;constructor
 ·intro ha;rw [ha] at e1;rw [aI RG];simp only [go_sem,ya,Ml,hv.an,e1]
 ·intro ha;rw [ha] at e1;refine ⟨_,hr,?_⟩;rw [aI RG];simp only [go_sem,ya,Ml,hv.an,e1,e2];rcases hr with ⟨hr,_⟩ | ⟨e,hr⟩<;>rw [hr]<;>rfl
end
noncomputable def Lay.low (sh:List Nat) (a:Lay):Bool:=av6 (aZ sh) (aZ a.hh)
def NH {α:Type} {f:α->Int}:∀{l:List α},bH (l.map f)=0->∀a,a∈l->f a=0
 | [],_,_,h=>by cases h
 | x::l,h,a,ha=>by
  rw [xd,IX] at h;rcases List.mem_cons.1 ha with rfl | ha
  ·grind
  ·exact NH h.2 a ha
def cF.snoc {α β:Type} {p:α->β->Prop}:∀{l:List α} {m:List β} {a:α} {b:β},cF p l m->p a b->cF p (l++[a]) (m++[b])
 | [],[],_,_,_,h=>⟨h,trivial⟩
 | _::_,_::_,_,_,h,k=>⟨h.1,cF.snoc h.2 k⟩
def cx {β:Type} (p:AV->β->Prop) (v:AV) (M:List β):Prop:=∃rows,cZ v rows/\cF p rows M
section
variable {β:Type} {p:AV->β->Prop} {v:AV} {s:List β}
def cx.len (h:cx p v s) {hp:Hp}:gg hp 1 v=some (.int .i64 (s.length:Nat)):=by
 obtain ⟨rows,h1,h2⟩:=h;rw [<-h2.len];exact h1.len
def cx.pu (h:cx p v s):a7 v=true:=by obtain ⟨rows,h1,h2⟩:=h;exact h1.pu
def cx.an (h:cx p v s) (n:Nat) {hp:Hp}:freeze (n+1) hp v=some (v,hp):=by obtain ⟨rows,h1,h2⟩:=h;exact h1.an n
def cx.one (h:cx p v s):dG v=true:=by obtain ⟨rows,h1,h2⟩:=h;exact h1.one
def cx.cells (h:cx p v s):cellsOf v=[v]:=by obtain ⟨rows,h1,h2⟩:=h;exact h1.cells
def cx.bi (h:cx p v s) {i:Nat} (hi:i<s.length):∃r rest,p r s[i]/\kX 1 i v=some (.aO (r::rest)):=by
 obtain ⟨rows,h1,h2⟩:=h;have cB:i<rows.length:=by rw [h2.len];exact hi
 exact ⟨_,_,h2.get cB hi,h1.bi cB⟩
def SM:cx p .ab []:=⟨[],rI,trivial⟩
def BM (e:Bool) {rows:List AV} (h:cF p rows s):cx p (.aE e s.length rows) s:=by
 have:=JC e rows
 rw [h.len] at this;exact ⟨rows,this,h⟩
end
noncomputable def nO (w:Nat) (r:List (List Nat)):Int:=bH [if r.length=0 then 12 else 0,if 64<r.length then 5 else 0,if r.length=w then 0 else 2,bH (r.map bJ)]
noncomputable def mS (M:List (List (List Nat))):Int:=if M.length=0 then 12 else if 64<M.length then 5 else bH (M.map (nO (M.getD 0 []).length))
def Gw {β:Type} {M:List (List β)} (h:0<M.length):M.getD 0 []=M[0]:=by simp_all
def oV (id:Nat):Nat->AV
 | 0=> .ab
 | n+1=> .ak id 0 (n+1)
def oH (id z:Nat) (cs:List AV) (r:Hp):Nat->Hp
 | 0=>r
 | _+1=>(id,.cells true true false z cs)::r
def oC (id:Nat):Nat->Nat
 | 0=>id
 | _+1=>id+1
section
variable {P:aM} {L:Lib}
def aAs (h:Ck P L) (CD:Has P L 161 GL) (G6:Has P L 126 K3) {v r:AV} {M:List (List (List Nat))} {l:List (List Nat)} (hv:cx bm v M) (hM:0<M.length) (hr:bm r l) (hl:l.length<=1000000) (hs:∀s,s∈l->s.length<=1000000000):aj P L 126 [r,.aO [v]] (aa (nO (M.getD 0 []).length l)):=by
 obtain ⟨r0,rest,h0,e0⟩:=hv.bi (i:=0) hM;rw [Gw hM];have e1:=ot h.qV (decide ((l.length:Int)=0)) 12;have e2:=ot h.qV (decide ((64:Int)<l.length)) 5;have e3:=ot h.qV (!decide ((l.length:Int)=(M[0].length:Nat))) 2;have e4:=aAk h CD hr hl hs;have q1:(if decide ((l.length:Int)=0)=true then (12:Int) else 0)=if l.length=0 then 12 else 0:=by
  simp only [wz];split<;>omega
 have q2:(if decide ((64:Int)<l.length)=true then (5:Int) else 0)=if 64<l.length then 5 else 0:=by
  simp only [wz];split<;>omega
 have q3:(if (!decide ((l.length:Int)=(M[0].length:Nat)))=true then (2:Int) else 0)=if l.length=M[0].length then 0 else 2:=by
  simp only [Bool.not_eq_true',wR];split<;>omega
 rw [q1] at e1;rw [q2] at e2;rw [q3] at e3;have e5:aj P L 125 _ _:=Nd.Wu h.Wv (kP true [if l.length=0 then (12:Int) else 0,if 64<l.length then 5 else 0,if l.length=M[0].length then 0 else 2,bH (l.map bJ)]) (by simp);unfold nO;simp only [yy,yO,xd,vN] at e5;unfold aj at e1 e2 e3 e4 e5 ⊢;rw [aI G6];simp only [go_sem,ya,yd,yJ,yp,yh,K3,hr.len,hr.an,e1,e2,IQ,e0,h0.len,e3,e4,e5]
def aAt (G7:Has P L 127 K4) {v:AV} {M:List (List (List Nat))} (hv:cx bm v M) (hl:M.length<=1000000) {g:Nat} {cap:List AV} (hc:aH cap=true) (hz:∀(n:Nat) (hp:Hp),cD (n+900) hp cap=some (cap,hp)) {f:List (List Nat)->Int} (hg:∀w a,a∈M->bm w a->aj P L g (w::cap) (aa (f a))):aj P L 127 [v,.fn (.f g) [] cap] (aa (bH (M.map f))):=by
 have pf:a7 (.fn (.f g) [] cap)=true:=by simp [a7,aH,hc]
 have key:=fk (P:=P) (L:=L) (live:=[1,8,9,10]) (a:=OQ)
  (I:=fun k s=>∃i:Nat,s=⟨[(1,.fn (.f g) [] cap),(8,v),(9,aa M.length),(10,aa i)],[],0,0⟩/\i+k=M.length/\bH ((M.drop i).map f)=bH (M.map f))
  (Q:=fun ex s=>∃tm ct,s=⟨tm,[],ct,0⟩/\((ex= .ret/\af tm 4=aa (bH (M.map f)))\/(ex= .exit 0/\bH (M.map f)=0))) ?_
 ·unfold aj;rw [aI G7];simp only [go_sem,ya,K4,hv.len];generalize hq:D P L (.loop [1,8,9,10] OQ) _=q;obtain ⟨ex,s,rfl,tm,ct,rfl,h2⟩:=bD hq (key M.length) ⟨0,by simp only [go_sem,ya,aw,aq hv.pu,au _ hv.pu,aq pf,au _ pf]<;>rfl,by omega,by simp⟩
  rcases h2 with ⟨rfl,h2⟩ | ⟨rfl,h2⟩
  ·simp only [go_sem,h2]
  ·rw [h2];simp only [go_sem,aw]
 ·rintro k s ⟨i,rfl,hk,hf⟩;simp only [go_sem,ya,OQ];by_cases hi:i<M.length
  ·have cB:(i:Int)<M.length:=by omega
   obtain ⟨r,rest,hr,e0⟩:=hv.bi hi;have e1:=hg r _ (yE hi) hr;rw [yP hi,xd] at hf;simp only [bH] at hf;by_cases eF:f M[i]=0
   ·left
    rw [eF] at e1;simp only [go_sem,ya,cB,e0,hr.an,hz,e1];refine ⟨_,k-1,rfl,by omega,i+1,?_,by omega,by rw [yA eF] at hf;exact hf⟩
    rw [wrap64 (by omega) (by omega)];simp only [go_sem,ya,aw,aq hv.pu,au _ hv.pu,aq pf,au _ pf]<;>rfl
   ·right
    simp only [go_sem,ya,cB,e0,hr.an,hz,e1,eF];rw [yo eF] at hf;refine ⟨_,_,rfl,by simp,_,_,rfl,.inl ⟨rfl,?_⟩⟩;simp only [go_sem,hf]
  ·right
   have cB:¬(i:Int)<M.length:=by omega
   simp only [go_sem,cB];refine ⟨_,_,rfl,by simp,_,_,rfl,.inr ⟨rfl,?_⟩⟩;rw [<-hf,xe (by omega)];rfl
def m84 (h:Ck P L) (CD:Has P L 161 GL) (G6:Has P L 126 K3) (G7:Has P L 127 K4) (RH:Has P L 84 Ht) {v:AV} {M:List (List (List Nat))} (hv:cx bm v M) (hl:M.length<=1000000) (hr:∀r,r∈M->r.length<=1000000/\∀s,s∈r->s.length<=1000000000):aj P L 84 [v] (aa (mS M)):=by
 have e1:=ot h.qV (decide ((M.length:Int)=0)) 12;have e2:=ot h.qV (decide ((64:Int)<M.length)) 5;have e3:∀a b:Int,aj P L 125 _ _:=fun a b=>Nd.Wu h.Wv (kP true [a,b]) (by simp)
 unfold mS;unfold aj at e1 e2 e3 ⊢;rw [aI RH];by_cases h0:M.length=0
 ·rw [yA h0];rw [show decide ((M.length:Int)=0)=true by simp only [wz];omega] at e1;rw [show decide ((64:Int)<M.length)=false by simp only [wR];omega] at e2;have e4:bK P L (D P L) 125 [.aE true 2 [aa 12,aa 0]]=some (aa 12):=e3 12 0;simp only [xE,yN,xn] at e1 e2;simp only [go_sem,ya,yd,yJ,yp,yh,Ht,hv.len,hv.pu,hv.one,hv.cells,Pr,show (M.length:Int)=0 by omega,yu,show ¬(64:Int)<0 by omega,yv,e1,e2,e4,uh,yU]
 rw [yo h0];rw [show decide ((M.length:Int)=0)=false by simp only [wR];omega] at e1;by_cases C4:64<M.length
 ·rw [yA C4];rw [show decide ((64:Int)<M.length)=true by simp only [wz];omega] at e2;have e4:bK P L (D P L) 125 [.aE true 2 [aa 0,aa 5]]=some (aa 5):=e3 0 5;simp only [xE,yN,xn] at e1 e2;simp only [go_sem,ya,yd,yJ,yp,yh,Ht,hv.len,hv.pu,hv.one,hv.cells,Pr,show ¬(M.length:Int)=0 by omega,yu,show (64:Int)<(M.length:Int) by omega,yv,e1,e2,e4,uh,yU]
 ·rw [yo C4];rw [show decide ((64:Int)<M.length)=false by simp only [wR];omega] at e2;have e4:bK P L (D P L) 125 [.aE true 2 [aa 0,aa 0]]=some (aa 0):=e3 0 0;have e5:=aAt G7 hv hl (g:=126) (cap:=[.aO [v]]) rfl (fun _ _=>rfl) (fun w a ha hw=>aAs h CD G6 hv (by omega) hw (hr a ha).1 (hr a ha).2);simp only [yN,xn] at e1 e2;simp only [go_sem,ya,yd,yJ,yp,yh,Ht,hv.len,hv.pu,hv.an,hv.one,hv.cells,Pr,show ¬(M.length:Int)=0 by omega,show ¬(64:Int)<(M.length:Int) by omega,yv,e1,e2,e4,e5,yu,yR]
end
def cF.set {α β:Type} {p:α->β->Prop}:∀{l:List α} {m:List β} (i:Nat) {a:α} {b:β},cF p l m->p a b->cF p (l.set i a) (m.set i b)
 | [],[],i,_,_,_,_=>by simp [cF]
 | _::_,_::_,0,_,_,h,k=>⟨k,h.2⟩
 | _::_,_::_,i+1,_,_,h,k=>⟨h.1,cF.set i h.2 k⟩
def aAu (a:Rat):decide (cJ a.num=0)=decide (a=0):=by
 have:cJ a.num=0↔a=0:=by
  rw [<-ybl];unfold cJ
  grind
 grind
def Pz {hp:Hp} {ct id at_:Nat} {ex:Bool} {r:AV} {rows:List AV} (h:at_<rows.length) (h1:dG r=true) (h2:a7 r=true):gP hp ct id at_ 1 [r] (some (.cells true true ex 1 rows))=some (.az [],aT hp id (.cells true true ex 1 (rows.set at_ r)),ct):=by
 rw [od (by rfl) (by omega) (by simp [cw,h1])]
 have:over at_ [r] rows=rows.set at_ r:=by
  simp only [over,yy,yO,yg];rw [vX,yA h]
  simp
 rw [this];simp [aH,h2]
def aoF {hp:Hp} {id n h:Nat} {bS pu ex:Bool} {cs:List AV} {tm:Env} {y:X} (hg:ao hp id=some (.cells bS pu ex 1 cs)) (hy:dI (aC tm y)=some h) (h2:h<=n):
  fG hp (.sl 1) (.ak id 0 n) tm none (some y)=some (.ak id 0 h):=by
 have e1:dl tm 0 none=some 0:=rfl;have e2:dl tm n (some y)=some h:=hy;have e3:(yz 0 h&& !true)=false:=by simp_all
 simp only [fG,hg,e1,e2,yx (uJ h),yx h2,Nat.beq_refl,wm,yD,e3,yW,yag,y7,Nat.sub_zero]
def LK (hp:Hp) (ct sz:Nat) (q:Option (Nat×List AV)) (d:AV):gM:=
 match q,d with
 | some (m,new),.ak id o n=>
  match ao hp id with
  | some (.cells true pu ex z cs)=>
   bif yz z sz&&(yK (o+n*sz) cs.length&&cw new) then
    some (.int .i64 (min m n:Nat),aT hp id (.cells true (pu&&aH new) ex z (over o (new.take (min m n*sz)) cs)),ct)
   else none
  | _=>none
 | _,_=>none
def av7 {P:aM} {L:Lib} {f:cG} {tm:Env} {hp:Hp} {ct:Nat} (sz:Nat) (d s:X):bg P L f tm hp ct (.oA sz d s)=LK hp ct sz (iN hp sz (aC tm s)) (aC tm d):=by
 show cR tm hp ct (.oA sz d s)=_
 simp only [cR,LK]
 cases iN hp sz (aC tm s) with
 | none=>rfl
 | some q=>obtain ⟨m,new⟩:=q;cases aC tm d<;>rfl
noncomputable def dP (M:List (List (List Nat))):Mx:=M.map (List.map aZ)
abbrev wd {β:Type} (M:List (List β)):Nat:=(M.getD 0 []).length
def Kp {M:List (List (List Nat))} (h:mS M=0):0<M.length/\M.length<=64/\∀r,r∈M->r.length=wd M/\0<r.length/\r.length<=64/\∀s,s∈r->bJ s=0:=by
 unfold mS at h
 split at h
 ·grind
 ·split at h
  ·grind
  ·refine ⟨by omega,by omega,fun r hr=>?_⟩;have h1:=NH h r hr;obtain ⟨a1,h1⟩:=IX.1 h1;obtain ⟨a2,h1⟩:=IX.1 h1;obtain ⟨a3,h1⟩:=IX.1 h1;obtain ⟨a4,_⟩:=IX.1 h1;refine ⟨?_,?_,?_,NH a4⟩
   ·grind
   ·grind
   ·grind
def Jo {M:List (List (List Nat))} (h:∀r,r∈M->r.length=wd M):wid (wd M) (dP M):=fun i hi=>by
 unfold dP at hi ⊢;rw [cm hi,yX,yk]
 grind
def Jp (M:List (List (List Nat))):(dP M).length=M.length:=yk _
def aoG (z:Int):(aD z.natAbs).length<=(aY z).length:=by
 cases z with
 | ofNat n=>exact yq _
 | negSucc n=>show (aD (n+1)).length<=(45::aD (n+1)).length;simp
def Yi {s:List Nat} (h:bJ s=0) (hl:s.length<=40):Hq 160 (aZ s):=by
 obtain ⟨e,h1,h2⟩:=BL h;have hn:=aoG (aZ s).num;have hT:s.length=(aY (aZ s).num).length+(if (aZ s).den=1 then [] else 47::aD (aZ s).den).length:=by
  conv=>lhs;rw [e]
  unfold RT;rw [yG]
 refine ⟨NU (k:=40) (by omega) (by decide),NU (k:=40) ?_ (by decide)⟩
 split at hT
 ·rename_i hd;rw [hd];decide
 ·grind
def av8 {M:List (List (List Nat))} (h:∀r,r∈M->∀s,s∈r->bJ s=0/\s.length<=40):b9 160 (dP M):=fun i hi x hx=>by
 unfold dP at hi hx;rw [cm hi,yX] at hx;obtain ⟨s,hs,rfl⟩:=wA.1 hx;obtain ⟨c,l⟩:=h _ (yE _) s hs;exact Yi c l
def rN {K:Nat} {M:Mx} (h:b9 K M) {r:List Rat} (hr:r∈M):∀x,x∈r->Hq K x:=by
 obtain ⟨i,hi,rfl⟩:=xG.1 hr
 have:=h i hi
 rwa [cm hi] at this
def oO (R:Mx) (pv:List Nat) (n c:Nat):Nat->List Rat
 | 0=>(yf n 0).set c 1
 | i+1=>(oO R pv n c i).set (pv.getD i 0) (-(aW (gR R i) c))
def Es (R:Mx) (pv:List Nat) (n:Nat):Nat->Mx
 | 0=>[]
 | c+1=>if pv.contains c=true then Es R pv n c else Es R pv n c++[oO R pv n c pv.length]
def ahc (M:Mx) (W:Nat):Mx:=Es (ay M W).1 (ay M W).2 W W
def TX (R:Mx) (pv:List Nat) (n c:Nat):∀i,(oO R pv n c i).length=n
 | 0=>by simp [oO]
 | i+1=>by rw [oO,xD,TX R pv n c i]
def Tl {R:Mx} {pv:List Nat} {n:Nat}:∀{c:Nat} {r:List Rat},r∈Es R pv n c->∃d,d<c/\pv.contains d=false/\r=oO R pv n d pv.length
 | 0,r,h=>by cases h
 | c+1,r,h=>by
  unfold Es at h
  split at h
  ·obtain ⟨d,h1,h2⟩:=Tl h;exact ⟨d,by omega,h2⟩
  ·rename_i hc;rcases xL.1 h with h | h
   ·obtain ⟨d,h1,h2⟩:=Tl h;exact ⟨d,by omega,h2⟩
   ·grind
abbrev z4:List AV:=[AV.int .i64 0,.ab,.int .i64 0,.ab]
def UE (n:Nat):(yf n z4).flatten.length=n*4:=by simp_all
def abI {hp:Hp} {ct id i m:Nat} {ex:Bool} {r1 r2 r3 r4:AV} {qs:List AV} (lq:qs.length=i*4) (gr:F4 r1 r2 r3 r4):
  gP hp ct id (i*4) 4 [r1,r2,r3,r4] (some (.cells true true ex 4 (qs++(yf (m+1) z4).flatten)))=some (.az [],aT hp id (.cells true true ex 4 ((qs++[r1,r2,r3,r4])++(yf m z4).flatten)),ct):=by
 have pr:=gr.E7;rw [od (by rfl) (by rw [yG,lq,UE];omega) (by simp [cw,gr.o1,gr.o2,gr.o3,gr.o4])];have Yh:over (i*4) [r1,r2,r3,r4] (qs++(yf (m+1) z4).flatten)=(qs++[r1,r2,r3,r4])++(yf m z4).flatten:=by
  unfold over
  grind
 rw [Yh];simp [aH,pr.1,pr.2.1,pr.2.2.1,pr.2.2.2]
def QL.over:∀{l:List Rat} {cs:List AV} {i:Nat} {a b c d:AV} {x:Rat},QL cs l->i<l.length->dh (.agg [a,b,c,d]) x->QL (VE.over (i*4) [a,b,c,d] cs) (l.set i x)
 | [],_,i,_,_,_,_,_,_,hi,_=>absurd hi (vE i)
 | y::l,cs,0,a,b,c,d,x,h,_,hx=>by
  obtain ⟨a',b',c',d',r,rfl,_,h2⟩:=h.inv;exact ⟨hx,h2⟩
 | y::l,cs,i+1,a,b,c,d,x,h,hi,hx=>by
  obtain ⟨a',b',c',d',r,rfl,h1,h2⟩:=h.inv;have ih:=QL.over (i:=i) h2 (by simpa using hi) hx;have e:VE.over ((i+1)*4) [a,b,c,d] (a'::b'::c'::d'::r)=a'::b'::c'::d'::VE.over (i*4) [a,b,c,d] r:=by
   unfold VE.over
   grind
  rw [e];exact ⟨h1,ih⟩
def stQ {hp:Hp} {ct id i:Nat} {ex:Bool} {r1 r2 r3 r4:AV} {cs:List AV} {l:List Rat} (h:QL cs l) (hi:i<l.length) (gr:F4 r1 r2 r3 r4):
  gP hp ct id (i*4) 4 [r1,r2,r3,r4] (some (.cells true true ex 4 cs))=some (.az [],aT hp id (.cells true true ex 4 (VE.over (i*4) [r1,r2,r3,r4] cs)),ct):=by
 have pr:=gr.E7
 have:=h.len
 rw [od (by rfl) (by omega) (by simp [cw,gr.o1,gr.o2,gr.o3,gr.o4])];simp [aH,pr.1,pr.2.1,pr.2.2.1,pr.2.2.2]
section
variable {P:aM} {L:Lib}
def aqM {w:Nat} {m:Mx} (h:wid w m) (k:Nat):wid w (m.take k):=fun i hi=>by
 rw [yI] at hi;rw [cm (by rw [yI];exact hi),List.getElem_take]
 have:=h i (by omega)
 rwa [cm (by omega)] at this
def mX {w:Nat} {m:Mx} (h:wid w m) {r:List Rat} (hr:r∈m):r.length=w:=by
 obtain ⟨i,hi,rfl⟩:=xG.1 hr
 have:=h i hi
 rwa [cm hi] at this
end
def E8 (a:List Rat) (B:Mx) (c:Nat):Nat->Rat
 | 0=>0
 | k+1=>E8 a B c k+aW a k*aW (gR B k) c
def mulR (a:List Rat) (B:Mx) (w:Nat):List Rat:=(List.range w).map fun c=>E8 a B c a.length
def iE (A B:Mx) (w:Nat):Mx:=A.map fun a=>mulR a B w
def Tm (a:List Rat) (B:Mx) (w:Nat):(mulR a B w).length=w:=by simp [mulR]
def KQ {r:List Rat} {c K:Nat} (h:∀x,x∈r->Hq K x) (hK:2<=K):Hq K (aW r c):=by
 unfold aW;rw [yM]
 cases hq:r[c]? with
 | none=>exact WE.mono hK
 | some y=>exact h y (List.mem_of_getElem? hq)
def aAv {m:Mx} {K:Nat} (h:b9 K m) (i:Nat):∀x,x∈gR m i->Hq K x:=fun x hx=>by
 by_cases hi:i<m.length
 ·exact h i hi x hx
 ·simp [gR,yM,List.getElem?_eq_none (Nat.le_of_not_lt hi)] at hx
def ahd {a:List Rat} {B:Mx} {c K:Nat} (ha:∀x,x∈a->Hq K x) (hB:b9 K B) (hK:2<=K):∀k,Hq (2+k*(2*K+1)) (E8 a B c k)
 | 0=>WE.mono (by omega)
 | k+1=>by
  have:=(ahd (c:=c) ha hB hK k).add ((KQ (c:=k) ha hK).mul (KQ (c:=c) (aAv hB k) hK))
  refine this.mono ?_
  grind
def av9 {a:List Rat} {B:Mx} {w K:Nat} (ha:∀x,x∈a->Hq K x) (hB:b9 K B) (hK:2<=K):∀x,x∈mulR a B w->Hq (2+a.length*(2*K+1)) x:=fun x hx=>by
 obtain ⟨c,_,rfl⟩:=wA.1 hx;exact ahd ha hB hK _
def pH (i c:Nat) (rows cs:List AV):Hp:=oH (oC 0 i) 4 cs (oH 0 1 rows [] i) c
def alJ {α:Type} {f:α->Int} {l:List α} {i:Nat} (h:i<l.length):bH ((l.drop i).map f)=if f l[i]=0 then bH ((l.drop (i+1)).map f) else f l[i]:=by
 rw [yP h,xd,bH]
section
variable {P:aM} {L:Lib}
def a29 (h:Has P L 29 Mi) {v w:AV} {l:List (List Nat)} (hv:bm v l) (hw:bm w l) (hl:l.length<=1000000):aj P L 29 [v,w] (.bool true):=by
 have key:=fk (P:=P) (L:=L) (live:=[0,1,5]) (a:=KE)
  (I:=fun k st=>∃i:Nat,st=⟨[(0,v),(1,w),(5,aa i)],[],0,0⟩/\i+k=l.length)
  (Q:=fun ex st=>∃tm hp ct,st=⟨tm,hp,ct,0⟩/\ex= .exit 0) ?_
 ·unfold aj;rw [aI h];simp only [go_sem,ya,Mi,hv.len,hw.len,yu,yR];generalize hq:D P L (.loop [0,1,5] KE) _=q;obtain ⟨ex,st,rfl,tm,hp,ct,rfl,rfl⟩:=bD hq (key l.length) ⟨0,by simp only [go_sem,ya,aw,aq hv.pu,au _ hv.pu,aq hw.pu,au _ hw.pu]<;>rfl,by omega⟩
  simp only [go_sem,aw]
 ·rintro k st ⟨i,rfl,hk⟩;by_cases hi:i<l.length
  ·left
   simp only [go_sem,ya,KE,hv.len,show (i:Int)<l.length by omega,hv.bi hi,hw.bi hi,BR,aoC,yR];refine ⟨_,k-1,rfl,by omega,i+1,?_,by omega⟩;rw [wrap64 (by omega) (by omega)];simp only [go_sem,ya,aw,aq hv.pu,au _ hv.pu,aq hw.pu,au _ hw.pu]<;>rfl
  ·right
   simp only [go_sem,ya,KE,hv.len,show ¬(i:Int)<l.length by omega];exact ⟨_,_,rfl,by simp,_,_,_,rfl,rfl⟩
def as7 (h:Has P L 345 Cp) {e:Int} (he:e≠0):aj P L 345 [.ab,aa e,aa e,.ab] (.bool true):=by
 unfold aj;rw [aI h];simp only [go_sem,ya,Cp,he,yv,yU,yu]
def as8 (hr:Rl P L) (h:Has P L 345 Cp) (CC:Has P L 316 GO) {w:AV} {l:List Rat} {K:Nat} (hw:bm w (l.map RT)) (hl:l.length<=1000000) (hk:∀x,x∈l->Hq K x) (hK:K<=4000000000) (ha:l.any LG=true):aj P L 345 [.ab,aa 4,aa 0,w] (.bool true):=by
 have e1:=aha hr CC hw hl hk hK;rw [ha,yA rfl] at e1;unfold aj at e1 ⊢;rw [aI h];simp only [go_sem,ya,Cp,hw.an,yu,e1,uh,yv,yU]
def awa (hr:Rl P L) (h:Has P L 345 Cp) (CC:Has P L 316 GO) (MN:Has P L 29 Mi) {v w:AV} {l:List Rat} {K:Nat} (hv:bm v (l.map RT)) (hw:bm w (l.map RT)) (hl:l.length<=1000000) (hk:∀x,x∈l->Hq K x) (hK:K<=4000000000) (ha:l.any LG=false):aj P L 345 [v,aa 0,aa 0,w] (.bool true):=by
 have e1:=aha hr CC hw hl hk hK;rw [ha,yo (by decide)] at e1;have e2:=a29 MN hv hw (by simpa using hl);unfold aj at e1 e2 ⊢;rw [aI h];simp only [go_sem,ya,Cp,hv.an,hw.an,yu,e1,e2,yR]
def aAw (Et:Has P L 332 GP) {n:Nat} (h0:0<n) (hn:n<=1000000):aj P L 332 [aa n] (.bV false 1 n ((yf n [48]).map .str)):=by
 have key:=fk (P:=P) (L:=L) (live:=[0,3,4]) (a:=F0)
  (I:=fun k s=>∃i:Nat,i+k=n/\((i=0/\s=⟨[(0,aa n),(3,.ab),(4,aa i)],[],0,0⟩)\/(0<i/\s=⟨[(0,aa n),(3,.ak 0 0 i),(4,aa i)],[(0,.cells true true false 1 ((yf i [48]).map .str))],1,0⟩)))
  (Q:=fun ex s=>∃tm hp ct,s=⟨tm,hp,ct,0⟩/\ex= .exit 0/\af tm 3= .ak 0 0 n/\ao hp 0=some (.cells true true false 1 ((yf n [48]).map .str))) ?_
 ·unfold aj;rw [aI Et];simp only [go_sem,GP];generalize hq:D P L (.loop [0,3,4] F0) _=q;obtain ⟨ex,s,rfl,tm,hp,ct,rfl,rfl,t3,g0⟩:=bD hq (key n) ⟨0,by omega,.inl ⟨rfl,by simp only [go_sem,ya,aw]<;>rfl⟩⟩
  simp only [go_sem,yd,aw,t3,g0];exact p9 (ej _ _ _) (by simp) (by decide)
 ·rintro k s ⟨i,hk,aJ⟩;by_cases hi:i<n
  ·left
   have eO:(yf (i+1) [48]).map AV.str=(yf i [48]).map AV.str++[.str [48]]:=by rw [List.replicate_succ',xg];rfl
   rcases aJ with ⟨RI,rfl⟩ | ⟨RI,rfl⟩
   ·subst RI;simp only [go_sem,ya,yd,xj,yJ,yp,yh,F0,show ((0:Nat):Int)<n by omega,fY];refine ⟨_,k-1,rfl,by omega,1,by omega,.inr ⟨by omega,?_⟩⟩;rw [wrap64 (by omega) (by omega)];simp only [go_sem,ya,yd,aw]<;>rfl
   ·simp only [go_sem,ya,yd,yp,yh,F0,show (i:Int)<n by omega]
    rw [fA (ex:=false) (pu:=true) (cs:=(yf i [48]).map .str) (by simp only [go_sem,ya]) (by simp) (by omega) (by omega) (by decide) (by simp only [go_sem])];simp only [go_sem,ya,yd];refine ⟨_,k-1,rfl,by omega,i+1,by omega,.inr ⟨by omega,?_⟩⟩;rw [wrap64 (by omega) (by omega),eO];simp only [go_sem,ya,yd,aw]<;>rfl
  ·right
   have:i=n:=by omega
   subst this;rcases aJ with ⟨RI,rfl⟩ | ⟨RI,rfl⟩
   ·omega
   ·simp only [go_sem,ya,F0,show ¬(i:Int)<i by omega];exact ⟨_,_,rfl,by simp,_,_,_,rfl,rfl,by simp only [go_sem,ya],by simp only [go_sem]⟩
end
end VE
