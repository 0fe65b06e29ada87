import Derived.Test.YtnilidoboioodaaGreatDoorTba
import Derived.Test.YtnilidoboioodaaGreatDoorTaz
import Derived.Test.YtnilidoboioodaaGreatDoorTat
import Derived.Test.YtnilidoboioodaaGreatDoorTai
import Derived.Test.YtnilidoboioodaaGreatDoorTah
import Derived.Test.YtnilidoboioodaaGreatDoorTau
import Derived.Test.YtnilidoboioodaaGreatDoorTav
import Derived.Test.YtnilidoboioodaaGreatDoorTaj
set_option linter.all false
set_option maxRecDepth 100000
open Bool renaming and_eq_true→yf,and_self→wC,and_true→uW,false_and→wq,false_or→vR,not_eq_true'→wJ,not_false→yY,not_true→y5,true_and→wB,true_eq_false→tJ,true_or→uN
open Int renaming natAbs_natCast→wP,toNat_natCast→wm
open List renaming append_assoc→xn,append_nil→wD,cons_append→xd,drop_eq_getElem_cons→yP,drop_eq_nil_of_le→xa,drop_left→tv,drop_zero→yy,eq_nil_of_length_eq_zero→yA,flatten_cons→wk,getElem_map→yaa,getElem_mem→xW,length_append→yU,length_cons→yH,length_drop→xJ,length_map→xc,length_nil→yM,length_take→yQ,map_append→xx,map_cons→yW,map_nil→wM,mem_cons→wc,mem_cons_of_mem→wK,mem_map→ud,nil_append→xL,of_mem_zip→yae,replicate→yC,replicate_succ→wO,take_length→xy,take_of_length_le→yD,take_succ_eq_append_getElem→xB
open Nat renaming ble→yx,ble_eq_true_of_le→yu,gcd→we,le_of_ble_eq_true→yr,le_refl→yv,le_trans→xi,lt_of_lt_of_le→yR,mul_one→yo,not_lt_zero→yak,pow_le_pow_right→xA,reduceAdd→yc,reduceEqDiff→ya,reduceLT→yz,reduceLeDiff→yt,reduceMul→xk,zero_add→yj
open Rat renaming sub_self→ybb
namespace VE
open Go (IntKind)
section
variable {P:aR} {L:Lib}
def Fe {K:Nat} {a:Rat} (h:Hq K a):(RT a).length<=2*K+3:=by
 have h1:=Em h.1;have h2:=Em h.2;rw [jQ] at h2;unfold RT
 grind
def Ut {K:Nat} {z:Int} (h:Bd K z):(aw z.natAbs).length<=K+1:=by
 have:=Em (z:=(z.natAbs:Int)) (k:=K) (by unfold Bd at h ⊢;omega)
 rwa [jQ] at this
def Wi (h:Rm P L) {a:Rat} {K:Nat} (ka:Hq K a) (hK:K<=8000000000):∃x y,ai P L 274 [.str (RT a)] (.av [x,y])/\iZ x a.num/\iZ y (a.den:Int):=by
 have h1:=Ut ka.1;have h2:=Ut ka.2
 exact XD h.toRb (n:=a.num) (d:=a.den) (by omega) (by simpa using (by omega:(aw ((a.den:Int)).natAbs).length<=144000000000))
def Wj (h:Rm P L) {n:Int} {d:Nat} (hl:(TT n d).length<=100000000000) (h00:n=0->d=1):ai P L 262 [.str (TT n d)] (aa (cF n)):=by
 unfold ai;rw [aK h.anU];by_cases h0:n<0
 ·have dV:=Wg (n:=n) (d:=d) (by omega);rw [I5 h0] at dV ⊢;simp only [go_sem,ya,FL,jS,dV,show (0:Int)<(((TT (-n) d).length+1:Nat):Int) by omega,AK,yJ];unfold cF;rw [yT h0]
 ·by_cases h1:n=0
  ·subst h1
   have:=h00 rfl
   subst this;rw [show TT 0 1=[48] by decide];simp only [go_sem,ya,FL,jS,show bV [48] [48]=true from rfl];rfl
  ·have dV:=Wg (n:=n) (d:=d) h1;obtain ⟨b,u,hb,iC⟩:=ahu (d:=d) h0;rw [hb] at dV ⊢;simp only [go_sem,ya,FL,jS,dV,show (0:Int)<((u.length+1:Nat):Int) by omega,show kI 0 (.str (b::u))=some (.int .u8 (b:Nat)) from rfl,show ¬((b:Nat):Int)=45 by omega];unfold cF;rw [yE h0,yE h1]
def aab {a:Rat} (h:a.num=0):a.den=1:=by simp_all
def al5 (h:Rm P L) {a:Rat} {K:Nat} (ka:Hq K a) (hK:K<=8000000000):ai P L 262 [.str (RT a)] (aa (cF a.num)):=
 Wj h (by have:=Fe ka;rw [Fy] at this;omega) aab
def al6 (h:Rp P L) {a:Rat} {K:Nat} (ka:Hq K a) (hK:K<=8000000000):ai P L 268 [.str (RT a)] (.str (RT (-a))):=by
 have e:=al5 h.toRm ka hK;have hl:=Fe ka;have en:(-a).num= -a.num:=rfl;have ed:(-a).den=a.den:=rfl;rw [Fy] at hl e ⊢;rw [Fy,en,ed];generalize a.num=n at*
 generalize a.den=d at*
 unfold ai at e ⊢;rw [aK h.anY];by_cases h0:n<0
 ·have es:cF n= -1:=by unfold cF;rw [yT h0]
  rw [es,I5 h0] at e;rw [I5 h0] at hl ⊢;have hc:fP (45::TT (-n) d) (some 1) (some ((TT (-n) d).length+1))=some (.str (TT (-n) d)):=by rw [jv (s:=45::TT (-n) d) (l:=1) (h:=(TT (-n) d).length+1) (by omega) (by simp)];simp
  simp only [go_sem,ya,FN,e,show (-1:Int)<0 by decide,dK,dW,c7,hc]
 ·by_cases h1:n=0
  ·subst h1;have es:cF 0=0:=rfl;rw [es] at e;simp only [go_sem,ya,FN,e,show ¬(0:Int)<0 by decide,yJ,Int.neg_zero]
  ·have es:cF n=1:=by unfold cF;rw [yE h0,yE h1]
   rw [es] at e
   have:TT (-n) d=45::TT n d:=by rw [I5 (by omega),Int.neg_neg]
   rw [this]
   simp only [go_sem,ya,FN,e,show ¬(1:Int)<0 by decide,show ¬(1:Int)=0 by decide,fc (a:=[45]) (b:=TT n d) (by simp;omega),xd,xL]
end
def ahw (n:Int) (d:Nat):M0 true n d= .av [aa n,aa d,.bool true]:=rfl
def NE {a b:Int} (ha:a.natAbs<1000000000) (hb:b.natAbs<1000000000):(a*b).natAbs<1000000000000000000:=by
 rw [Int.natAbs_mul];exact yR (Nat.mul_lt_mul'' ha hb) (by decide)
section
variable {P:aR} {L:Lib}
def al7 (h:Rm P L) {a b:Int} (ha: -4000000000000000000<=a/\a<=4000000000000000000) (hb:0<b/\b<=4000000000000000000):ai P L 277 [aa a,aa b] (.str (RT (Rat.divInt a b))):=by
 rw [Us hb.1];exact amT h.anV h.Oe h.nM ha hb
def Wk (h:Rp P L) {a:Rat} {K:Nat} (ka:Hq K a) (hK:K<=8000000000):∃q:Bool,ai P L 276 [.str (RT a)] (M0 q a.num a.den)/\(q=true->a.num.natAbs<1000000000/\a.den<1000000000):=
 amU h.an0 h.sH h.qB (n:=a.num) (d:=a.den) (by have:=Fe ka;rw [Fy] at this;omega)
def al8 (h:Rp P L) {a b:Rat} {K M:Nat} (ka:Hq K a) (kb:Hq M b) (hK:K+M+1<=8000000000):ai P L 264 [.str (RT a),.str (RT b)] (.str (RT (a+b))):=by
 obtain ⟨q1,e1,b1⟩:=Wk h ka (by omega);obtain ⟨q2,e2,b2⟩:=Wk h kb (by omega);have arM:=Lm a b;by_cases hq:(q1=true/\q2=true)
 ·obtain ⟨rfl,rfl⟩:=hq;obtain ⟨b11,b12⟩:=b1 rfl;obtain ⟨b21,b22⟩:=b2 rfl;have p1:=NE (a:=a.num) (b:=(b.den:Int)) (by omega) (by omega);have p2:=NE (a:=b.num) (b:=(a.den:Int)) (by omega) (by omega);have p3:=NE (a:=(a.den:Int)) (b:=(b.den:Int)) (by omega) (by omega);have e3:=al7 h.toRm (a:=a.num*b.den+b.num*a.den) (b:=(a.den:Int)*b.den) (by omega) (by omega);rw [<-add_eq] at e3;rw [ahw] at e1 e2;unfold ai at e1 e2 e3 ⊢;rw [aK h.Xz]
  simp only [go_sem,ya,FM,e1,e2,wrap64 (n:=a.num*(b.den:Int)) (by omega) (by omega),wrap64 (n:=b.num*(a.den:Int)) (by omega) (by omega),wrap64 (n:=a.num*(b.den:Int)+b.num*(a.den:Int)) (by omega) (by omega),wrap64 (n:=(a.den:Int)*(b.den:Int)) (by omega) (by omega),e3]
 ·have bB:∃n1 d1 n2 d2,bA P L (D P L) 276 [.str (RT a)]=some (.av [aa n1,aa d1,.bool q1])/\bA P L (D P L) 276 [.str (RT b)]=some (.av [aa n2,aa d2,.bool q2]):=by
   cases q1<;>cases q2<;>exact ⟨_,_,_,_,e1,e2⟩
  obtain ⟨n1,d1,n2,d2,e1,e2⟩:=bB;obtain ⟨x,y,e3,hx,hy⟩:=Wi h.toRm ka (by omega);obtain ⟨z,w,e4,hz,hw⟩:=Wi h.toRm kb (by omega);have OO:max K M<=8000000000:=by omega
  obtain ⟨r,e5,hr⟩:=OJ (K:=max K M) h.ON h.km h.iQ h.cC OO hx hw (ka.1.mono (by omega)).r (kb.2.mono (by omega)).r;obtain ⟨r2,Qm,kw⟩:=OJ (K:=max K M) h.ON h.km h.iQ h.cC OO hz hy (kb.1.mono (by omega)).r (ka.2.mono (by omega)).r;obtain ⟨s,e6,hs⟩:=OJ (K:=max K M) h.ON h.km h.iQ h.cC OO hy hw (ka.2.mono (by omega)).r (kb.2.mono (by omega)).r;have k1:Bd (K+M) (a.num*b.den):=ka.1.mul kb.2;have k2:Bd (K+M) (b.num*a.den):=(kb.1.mul ka.2).mono (by omega);obtain ⟨t,e8,ht⟩:=anM (K:=K+M) h.an1 h.OK h.lT h.Kb h.kP h.iQ h.cC (by omega) hr kw k1.r k2.r;have e7:=al4 h.toRm hK ht hs (k1.Ou k2) ((ka.2.mul kb.2).mono (by omega)) (by omega);rw [<-add_eq] at e7;obtain ⟨xw,xl,rfl,fp,_,_,_⟩:=hx;obtain ⟨yw,yl,rfl,fq,_,_,_⟩:=hy;obtain ⟨zw,zl,rfl,D1,_,_,_⟩:=hz;obtain ⟨ww,wl,rfl,D2,_,_,_⟩:=hw;obtain ⟨ef,rl,rfl,sU,_,_,_⟩:=hr
  obtain ⟨rw2,rl2,rfl,XE,_,_,_⟩:=kw;obtain ⟨tw,tl,rfl,ZD,_,_,_⟩:=ht;obtain ⟨sw,sl,rfl,nj,_,_,_⟩:=hs;have hb:¬(q1=true/\q2=true):=hq;unfold ai at e3 e4 e5 Qm e6 e7 e8 ⊢;rw [aK h.Xz]
  cases q1 with
  | false=>
   simp only [go_sem,ya,yc,FM,aZ,e1,e2,e3,e4,fp.pu,fp.ak,fp.one,fq.pu,fq.ak,fq.one,D1.pu,D1.ak,D1.one,D2.pu,D2.ak,D2.one,sU.ak,XE.ak,ZD.ak,nj.ak,bY,bN,Ei,eQ,ot,e5,Qm,e8,e6,e7]
  | true=>
   cases q2 with
   | true=>exact absurd ⟨rfl,rfl⟩ hb
   | false=>
    simp only [go_sem,ya,yc,FM,aZ,e1,e2,e3,e4,fp.pu,fp.ak,fp.one,fq.pu,fq.ak,fq.one,D1.pu,D1.ak,D1.one,D2.pu,D2.ak,D2.one,sU.ak,XE.ak,ZD.ak,nj.ak,bY,bN,Ei,eQ,ot,e5,Qm,e8,e6,e7]
def Wl (h:Rp P L) {a b:Rat} {K M:Nat} (ka:Hq K a) (kb:Hq M b) (hK:K+M+1<=8000000000):ai P L 271 [.str (RT a),.str (RT b)] (.str (RT (a-b))):=by
 have e1:=al6 h kb (by omega);have e2:=al8 h ka kb.neg hK;rw [<-Rat.sub_eq_add_neg] at e2;unfold ai at e1 e2 ⊢;rw [aK h.anZ];simp only [go_sem,ya,N3,e1,e2]
end
def SB {P:aR} {L:Lib} (a b c d:VC) (s:St):D P L (.seq a (.seq b (.seq c d))) s=mJ P L (D P L (.seq a (.seq b c)) s) d:=by
 have e:=zO (P:=P) (L:=L) b c d;rw [j0,j0]
 cases D P L a s with
 | none=>rfl
 | some q=>
  obtain ⟨ex,st⟩:=q
  cases ex with
  | normal=>rw [fL,fL];exact e st
  | ret=>rfl
  | exit id=>rfl
def mE {a b:List Nat} (h:a≠b):bV a b=false:=by
 cases hb:bV a b with
 | false=>rfl
 | true=>exact absurd (Mo hb) h
def TC:∀a:List Nat,bV a a=true
 | []=>rfl
 | x::a=>by simp [bV,TC a]
def U5 {a b:List Nat} (h:a=b):bV a b=true:=h▸TC a
def adj {s:List Nat} {i:Nat} (h:i<s.length):cM (s.drop i)=(yx 48 s[i]&&yx s[i] 57&&cM (s.drop (i+1))):=by
 rw [yP h];rfl
section
variable {P:aR} {L:Lib}
def aob (h:Has P L 287 FR) {s:List Nat} (hl:s.length<9223372036854775808):ai P L 287 [.str s] (.bool (cM s)):=by
 have key:=gW (P:=P) (L:=L) (live:=[0,3]) (a:=Aa)
  (I:=fun k st=>∃i:Nat,st=⟨[(0,.str s),(3,aa i)],[],0,0⟩/\i+k=s.length/\cM (s.drop i)=cM s)
  (Q:=fun ex st=>∃tm ct,st=⟨tm,[],ct,0⟩/\((ex= .ret/\ah tm 2= .bool false/\cM s=false)\/(ex= .exit 0/\cM s=true))) ?_
 ·unfold ai;rw [aK h];simp only [go_sem,FR];generalize hq:D P L (.loop [0,3] Aa) _=q;obtain ⟨ex,st,rfl,tm,ct,rfl,h2⟩:=bP hq (key s.length) ⟨0,by simp only [go_sem,ya,aA]<;>rfl,by omega,by simp⟩
  rcases h2 with ⟨rfl,h2,h3⟩ | ⟨rfl,h3⟩
  ·simp only [go_sem,h2,h3]
  ·simp only [go_sem,aA,h3]
 ·rintro k st ⟨i,rfl,hk,hs⟩;by_cases hi:i<s.length
  ·rw [adj hi] at hs;by_cases h1:s[i]<48
   ·right
    have e:yx 48 s[i]=false:=by
     cases hb:yx 48 s[i] with
     | false=>rfl
     | true=>have:=yr hb;omega
    rw [e,wq,wq] at hs;simp only [go_sem,ya,Aa,show (i:Int)<s.length by omega,nD hi,show ((s[i]:Nat):Int)<48 by omega,yJ];exact ⟨_,_,rfl,by simp,_,_,rfl,.inl ⟨rfl,by simp only [go_sem],hs.symm⟩⟩
   ·by_cases h2:57<s[i]
    ·right
     have e:yx s[i] 57=false:=by
      cases hb:yx s[i] 57 with
      | false=>rfl
      | true=>have:=yr hb;omega
     rw [e,Bool.and_false,wq] at hs;simp only [go_sem,ya,Aa,show (i:Int)<s.length by omega,nD hi,show ¬((s[i]:Nat):Int)<48 by omega,yG,show (57:Int)<((s[i]:Nat):Int) by omega];exact ⟨_,_,rfl,by simp,_,_,rfl,.inl ⟨rfl,by simp only [go_sem],hs.symm⟩⟩
    ·left
     rw [yu (show 48<=s[i] by omega),yu (show s[i]<=57 by omega),wB,wB] at hs;simp only [go_sem,ya,Aa,show (i:Int)<s.length by omega,nD hi,show ¬((s[i]:Nat):Int)<48 by omega,yG,show ¬(57:Int)<((s[i]:Nat):Int) by omega];refine ⟨_,k-1,rfl,by omega,i+1,?_,by omega,hs⟩;rw [wrap64 (by omega) (by omega)];simp only [go_sem,ya,aA]<;>rfl
  ·right
   simp only [go_sem,ya,Aa,show ¬(i:Int)<s.length by omega];refine ⟨_,_,rfl,by simp,_,_,rfl,.inr ⟨rfl,?_⟩⟩;rw [<-hs,xa (by omega)];rfl
def Kd (h:Has P L 273 AH) (CA:Has P L 287 FR) {s:List Nat} (hl:s.length<9223372036854775808):ai P L 273 [.str s] (.bool (dh s)):=by
 have e:=aob CA hl;unfold ai at e ⊢;rw [aK h]
 match s,hl,e with
 | [],_,_=>
  simp only [go_sem,ya,AH,yM,show ((0:Nat):Int)=0 from rfl,yJ];rfl
 | [b],_,e=>
  have:dh [b]=cM [b]:=by simp [dh]
  rw [this];simp only [go_sem,ya,AH,yH,yM,yj,show ¬((1:Nat):Int)=0 by decide,show ¬(1:Int)<((1:Nat):Int) by decide,yG,e]
 | b::c::r,hl,e=>
  have hd:dh (b::c::r)=(cM (b::c::r)&& !(Nat.beq b 48)):=by simp [dh]
  rw [hd];have qV:r.length+2<9223372036854775808:=by simpa using hl
  by_cases hb:b=48
  ·subst hb;simp only [go_sem,ya,AH,yH,show ¬((r.length+1+1:Nat):Int)=0 by omega,yG,show (1:Int)<((r.length+1+1:Nat):Int) by omega,show kI 0 (.str (48::c::r))=some (.int .u8 48) from rfl,yJ]
   simp
  ·have:Nat.beq b 48=false:=fM hb
   rw [this,yY,uW];simp only [go_sem,ya,AH,yH,show ¬((r.length+1+1:Nat):Int)=0 by omega,yG,show (1:Int)<((r.length+1+1:Nat):Int) by omega,show kI 0 (.str (b::c::r))=some (.int .u8 (b:Nat)) from rfl,show ¬((b:Nat):Int)=48 by omega,e]
def TD {s:List Nat} {k:Nat} (h:k<=s.length):fP s (some 0) (some k)=some (.str (s.take k)):=by
 rw [jv (by omega) h,yy]
def Is {s:List Nat} {k:Nat} (h:k<=s.length):fP s (some k) (some s.length)=some (.str (s.drop k)):=by
 rw [jv h (yv _),xy]
def akE (h:Rm P L) {t:List Nat} {k:Nat} (hk:k=bE t) (hl:t.length<9223372036854775808) (hp:dh (t.take k)=true) {tm:Env} (t3:ah tm 3= .str t) (t4:ah tm 4=aa k):
  fg [.t 2] (D P L (ax (ax (ax (ax (ax cR.body))))) ⟨tm,[],0,0⟩)=some (aa (
   if k<t.length/\(dh (t.drop (k+1))=false\/t.drop (k+1)=[48]\/t.drop (k+1)=[49]) then 1
   else if 600<k\/600<t.length-k-1 then 4
   else if k<t.length/\we (eI (t.take k)) (eI (t.drop (k+1)))≠1 then 1
   else 0)):=by
 have Qd:k<=t.length:=by rw [hk];exact Ek t
 have e3:=Kd h.Kc h.CA (s:=t.drop (k+1)) (by rw [xJ];omega);unfold ai at e3;have zF:(k:Int)+1=((k+1:Nat):Int):=rfl;by_cases hs:k<t.length
 ·have c2:=Is (s:=t) (k:=k+1) (by omega);have iK:=Qu t (by omega);rw [<-hk] at iK;have Hd:(t.drop (k+1)).length=t.length-k-1:=by rw [xJ];omega
  have hlp:(t.take k).length=k:=by rw [yQ];omega
  generalize hqe:t.drop (k+1)=q at*
  generalize hpe:t.take k=p at*
  cases hd:dh q with
  | false=>
   rw [yT ⟨hs,.inl rfl⟩];rw [hd] at e3
   simp only [go_sem,ya,cR,ax,t3,t4,show (k:Int)<(t.length:Int) by omega,yJ,zF,wrapN (n:=k+1) (by omega),dK,dW,c7,c2,e3,yY]
  | true=>
   rw [hd] at e3;by_cases ij:q=[48]
   ·rw [yT ⟨hs,.inr (.inl ij)⟩]
    simp only [go_sem,ya,cR,ax,t3,t4,show (k:Int)<(t.length:Int) by omega,yJ,zF,wrapN (n:=k+1) (by omega),dK,dW,c7,c2,e3,y5,jS,U5 ij]
   ·by_cases nl:q=[49]
    ·rw [yT ⟨hs,.inr (.inr nl)⟩]
     simp only [go_sem,ya,cR,ax,t3,t4,show (k:Int)<(t.length:Int) by omega,yJ,zF,wrapN (n:=k+1) (by omega),dK,dW,c7,c2,e3,y5,jS,mE ij,U5 nl]
    ·rw [yE (by simp only [hs,ua,tJ,yaU];exact fun e=>e.elim ij nl)]
     by_cases AX:600<k
     ·rw [yT (.inl AX)]
      simp only [go_sem,ya,cR,ax,t3,t4,show (k:Int)<(t.length:Int) by omega,yJ,zF,wrapN (n:=k+1) (by omega),dK,dW,c7,c2,e3,y5,jS,mE ij,mE nl,show (600:Int)<(k:Int) by omega]
     ·by_cases aoc:600<t.length-k-1
      ·rw [yT (.inr aoc)]
       simp only [go_sem,ya,cR,ax,t3,t4,show (k:Int)<(t.length:Int) by omega,yJ,zF,wrapN (n:=k+1) (by omega),dK,dW,c7,c2,e3,y5,jS,mE ij,mE nl,show ¬(600:Int)<(k:Int) by omega,yG,show (t.length:Int)-(k:Int)=((t.length-k:Nat):Int) by omega,wrapN (n:=t.length-k) (by omega),show ((t.length-k:Nat):Int)-1=((t.length-k-1:Nat):Int) by omega,wrapN (n:=t.length-k-1) (by omega),show (600:Int)<((t.length-k-1:Nat):Int) by omega]
      ·rw [yE (by omega)];have nY:=Bz _ rfl hp;have mj:=Bz _ rfl hd;have fU:eI q≠0:=fun e=>ij (by rw [<-mj,e];rfl)
       have nd:eI q≠1:=fun e=>nl (by rw [<-mj,e];rfl)
       generalize eI p=n at*
       generalize eI q=d at*
       have hT:TT (n:Int) d=t:=by
        unfold TT;rw [jQ,yE nd,nY,mj];exact iK.symm
       obtain ⟨x,y,e4,hx,hy⟩:=XD h.toRb (n:=(n:Int)) (d:=d) (by rw [wP,nY];omega) (by rw [mj];omega);rw [hT] at e4;obtain ⟨xw,xl,rfl,fp,dx,nx,vx⟩:=hx;obtain ⟨yw,yl,rfl,fq,dy,ny,vy⟩:=hy;rw [wP] at vx vy;have mZ:n<10^p.length:=by rw [<-nY];exact EF n
       have hdb:d<10^q.length:=by rw [<-mj];exact EF d
       obtain ⟨K,hK⟩:∃K:Nat,K=600:=⟨_,rfl⟩;have KN:∀{m j:Nat},m<10^j->j<=K->m<1000000000^K:=fun {m j} h1 h2=>
        yR h1 (xi (xA (by decide) h2) (Nat.pow_le_pow_left (by decide) K))
       have lxl:=hJ dx nx (by rw [vx];exact KN mZ (by omega))
       have lyl:=hJ dy ny (by rw [vy];exact KN hdb (by omega))
       obtain ⟨g,lg,e5,hg,ZE,ngg,vg⟩:=We h.Xv h.Gj h.km h.lT h.mQ h.cC h.nN fp fq dx dy nx ny (by omega) (by omega);rw [vx,vy] at vg;have GI:0<we n d:=Nat.gcd_pos_of_pos_right _ (by omega);unfold ai at e4 e5;by_cases OP:lg.length=1
       ·obtain ⟨z,rfl⟩:∃z,lg=[z]:=by
         cases lg with
         | nil=>simp at OP
         | cons z r=>cases r with
          | nil=>exact ⟨z,rfl⟩
          | cons y r=>simp at OP
        have gz:=jx.1 ZE;have Hk:z=(we n d:Nat):=by simp [dv] at vg;omega
        have e8:=hg.bt (i:=0) (by simp);simp only [List.getElem_cons_zero] at e8;by_cases fS:we n d=1
        ·rw [yE (by simp [fS])]
         simp only [go_sem,ya,yc,cR,ax,t3,t4,show (k:Int)<(t.length:Int) by omega,yJ,zF,wrapN (n:=k+1) (by omega),dK,dW,c7,c2,e3,y5,jS,mE ij,mE nl,show ¬(600:Int)<(k:Int) by omega,yG,show (t.length:Int)-(k:Int)=((t.length-k:Nat):Int) by omega,wrapN (n:=t.length-k) (by omega),show ((t.length-k:Nat):Int)-1=((t.length-k-1:Nat):Int) by omega,wrapN (n:=t.length-k-1) (by omega),show ¬(600:Int)<((t.length-k-1:Nat):Int) by omega,e4,aZ,fp.pu,fp.ak,fp.one,fq.pu,fq.ak,fq.one,eQ,bL,yj,cB,e5,hg.len,hg.shut,yH,yM,show ((1:Nat):Int)=(1:Int) from rfl,y5,e8,Hk,fS]
        ·rw [yT ⟨hs,fS⟩]
         simp only [go_sem,ya,yc,cR,ax,t3,t4,show (k:Int)<(t.length:Int) by omega,yJ,zF,wrapN (n:=k+1) (by omega),dK,dW,c7,c2,e3,y5,jS,mE ij,mE nl,show ¬(600:Int)<(k:Int) by omega,yG,show (t.length:Int)-(k:Int)=((t.length-k:Nat):Int) by omega,wrapN (n:=t.length-k) (by omega),show ((t.length-k:Nat):Int)-1=((t.length-k-1:Nat):Int) by omega,wrapN (n:=t.length-k-1) (by omega),show ¬(600:Int)<((t.length-k-1:Nat):Int) by omega,e4,aZ,fp.pu,fp.ak,fp.one,fq.pu,fq.ak,fq.one,eQ,bL,yj,cB,e5,hg.len,hg.shut,yH,yM,show ((1:Nat):Int)=(1:Int) from rfl,y5,e8,Hk,show ¬((we n d:Nat):Int)=1 by omega,yY]
       ·have fS:we n d≠1:=fun e=>OP (by
         have h1:lg.length<=1:=Ur ZE ngg (by omega);have h2:0<lg.length:=by
          rcases Nat.eq_zero_or_pos lg.length with h0 | h0
          ·rw [yA h0] at vg;simp [dv] at vg;omega
          ·exact h0
         omega)
        rw [yT ⟨hs,fS⟩]
        simp only [go_sem,ya,yc,cR,ax,t3,t4,show (k:Int)<(t.length:Int) by omega,yJ,zF,wrapN (n:=k+1) (by omega),dK,dW,c7,c2,e3,y5,jS,mE ij,mE nl,show ¬(600:Int)<(k:Int) by omega,yG,show (t.length:Int)-(k:Int)=((t.length-k:Nat):Int) by omega,wrapN (n:=t.length-k) (by omega),show ((t.length-k:Nat):Int)-1=((t.length-k-1:Nat):Int) by omega,wrapN (n:=t.length-k-1) (by omega),show ¬(600:Int)<((t.length-k-1:Nat):Int) by omega,e4,aZ,fp.pu,fp.ak,fp.one,fq.pu,fq.ak,fq.one,eQ,bL,yj,cB,e5,hg.len,hg.shut,show ¬(lg.length:Int)=1 by omega,yY]
 ·have hkt:k=t.length:=by omega
  rw [yE (by omega)];by_cases AX:600<k
  ·rw [yT (.inl AX)];simp only [go_sem,ya,cR,ax,t3,t4,show ¬(k:Int)<(t.length:Int) by omega,yG,show (600:Int)<(k:Int) by omega,yJ]
  ·rw [yE (by omega),yE (by omega)]
   simp only [go_sem,ya,cR,ax,t3,t4,show ¬(k:Int)<(t.length:Int) by omega,yG,show ¬(600:Int)<(k:Int) by omega,show (t.length:Int)-(k:Int)=((t.length-k:Nat):Int) by omega,wrapN (n:=t.length-k) (by omega),show ((t.length-k:Nat):Int)-1= -1 by omega,show IntKind.wrap .i64 (-1)= -1 by rfl,show ¬(600:Int)<(-1:Int) by omega]
def U6 (h:Rm P L) {b:Nat} {r:List Nat} {t:List Nat} {neg:Bool} (gh:decide (((b:Nat):Int)=45)=neg) (hl:t.length<9223372036854775808) {tm:Env} (t0:ah tm 0= .str (b::r)) (t3:ah tm 3= .str t):
  fg [.t 2] (D P L (ax (ax (ax cR.body))) ⟨tm,[],0,0⟩)=some (aa (qH neg t)):=by
 obtain ⟨k,hk⟩:∃k,k=bE t:=⟨_,rfl⟩;have Qd:k<=t.length:=by rw [hk];exact Ek t
 have e1:=Cs h.sH (s:=t) (by omega);have e2:=Kd h.Kc h.CA (s:=t.take k) (by rw [yQ];omega);have e3:=Kd h.Kc h.CA (s:=t.drop (k+1)) (by rw [xJ];omega);unfold qH;rw [<-hk] at e1 ⊢;have c1:=TD Qd;have hI:kI 0 (.str (b::r))=some (.int .u8 (b:Nat)):=rfl;unfold ai at e1 e2 e3;generalize hp:t.take k=p at*
 generalize hq:t.drop (k+1)=q at*
 cases hd:dh p with
 | false=>
  rw [yT (.inl rfl)];rw [hd] at e2;simp only [go_sem,ya,cR,ax,t3,e1,dK,dW,c7,c1,e2,yY]
 | true=>
  rw [hd] at e2;by_cases hz:neg=true/\p=[48]
  ·rw [yT (.inr hz)];obtain ⟨z1,z2⟩:=hz;rw [z1] at gh;have hb:=of_decide_eq_true gh;subst z2;simp only [go_sem,ya,cR,ax,t0,t3,e1,dK,dW,c7,c1,e2,y5,hI,hb,yJ,jS,show bV [48] [48]=true from rfl]
  ·rw [yE (by simp only [tJ,yaU];exact hz)]
   have fin:∀bS,ah bS 3= .str t->ah bS 4=aa k->D P L (.seq (bn (ax (ax (ax cR.body)))) (bn (ax (ax (ax (ax cR.body)))))) ⟨tm,[],0,0⟩=some (.normal,⟨bS,[],0,0⟩)->fg [.t 2] (D P L (ax (ax (ax cR.body))) ⟨tm,[],0,0⟩)=some (aa (
     if k<t.length/\(dh q=false\/q=[48]\/q=[49]) then 1
     else if 600<k\/600<t.length-k-1 then 4
     else if k<t.length/\we (eI p) (eI q)≠1 then 1
     else 0)):=fun bS f3 f4 e=>by
    show fg [.t 2] (D P L (.seq (bn (ax (ax (ax cR.body)))) (.seq (bn (ax (ax (ax (ax cR.body))))) (ax (ax (ax (ax (ax cR.body))))))) ⟨tm,[],0,0⟩)=_
    rw [zO,e,fL,<-hp,<-hq];exact akE h hk hl (by rw [hp];exact hd) f3 f4
   by_cases hb:((b:Nat):Int)=45
   ·have aod:p≠[48]:=fun e=>hz ⟨by rw [<-gh];exact xo hb,e⟩
    refine fin _ ?_ ?_ (by simp only [go_sem,ya,cR,bn,ax,t0,t3,e1,dK,dW,c7,c1,e2,y5,hI,hb,yJ,jS,mE aod]<;>rfl)<;>simp only [go_sem,ya,t3]
   ·refine fin _ ?_ ?_ (by simp only [go_sem,ya,cR,bn,ax,t0,t3,e1,dK,dW,c7,c1,e2,y5,hI,hb,yG]<;>rfl)<;>simp only [go_sem,ya,t3]
def XF (h:Rm P L) {s:List Nat} (hl:s.length<9223372036854775808):ai P L 263 [.str s] (aa (cg s)):=by
 unfold ai;rw [aK h.an5]
 cases s with
 | nil=>
  have e1:=Cs h.sH (s:=[]) (by simp);have e2:=Kd h.Kc h.CA (s:=[]) (by simp);unfold ai at e1 e2;have hc:fP [] (some 0) (some 0)=some (.str []):=rfl;simp only [go_sem,ya,cR,yM,show ¬(0:Int)<((0:Nat):Int) by decide,yG,e1,bE,dK,dW,c7,hc,e2,show dh []=false from rfl,yY];rfl
 | cons b t=>
  have qV:t.length+1<9223372036854775808:=by simpa using hl
  have hI:kI 0 (.str (b::t))=some (.int .u8 (b:Nat)):=rfl;by_cases hb:b=45
  ·subst hb;have fin:∀bS,ah bS 0= .str (45::t)->ah bS 3= .str t->D P L (.seq (bn cR.body) (.seq (bn (ax cR.body)) (bn (ax (ax cR.body))))) ⟨[(0,.str (45::t))],[],0,0⟩=some (.normal,⟨bS,[],0,0⟩)->fg [.t 2] (D P L cR.body ⟨[(0,.str (45::t))],[],0,0⟩)=some (aa (cg (45::t))):=fun bS f0 f3 e=>by
    show fg [.t 2] (D P L (.seq (bn cR.body) (.seq (bn (ax cR.body)) (.seq (bn (ax (ax cR.body))) (ax (ax (ax cR.body)))))) ⟨[(0,.str (45::t))],[],0,0⟩)=_
    rw [SB,e,fL]
    exact U6 h (b:=45) rfl (by omega) f0 f3
   have hc:fP (45::t) (some 1) (some (t.length+1))=some (.str t):=by
    have:=Is (s:=45::t) (k:=1) (by simp)
    simpa using this
   refine fin _ ?_ ?_ (by simp only [go_sem,ya,cR,bn,ax,yH,show (0:Int)<((t.length+1:Nat):Int) by omega,yJ,AK,dK,dW,c7,hc]<;>rfl)<;>simp only [go_sem,ya]
  ·have fin:∀bS,ah bS 0= .str (b::t)->ah bS 3= .str (b::t)->D P L (.seq (bn cR.body) (.seq (bn (ax cR.body)) (bn (ax (ax cR.body))))) ⟨[(0,.str (b::t))],[],0,0⟩=some (.normal,⟨bS,[],0,0⟩)->fg [.t 2] (D P L cR.body ⟨[(0,.str (b::t))],[],0,0⟩)=some (aa (cg (b::t))):=fun bS f0 f3 e=>by
    show fg [.t 2] (D P L (.seq (bn cR.body) (.seq (bn (ax cR.body)) (.seq (bn (ax (ax cR.body))) (ax (ax (ax cR.body)))))) ⟨[(0,.str (b::t))],[],0,0⟩)=_
    rw [SB,e,fL]
    have:=U6 h (b:=b) (neg:=false) (xb (by omega)) (by simpa using hl) f0 f3
    rw [this];simp only [cg,yE hb]
   refine fin _ ?_ ?_ (by simp only [go_sem,ya,cR,bn,ax,yH,show (0:Int)<((t.length+1:Nat):Int) by omega,yJ,hI,show ¬((b:Nat):Int)=45 by omega]<;>rfl)<;>simp only [go_sem,ya]
end
def ik (v:AV) (l:List (List Nat)):Prop:=cE v (l.map AV.str)
section
variable {v:AV} {l:List (List Nat)}
def ik.len (h:ik v l) {hp:Hp}:gF hp 1 v=some (.int .i64 (l.length:Nat)):=by
 have:=cE.len (hp:=hp) h
 grind
def ik.pu (h:ik v l):aX v=true:=cE.pu h
def ik.ak (h:ik v l) (n:Nat) {hp:Hp}:freeze (n+1) hp v=some (v,hp):=cE.ak h n
def ik.bG (h:ik v l):VE.bG v=v:=cE.bG h
def ik.bt (h:ik v l) {i:Nat} (hi:i<l.length):iv 1 i v=some (.bR (.str l[i]::(l.map AV.str).drop (i+1))):=by
 have:=cE.bt h (i:=i) (by simpa using hi)
 grind
def Uu (e:Bool) (l:List (List Nat)):ik (.aq e l.length (l.map AV.str)) l:=by
 have:=MC e (l.map AV.str)
 rwa [xc] at this
end
section
variable {P:aR} {L:Lib}
def ahx (h:Rm P L) {a:Rat} {K:Nat} (ka:Hq K a) (hK:K<=4000000000):bA P L (D P L) 284 [.str (RT a)]=some (.str (aS a.num))/\bA P L (D P L) 285 [.str (aS a.num)]=some (.str (aw a.num.natAbs))/\bA P L (D P L) 286 [.str (RT a)]=some (.str (aw a.den)):=by
 have hl:=Fe ka;have e0:=Cs h.sH (s:=RT a) (by omega);have jL:bE (RT a)=(aS a.num).length/\(RT a).take (aS a.num).length=aS a.num:=by
  unfold RT;by_cases hd:a.den=1
  ·rw [yT hd,wD]
   have:=HA a.num []
   rw [wD] at this;exact ⟨by rw [this];simp [bE],xy⟩
  ·rw [yE hd];exact ⟨by rw [HA];simp [bE],List.take_left⟩
 obtain ⟨dE,pg⟩:=jL;rw [dE] at e0;have hlen:(aS a.num).length<=(RT a).length:=by unfold RT;simp
 have e1:bA P L (D P L) 284 [.str (RT a)]=some (.str (aS a.num)):=by
  rw [aK h.an6]
  have:=TD (s:=RT a) hlen
  simp only [go_sem,ya,N5,e0,dK,dW,c7,this,pg]
 have hT:aS a.num=TT a.num 1:=by unfold TT;simp
 have e2:bA P L (D P L) 285 [.str (aS a.num)]=some (.str (aw a.num.natAbs)):=by
  have e:=Wj h (n:=a.num) (d:=1) (by rw [<-hT];omega) (fun _=>rfl);rw [<-hT] at e;rw [aK h.an7];by_cases h0:a.num<0
  ·have es:cF a.num= -1:=by unfold cF;rw [yT h0]
   rw [es] at e;rw [lm h0] at e ⊢;have hc:=Is (s:=45::aw a.num.natAbs) (k:=1) (by simp);simp only [List.drop_succ_cons,yy,yH] at hc;simp only [go_sem,ya,JN,e,show (-1:Int)<0 by decide,dK,dW,c7,hc]
  ·have es:¬cF a.num<0:=by unfold cF;rw [yE h0];split<;>decide
   have hi:aS a.num=aw a.num.natAbs:=by
    obtain ⟨m,hm⟩:∃m:Nat,a.num=m:=⟨a.num.toNat,by omega⟩;rw [hm,jQ,wP]
   simp only [go_sem,ya,JN,e,es];rw [hi]
 have e3:bA P L (D P L) 286 [.str (RT a)]=some (.str (aw a.den)):=by
  rw [aK h.an8];by_cases hd:a.den=1
  ·have hR:(RT a).length=(aS a.num).length:=by unfold RT;rw [yT hd];simp
   rw [hd,show aw 1=[49] by decide];simp only [go_sem,ya,JO,e0,show ((aS a.num).length:Int)=((RT a).length:Int) by omega,yJ]
  ·have hR:RT a=(aS a.num++[47])++aw a.den:=by unfold RT;rw [yE hd];simp
   have hRl:(RT a).length=(aS a.num).length+1+(aw a.den).length:=by rw [hR];simp;omega
   have hc:=Is (s:=RT a) (k:=(aS a.num).length+1) (by omega);have gS:(RT a).drop ((aS a.num).length+1)=aw a.den:=by
    rw [hR,show (aS a.num).length+1=(aS a.num++[47]).length by simp,tv]
   rw [gS] at hc
   simp only [go_sem,ya,JO,e0,show ¬((aS a.num).length:Int)=((RT a).length:Int) by omega,show ((aS a.num).length:Int)+1=(((aS a.num).length+1:Nat):Int) from rfl,wrapN (n:=(aS a.num).length+1) (by omega),dK,dW,c7,hc]
 exact ⟨e1,e2,e3⟩
def al9 (h:Rl P L) {a:Rat} {K:Nat} (ka:Hq K a) (hK:K<=4000000000):ai P L 269 [.str (RT a)] (aa (if LG a=true then 4 else 0)):=by
 obtain ⟨e1,e2,e3⟩:=ahx h.toRm ka hK;unfold ai;rw [aK h.an9];unfold LG LN;rw [wP];by_cases h1:600<(aw a.num.natAbs).length
 ·rw [xo h1,uN,yT rfl];simp only [go_sem,ya,FO,e1,e2,show (600:Int)<((aw a.num.natAbs).length:Int) by omega,yJ]
 ·by_cases h2:600<(aw a.den).length
  ·rw [xo h2,Bool.or_true,yT rfl];simp only [go_sem,ya,FO,e1,e2,show ¬(600:Int)<((aw a.num.natAbs).length:Int) by omega,yG,e3,show (600:Int)<((aw a.den).length:Int) by omega]
  ·rw [xb h1,xb h2,Bool.or_self,yE (by decide)];simp only [go_sem,ya,FO,e1,e2,show ¬(600:Int)<((aw a.num.natAbs).length:Int) by omega,yG,e3,show ¬(600:Int)<((aw a.den).length:Int) by omega]
end
section
open Go (IntKind)
open Classical in
noncomputable def gJ (s:List Nat):Rat:=if h:cg s=0 then Classical.choose (akp h) else 0
def BD {s:List Nat} (h:cg s=0):s=RT (gJ s)/\(aw (gJ s).num.natAbs).length<=600/\(aw (gJ s).den).length<=600:=by
 unfold gJ
 grind
def SC {z:Int} {k M:Nat} (h:(aw z.natAbs).length<=k) (hM:4*k<=M):Bd M z:=by
 have h1:=EF z.natAbs;have h2:=EG (aw z.natAbs).length;have h3:(2:Nat)^(4*(aw z.natAbs).length)<=2^M:=xA (by decide) (by omega);exact yR h1 (xi h2 h3)
def nE {s:List Nat} (h:cg s=0) {M:Nat} (hM:2400<=M):Hq M (gJ s):=by
 obtain ⟨_,h1,h2⟩:=BD h
 exact ⟨SC h1 (by omega),SC (z:=((gJ s).den:Int)) (by rw [wP];exact h2) (by omega)⟩
noncomputable def XG (s:List Nat) (least:Int):Int:=if cg s=0 then (if cF (gJ s).num<least then 3 else 0) else cg s
instance (k:Nat) (z:Int):Decidable (Bd k z):=inferInstanceAs (Decidable (z.natAbs<2^k))
end
def akF (hs h:Rat):Bool:=decide (hs=0)||decide (h<hs)
section
variable {s1 s2 s3 s4:Int} {w1 w2 w3 w4:AV} {l1 l2 l3 l4:List Nat}
def Uv {tm:Env} {a b c d x y z w:AV} {x' y' z' w':AV} {r:List (Nat×Nat×X)} (h1:cw a=true) (h2:cw b=true) (h3:cw c=true) (h4:cw d=true):mK tm [x',y',z',w',x,y,z,w] 0 4 [a,b,c,d] r=fill tm [a,b,c,d,x,y,z,w] r:=by
 rw [EE (by rfl) (by simp) (by simp [cd,h1,h2,h3,h4])];rfl
def Uw {tm:Env} {a b c d x y z w:AV} {x' y' z' w':AV} {r:List (Nat×Nat×X)} (h1:cw a=true) (h2:cw b=true) (h3:cw c=true) (h4:cw d=true):mK tm [x,y,z,w,x',y',z',w'] 4 4 [a,b,c,d] r=fill tm [x,y,z,w,a,b,c,d] r:=by
 rw [EE (by rfl) (by simp) (by simp [cd,h1,h2,h3,h4])];rfl
def Na (a b c d:AV) (r:List AV):fQ 4 true (a::b::c::d::r)=some (.agg [a,b,c,d]):=rfl
end
section
variable {P:aR} {L:Lib}
def adk (a:List Nat):bV a a=true:=IP rfl
end
structure F4 (c1 c2 c3 c4:AV):Prop where
 ak:∀(n:Nat) (hp:Hp),freeze (n+20) hp (.agg [c1,c2,c3,c4])=some (.agg [c1,c2,c3,c4],hp)
 eT:∀hp:Hp,result hp (.agg [c1,c2,c3,c4])=some (.agg [c1,c2,c3,c4])
 st:∀(hp:Hp) (ct id:Nat) (a b c d:AV),ie hp ct id 0 4 [c1,c2,c3,c4] (some (.cells true true true 4 [a,b,c,d]))=some (.av [],a6 hp id (.cells true true true 4 [c1,c2,c3,c4]),ct)
 bx:∀ct:Nat,Cr ct 4 [c1,c2,c3,c4]=some (.ptr ct 0,.cells true true true 4 [c1,c2,c3,c4])
 o1:cw c1=true
 o2:cw c2=true
 o3:cw c3=true
 o4:cw c4=true
 pu:aX (.agg [c1,c2,c3,c4])=true
 z1:∀(n:Nat) (hp:Hp),freeze (n+1) hp c1=some (c1,hp)
 z2:∀(n:Nat) (hp:Hp),freeze (n+1) hp c2=some (c2,hp)
 z3:∀(n:Nat) (hp:Hp),freeze (n+1) hp c3=some (c3,hp)
 z4:∀(n:Nat) (hp:Hp),freeze (n+1) hp c4=some (c4,hp)
def ez.gen {v:AV} {a:Rat} (h:ez v a):∃c1 c2 c3 c4,v= .agg [c1,c2,c3,c4]/\F4 c1 c2 c3 c4:=by
 obtain ⟨s1,w1,s2,w2,rfl,h1,h2⟩:=h;obtain ⟨l1,u1⟩:=h1.aU;obtain ⟨l2,u2⟩:=h2.aU;refine ⟨_,_,_,_,rfl,fun n hp=>?_,lL u1 u2,fun hp ct id a b c d=>lK u1 u2 hp ct id a b c d,fun ct=>by simp only [go_sem,yc,aZ,u1.pu,u1.one,u2.pu,u2.one],rfl,u1.one,rfl,u2.one,by simp [aX,aC,u1.pu,u2.pu],fun _ _=>rfl,fun n _=>u1.ak n,fun _ _=>rfl,fun n _=>u2.ak n⟩;exact bY _ _ (by simp only [go_sem,u1.ak,u2.ak])
def ahy {a b:Int}:bW [a,b]=0↔a=0/\b=0:=by
 simp only [bW]
 grind
def QL:List AV->List Rat->Prop
 | [],[]=>True
 | a::b::c::d::r,x::l=>ez (.agg [a,b,c,d]) x/\QL r l
 | _,_=>False
def QL.inv {cs:List AV} {x:Rat} {l:List Rat} (h:QL cs (x::l)):∃a b c d r,cs=a::b::c::d::r/\ez (.agg [a,b,c,d]) x/\QL r l:=by
 match cs,h with
 | a::b::c::d::r,h=>exact ⟨a,b,c,d,r,rfl,h.1,h.2⟩
def QL.XH {cs:List AV} (h:QL cs []):cs=[]:=by
 match cs,h with
 | [],_=>rfl
 | [_],h=>exact h.elim
 | [_,_],h=>exact h.elim
 | [_,_,_],h=>exact h.elim
 | _::_::_::_::_,h=>exact h.elim
def QL.len:∀{l:List Rat} {cs:List AV},QL cs l->cs.length=l.length*4
 | [],_,h=>by rw [h.XH];rfl
 | x::l,cs,h=>by
  obtain ⟨a,b,c,d,r,rfl,_,h2⟩:=h.inv
  have:=h2.len
  grind
def F4.Qn {c1 c2 c3 c4:AV} (g:F4 c1 c2 c3 c4):aX c1=true/\aX c2=true/\aX c3=true/\aX c4=true:=by
 have:=g.pu
 simpa only [aX,aC,uW,yf] using this
def ez.f4 {a b c d:AV} {x:Rat} (h:ez (.agg [a,b,c,d]) x):F4 a b c d:=by
 obtain ⟨_,_,_,_,e,g⟩:=h.gen
 grind
def QL.cD:∀{l m:List Rat} {cs ds:List AV},QL cs l->QL ds m->QL (cs++ds) (l++m)
 | [],m,cs,ds,h,k=>by rw [h.XH];exact k
 | x::l,m,cs,ds,h,k=>by
  obtain ⟨a,b,c,d,r,rfl,h1,h2⟩:=h.inv;exact ⟨h1,h2.cD k⟩
def QL.snoc {l:List Rat} {x:Rat} {cs:List AV} {a b c d:AV} (h:QL cs l) (k:ez (.agg [a,b,c,d]) x):QL (cs++[a,b,c,d]) (l++[x]):=h.cD ⟨k,trivial⟩
def QL.get:∀{l:List Rat} {cs:List AV} {i:Nat},QL cs l->∀(hi:i<l.length),∃a b c d r,cs.drop (i*4)=a::b::c::d::r/\ez (.agg [a,b,c,d]) l[i]
 | [],_,i,_,hi=>absurd hi (yak i)
 | x::l,cs,0,h,hi=>by
  obtain ⟨a,b,c,d,r,rfl,h1,_⟩:=h.inv
  grind
 | x::l,cs,i+1,h,hi=>by
  obtain ⟨a,b,c,d,r,rfl,_,h2⟩:=h.inv;obtain ⟨a',b',c',d',r',e,k⟩:=h2.get (i:=i) (by simpa using hi)
  grind
def ko (v:AV) (l:List Rat):Prop:=(v= .af/\l=[])\/∃e cs,v= .aq e l.length cs/\QL cs l
section
variable {v:AV} {l:List Rat} {hp:Hp}
def ko.len (h:ko v l) {hp:Hp}:gF hp 1 v=some (.int .i64 (l.length:Nat)):=by
 rcases h with ⟨rfl,rfl⟩ | ⟨e,cs,rfl,h⟩<;>rfl
def ko.pu (h:ko v l):aX v=true:=by
 rcases h with ⟨rfl,rfl⟩ | ⟨e,cs,rfl,h⟩<;>rfl
def ko.ak (h:ko v l) (n:Nat) {hp:Hp}:freeze (n+1) hp v=some (v,hp):=by
 rcases h with ⟨rfl,rfl⟩ | ⟨e,cs,rfl,h⟩<;>rfl
def ko.bt (h:ko v l) {i:Nat} (hi:i<l.length):∃a b c d r,iv 4 i v=some (.bR (a::b::c::d::r))/\ez (.agg [a,b,c,d]) l[i]:=by
 rcases h with ⟨rfl,rfl⟩ | ⟨e,cs,rfl,h⟩
 ·grind
 ·obtain ⟨a,b,c,d,r,e1,e2⟩:=h.get hi;refine ⟨a,b,c,d,r,?_,e2⟩;rw [IG e _ hi,e1]
def adl:ko .af []:= .inl ⟨rfl,rfl⟩
def afq {cs:List AV} (e:Bool) (h:QL cs l):ko (.aq e l.length cs) l:= .inr ⟨e,cs,rfl,h⟩
end
def akG {tm:Env} {a b c d x0 x1 x2 x3:AV} {r:List (Nat×Nat×X)} (h1:cw a=true) (h2:cw b=true) (h3:cw c=true) (h4:cw d=true):mK tm [x0,x1,x2,x3] 0 4 [a,b,c,d] r=fill tm [a,b,c,d] r:=by
 rw [EE (by rfl) (by simp) (by simp [cd,h1,h2,h3,h4])];rfl
def NF (ef pu ex:Bool) (a b c d:AV):CU 0 1 4 (some (.cells ef pu ex 4 [a,b,c,d]))=some (1,[a,b,c,d]):=rfl
def OQ (hp:Hp) (cs:List AV):eM hp 4 true (.bR cs)=fQ 4 true cs:=rfl
def lyT (w:AV) (hh sc st ox oy wx wy:List Nat):AV:= .agg [w,.str hh,.str sc,.str st,.str ox,.str oy,.str wx,.str wy]
noncomputable def aoe (s:List (List Int)) (hh sc st ox oy wx wy:List Nat):Int:=bW [acd s,XG hh 0,XG sc 1,cg st,bW [cg ox,cg oy],bW [cg wx,cg wy]]
def D7 {a:Int} {l:List Int}:bW (a::l)=0↔a=0/\bW l=0:=by
 simp only [bW]
 grind
def HQ:bW []=0:=rfl
def kA (k:Nat) (v:AV) (ps:List (List AV)):Prop:=((v= .af/\ps=[])\/∃e,v= .aq e ps.length ps.flatten)/\∀p,p∈ps->p.length=k
section
variable {k:Nat} {v:AV} {ps:List (List AV)} {hp:Hp}
def kA.len (h:kA k v ps) {hp:Hp}:gF hp 1 v=some (.int .i64 (ps.length:Nat)):=by
 rcases h.1 with ⟨rfl,rfl⟩ | ⟨e,rfl⟩<;>rfl
def kA.pu (h:kA k v ps):aX v=true:=by
 rcases h.1 with ⟨rfl,rfl⟩ | ⟨e,rfl⟩<;>rfl
def kA.ak (h:kA k v ps) (n:Nat) {hp:Hp}:freeze (n+1) hp v=some (v,hp):=by
 rcases h.1 with ⟨rfl,rfl⟩ | ⟨e,rfl⟩<;>rfl
def LW:∀{ps:List (List AV)},(∀p,p∈ps->p.length=k)->ps.flatten.length=ps.length*k
 | [],_=>by simp
 | p::ps,h=>by
  have:=LW (ps:=ps) (fun q hq=>h q (wK _ hq))
  grind
def SD:∀{ps:List (List AV)} {i:Nat},(∀p,p∈ps->p.length=k)->∀(hi:i<ps.length),∃rest,ps.flatten.drop (i*k)=ps[i]++rest
 | [],i,_,hi=>absurd hi (yak i)
 | p::ps,0,h,_=>⟨ps.flatten,by simp⟩
 | p::ps,i+1,h,hi=>by
  obtain ⟨rest,e⟩:=SD (ps:=ps) (i:=i) (fun q hq=>h q (wK _ hq)) (by simpa using hi);refine ⟨rest,?_⟩;rw [show (i+1)*k=p.length+i*k by rw [h p List.mem_cons_self,Nat.add_mul];omega,wk,<-List.drop_drop,tv,e];rfl
def kA.bt (h:kA k v ps) {i:Nat} (hi:i<ps.length):∃rest,iv k i v=some (.bR (ps[i]++rest)):=by
 obtain ⟨rest,e⟩:=SD h.2 hi;refine ⟨rest,?_⟩;rcases h.1 with ⟨rfl,rfl⟩ | ⟨b,rfl⟩
 ·grind
 ·rw [IG b _ hi,e]
def afr:kA k .af []:=⟨.inl ⟨rfl,rfl⟩,fun _ h=>by cases h⟩
def Ux (e:Bool) (h:∀p,p∈ps->p.length=k):kA k (.aq e ps.length ps.flatten) ps:=⟨.inr ⟨e,rfl⟩,h⟩
end
abbrev cO:=List Nat×List Nat
def dY (p:cO):List AV:=[.str p.1,.str p.2]
def eL (v:AV) (l:List cO):Prop:=kA 2 v (l.map dY)
structure Lay where
 w:AV
 s:List (List Int)
 hh:List Nat
 sc:List Nat
 st:List Nat
 ox:List Nat
 oy:List Nat
 wx:List Nat
 wy:List Nat
def Lay.cs (a:Lay):List AV:=[a.w,.str a.hh,.str a.sc,.str a.st,.str a.ox,.str a.oy,.str a.wx,.str a.wy]
def Lay.T (a:Lay):AV:=lyT a.w a.hh a.sc a.st a.ox a.oy a.wx a.wy
noncomputable def Lay.E (a:Lay):Int:=aoe a.s a.hh a.sc a.st a.ox a.oy a.wx a.wy
section
variable {v:AV} {hp:Hp}
def eL.len {l:List cO} (h:eL v l) {hp:Hp}:gF hp 1 v=some (.int .i64 (l.length:Nat)):=by
 have:=kA.len (hp:=hp) h;rwa [xc] at this
def eL.pu {l:List cO} (h:eL v l):aX v=true:=kA.pu h
def eL.ak {l:List cO} (h:eL v l) (n:Nat) {hp:Hp}:freeze (n+1) hp v=some (v,hp):=kA.ak h n
def eL.bt {l:List cO} (h:eL v l) {i:Nat} (hi:i<l.length):∃rest,iv 2 i v=some (.bR (.str l[i].1:: .str l[i].2::rest)):=by
 obtain ⟨rest,e⟩:=kA.bt h (i:=i) (by simpa using hi);refine ⟨rest,?_⟩;rw [e,yaa];rfl
end
def CB (hp:Hp) (a b:AV) (r:List AV):eM hp 2 true (.bR (a::b::r))=some (.agg [a,b]):=rfl
def take_set {α:Type} {l:List α} {i:Nat} {a:α} (h:i<l.length):(l.set i a).take (i+1)=l.take i++[a]:=by
 rw [xB (by simpa using h),List.getElem_set_self,List.take_set_of_le (yv i)]
def Zn {hp:Hp} {ct id o:Nat} {v:List Nat} {ex:Bool} {l:List (List Nat)} (h:o<l.length):ie hp ct id o 1 [.str v] (some (.cells true true ex 1 (l.map .str)))=some (.av [],a6 hp id (.cells true true ex 1 ((l.set o v).map .str)),ct):=by
 rw [B6 (by rfl) (by simp;omega) (by rfl)]
 have:over o [.str v] (l.map .str)=(l.set o v).map .str:=by
  simp only [over,yH,yM,yj];rw [List.map_set,List.set_eq_take_append_cons_drop,yT (by simpa using h)]
  simp
 rw [this];rfl
def aof (ct:Nat) {n:Nat} (h:n<=10000000000):qw ct 1 16 [.str []] (some n) (some n)=some (.ay ct 0 n,.cells true true true 1 ((yC n []).map .str)):=by
 rw [E8 (sz:=1) (by omega) (by omega) (by rfl) (by rfl)]
 have:∀n,(yC n [AV.str []]).flatten=(yC n []).map .str:=fun n=>by
  induction n with
  | zero=>rfl
  | succ n ih=>rw [wO,wk,ih,wO,yW];rfl
 rw [this];rfl
def ahz (l:List (List Nat)):ik (.aq true l.length (l.map .str)) l:=Uu true l
section
variable {P:aR} {L:Lib}
def aog (h:Has P L 160 Cl) {v:AV} {l:List Rat} (hv:ko v l) (hl:l.length<=1000000) {g:Nat} {p:Rat->Bool} (hg:∀w x,x∈l->ez w x->ai P L g [w] (.bool (p x))):∃n:Int,ai P L 160 [v,.fn (.f g) [] []] (aa n)/\decide (0<=n)=l.any p:=by
 have key:=gW (P:=P) (L:=L) (live:=[0,1,7,8]) (a:=BR)
  (I:=fun k s=>∃i:Nat,i+k=l.length/\(l.drop i).any p=l.any p/\s=⟨[(0,v),(1,.fn (.f g) [] []),(7,aa l.length),(8,aa i)],[],0,0⟩)
  (Q:=fun ex s=>∃tm hp ct,s=⟨tm,hp,ct,0⟩/\((∃n:Int,ex= .ret/\ah tm 4=aa n/\0<=n/\l.any p=true)\/(ex= .exit 0/\l.any p=false))) ?_
 ·unfold ai;rw [aK h];simp only [go_sem,ya,Cl,hv.len];generalize hq:D P L (.loop [0,1,7,8] BR) _=q;obtain ⟨ex,s,rfl,tm,hp,ct,rfl,h2⟩:=bP hq (key l.length) ⟨0,by omega,rfl,by simp only [go_sem,ya,aA,aB hv.pu,aE _ hv.pu]<;>rfl⟩
  rcases h2 with ⟨n,rfl,h2,h3,h4⟩ | ⟨rfl,h2⟩
  ·exact ⟨n,by simp only [go_sem,h2]<;>rfl,by rw [h4];simpa using h3⟩
  ·exact ⟨-1,by simp only [go_sem,aA]<;>rfl,by rw [h2];decide⟩
 ·rintro k s ⟨i,hk,hf,rfl⟩;by_cases hi:i<l.length
  ·have dJ:(i:Int)<l.length:=by omega
   obtain ⟨a,b,c,d,r,e1,hx⟩:=hv.bt hi;have e2:=hg _ _ (xW hi) hx;have gx:=hx.f4;rw [ae0 hi] at hf
   cases fF:p l[i] with
   | false=>
    left
    rw [fF] at e2;simp only [go_sem,ya,BR,dJ,e1,OQ,Na,gx.ak,e2];rw [fF,vR] at hf;refine ⟨_,k-1,rfl,by omega,i+1,by omega,hf,?_⟩;rw [wrap64 (by omega) (by omega)];simp only [go_sem,ya,aA,aB hv.pu,aE _ hv.pu]<;>rfl
   | true=>
    right
    rw [fF] at e2;simp only [go_sem,ya,BR,dJ,e1,OQ,Na,gx.ak,e2];refine ⟨_,_,rfl,by simp,_,_,_,rfl,.inl ⟨i,rfl,?_,by omega,?_⟩⟩
    ·simp only [go_sem]
    ·rw [<-hf,fF,uN]
  ·right
   simp only [go_sem,ya,BR,show ¬(i:Int)<l.length by omega];refine ⟨_,_,rfl,by simp,_,_,_,rfl,.inr ⟨rfl,?_⟩⟩;rw [<-hf,xa (by omega)];rfl
def aoh (h:Has P L 122 FE) (Gk:Has P L 160 Cl) {v:AV} {l:List Rat} (hv:ko v l) (hl:l.length<=1000000) {g:Nat} {p:Rat->Bool} (hg:∀w x,x∈l->ez w x->ai P L g [w] (.bool (p x))):ai P L 122 [v,.fn (.f g) [] []] (.bool (l.any p)):=by
 obtain ⟨n,e1,e2⟩:=aog Gk hv hl hg;unfold ai at e1 ⊢;rw [aK h];simp only [go_sem,ya,FE,hv.ak,e1,e2]
def aoi (h:Has P L 123 FF) (hT:Tx P L) {v:AV} {l:List Rat} {K:Nat} (hv:ko v l) (hl:l.length<=1000000) (hk:∀x,x∈l->Hq K x) (hK:K<=4000000000):∃r,ai P L 123 [v] r/\ik (shut r) (l.map RT):=by
 have key:=gW (P:=P) (L:=L) (live:=[3,9,10,11]) (a:=EQ)
  (I:=fun k st=>∃(i:Nat) (out:List (List Nat)),i+k=l.length/\out.length=l.length/\out.take i=(l.take i).map RT/\st=⟨[(3,.ay 0 0 l.length),(9,v),(10,aa l.length),(11,aa i)],[(0,.cells true true true 1 (out.map .str))],1,0⟩)
  (Q:=fun ex st=>∃tm hp ct,st=⟨tm,hp,ct,0⟩/\ex= .exit 0/\ah tm 3= .ay 0 0 l.length/\ap hp 0=some (.cells true true true 1 ((l.map RT).map .str))) ?_
 ·unfold ai;rw [aK h];simp only [go_sem,ya,yc,FF,hv.len,Sp (show (0:Int)<=l.length by omega),wm,aof 0 (show l.length<=10000000000 by omega)];generalize hq:D P L (.loop [3,9,10,11] EQ) _=q;obtain ⟨ex,st,rfl,tm,hp,ct,rfl,rfl,t3,g0⟩:=bP hq (key l.length) ⟨0,yC l.length [],by omega,by simp,by simp,by simp only [go_sem,ya,yc,aA,aB hv.pu,aE _ hv.pu]<;>rfl⟩
  refine ⟨.cx true 1 l.length ((l.map RT).map .str),?_,?_⟩
  ·simp only [go_sem,yc,aA,t3,g0];exact Lw (zM _ _ _) (by simp) (by decide)
  ·have:=ahz (l.map RT)
   rwa [xc] at this
 ·rintro k st ⟨i,out,oT,hlen,Ce,rfl⟩;by_cases hi:i<l.length
  ·left
   obtain ⟨a,b,c,d,r,e1,hx⟩:=hv.bt hi;have e2:=m46 hT hx (hk _ (xW hi)) hK;have gx:=hx.f4;unfold ai at e2
   simp only [go_sem,ya,yc,yo,EQ,show (i:Int)<l.length by omega,e1,OQ,aZ,gx.st,Na,gx.ak,yy,e2,Sp (show (0:Int)<=i by omega),wm,cK 0 0 hi,yj,Zn (l:=out) (o:=i) (by omega)];refine ⟨_,k-1,rfl,by omega,i+1,out.set i (RT l[i]),by omega,by simpa using hlen,?_,?_⟩
   ·rw [take_set (by omega),Ce,xB hi,xx];rfl
   ·rw [wrap64 (by omega) (by omega)];simp only [go_sem,ya,yc,aA,aB hv.pu,aE _ hv.pu]<;>rfl
  ·right
   have:i=l.length:=by omega
   subst this;rw [yD (by omega),yD (yv _)] at Ce;subst Ce;simp only [go_sem,ya,EQ,show ¬(l.length:Int)<l.length by omega];exact ⟨_,_,rfl,by simp,_,_,_,rfl,rfl,by simp only [go_sem,ya],by simp only [go_sem]⟩
noncomputable def px (p:cO):Int:=bW [cg p.1,cg p.2]
end
noncomputable def Lay.low (sh:List Nat) (a:Lay):Bool:=akF (gJ sh) (gJ a.hh)
def RJ {α:Type} {f:α->Int}:∀{l:List α},bW (l.map f)=0->∀a,a∈l->f a=0
 | [],_,_,h=>by cases h
 | x::l,h,a,ha=>by
  rw [yW,D7] at h;rcases wc.1 ha with rfl | ha
  ·grind
  ·exact RJ h.2 a ha
section
variable {P:aR} {L:Lib}
def XI (h:Has P L 677 Co) {v:AV} {l:List Int} (hv:bg v l) (hl:l.length<=1000000):ai P L 677 [v] (aa (bW l)):=by
 unfold ai;rw [aK h];simp only [go_sem,ya,Co,hv.len];have key:=Il (P:=P) (L:=L) (live:=[5,6,7]) (a:=IX)
  (I:=fun k s=>∃tm ct i,s=⟨tm,[],ct,0⟩/\ah tm 5=v/\ah tm 6=aa l.length/\ah tm 7=aa (i:Nat)/\i+k=l.length/\bW (l.drop i)=bW l)
  (Q:=fun ex s=>∃tm,s=⟨tm,[],0,0⟩/\((ex= .ret/\ah tm 2=aa (bW l))\/(ex= .exit 0/\bW l=0))) ?_ l.length
 ·generalize hq:D P L (.loop [5,6,7] IX) _=q;obtain ⟨ex,s,rfl,tm,rfl,h2⟩:=bP hq key ⟨_,_,0,rfl,rfl,rfl,rfl,by omega,rfl⟩;rcases h2 with ⟨rfl,h2⟩ | ⟨rfl,h2⟩
  ·simp only [go_sem,h2]
  ·rw [h2];simp only [go_sem]
 ·rintro k s ⟨tm,ct,i,rfl,h5,h6,h7,hk,hf⟩;rw [Lb (by simp only [go_sem,h5,h6,h7,hv.pu])];simp only [go_sem,ya,h5,h6,h7,IX];by_cases hi:i<l.length
  ·have dJ:(i:Int)<l.length:=by omega
   rw [Lj hi] at hf;by_cases hz:l[i]=0
   ·left
    simp only [go_sem,ya,dJ,hv.bt hi,hz];refine ⟨_,k-1,rfl,by omega,_,_,i+1,rfl,?_⟩;rw [wrap64 (by omega) (by omega)];rw [yT hz] at hf;simp only [go_sem,ya];exact ⟨trivial,trivial,rfl,by omega,hf⟩
   ·right
    simp only [go_sem,ya,dJ,hv.bt hi,hz];rw [yE hz] at hf;refine ⟨_,_,rfl,by simp,_,rfl,.inl ⟨rfl,?_⟩⟩;simp only [go_sem,hf]
  ·right
   have dJ:¬(i:Int)<l.length:=by omega
   simp only [go_sem,dJ];refine ⟨_,_,rfl,by simp,_,rfl,.inr ⟨rfl,?_⟩⟩;rw [<-hf,xa (by omega)];rfl
def aoj (h:Has P L 692 FY) (b:Bool) (n:Int):ai P L 692 [.bool b,aa n] (aa (if b=true then n else 0)):=by
 unfold ai;rw [aK h]
 cases b with
 | true=>simp only [go_sem,ya,FY,xm]
 | false=>simp only [go_sem,ya,FY];rfl
def XJ (h:Has P L 647 FW) {v:AV} {l:List Int} (hv:bg v l) (hl:l.length<=1000000):ai P L 647 [v] (aa (bW l)):=by
 unfold ai;rw [aK h];simp only [go_sem,FW];have key:=Il (P:=P) (L:=L) (live:=[0,3]) (a:=IW)
  (I:=fun k s=>∃tm ct i,s=⟨tm,[],ct,0⟩/\ah tm 0=v/\ah tm 3=aa (i:Nat)/\i+k=l.length/\bW (l.drop i)=bW l)
  (Q:=fun ex s=>∃tm,s=⟨tm,[],0,0⟩/\((ex= .ret/\ah tm 2=aa (bW l))\/(ex= .exit 0/\bW l=0))) ?_ l.length
 ·generalize hq:D P L (.loop [0,3] IW) _=q;obtain ⟨ex,s,rfl,tm,rfl,h2⟩:=bP hq key ⟨_,_,0,rfl,rfl,rfl,by omega,rfl⟩;rcases h2 with ⟨rfl,h2⟩ | ⟨rfl,h2⟩
  ·simp only [go_sem,h2]
  ·rw [h2];simp only [go_sem]
 ·rintro k s ⟨tm,ct,i,rfl,h0,h3,hk,hf⟩;rw [Lb (by simp only [go_sem,h0,h3,hv.pu])];simp only [go_sem,ya,h0,h3,IW,hv.len];by_cases hi:i<l.length
  ·have dJ:(i:Int)<l.length:=by omega
   rw [Lj hi] at hf;by_cases hz:l[i]=0
   ·left
    simp only [go_sem,ya,dJ,hv.bt hi,hz];refine ⟨_,k-1,rfl,by omega,_,_,i+1,rfl,?_⟩;rw [wrap64 (by omega) (by omega)];rw [yT hz] at hf;simp only [go_sem,ya];exact ⟨trivial,rfl,by omega,hf⟩
   ·right
    simp only [go_sem,ya,dJ,hv.bt hi,hz];rw [yE hz] at hf;refine ⟨_,_,rfl,by simp,_,rfl,.inl ⟨rfl,?_⟩⟩;simp only [go_sem,hf]
  ·right
   have dJ:¬(i:Int)<l.length:=by omega
   simp only [go_sem,dJ];refine ⟨_,_,rfl,by simp,_,rfl,.inr ⟨rfl,?_⟩⟩;rw [<-hf,xa (by omega)];rfl
def aok (Ke:Has P L 686 FX) (OR:Has P L 122 FE) (OS:Has P L 123 FF) (Gk:Has P L 160 Cl) (hT:Tx P L) {v:AV} {l:List Rat} {K:Nat} (hv:ko v l) (hl:l.length<=1000000) (hk:∀x,x∈l->Hq K x) (hK:K<=4000000000):
  (l.any LG=true->ai P L 686 [v] (.av [.af,aa 4]))/\(l.any LG=false->∃r,ik r (l.map RT)/\ai P L 686 [v] (.av [r,aa 0])):=by
 have e1:=aoh OR Gk hv hl (g:=107) (p:=LG) (fun w x hx hw=>anJ hT hw (hk x hx) hK);obtain ⟨r,e2,hr⟩:=aoi OS hT hv hl hk hK;unfold ai at e1 e2 ⊢;constructor
 ·intro ha;rw [ha] at e1;rw [aK Ke];simp only [go_sem,ya,FX,hv.ak,e1]
 ·intro ha;rw [ha] at e1;refine ⟨_,hr,?_⟩;rw [aK Ke];simp only [go_sem,ya,FX,hv.ak,e1,e2];rcases hr with ⟨hr,_⟩ | ⟨e,hr⟩<;>rw [hr]<;>rfl
end
def Kf (id:Nat):r7 2 1 0 (.ptr id 0)=some (.ptr id 0):=rfl
def OT (id:Nat):r7 2 1 1 (.ptr id 0)=some (.ptr id 1):=rfl
def p9 (a b:AV) (r:List AV):r7 2 1 0 (.bR (a::b::r))=some (.bR (a::b::r)):=rfl
def Aw (a b:AV) (r:List AV):r7 2 1 1 (.bR (a::b::r))=some (.bR (b::r)):=rfl
noncomputable def il (l:List cO):Int:=if 64<l.length then 5 else bW (l.map px)
def U7 {l:List cO} (h:il l=0):l.length<=64/\∀p,p∈l->cg p.1=0/\cg p.2=0:=by
 unfold il at h
 split at h
 ·exact absurd h (by decide)
 ·exact ⟨by omega,fun p hp=>ahy.1 (RJ h p hp)⟩
noncomputable def py (p q:cO):List Rat:=[gJ p.1-gJ q.1,gJ p.2-gJ q.2]
noncomputable def eA (l m:List cO):List Rat:=((l.zip m).map fun z=>py z.1 z.2).flatten
def EH {l m:List cO} (h:l.length=m.length):(eA l m).length=2*l.length:=by
 unfold eA
 have:∀(z:List (cO×cO)),((z.map fun z=>py z.1 z.2).flatten).length=2*z.length:=fun z=>by
  induction z with
  | nil=>rfl
  | cons a z ih=>rw [yW,wk,yU,ih,yH];simp [py];omega
 rw [this,List.length_zip];omega
def TE {l m:List cO} (h:l.length=m.length) {i:Nat} (hi:i<l.length):eA (l.take (i+1)) (m.take (i+1))=eA (l.take i) (m.take i)++py l[i] (m[i]'(by omega)):=by
 unfold eA;rw [xB hi,xB (by omega),List.zip_append (by simp;omega),xx,List.flatten_append]
 simp
def Wm {l m:List cO} (hl:∀p,p∈l->cg p.1=0/\cg p.2=0) (hm:∀p,p∈m->cg p.1=0/\cg p.2=0):∀x,x∈eA l m->Hq 4801 x:=by
 intro x hx;unfold eA at hx;obtain ⟨y,hy,hx⟩:=List.mem_flatten.1 hx;obtain ⟨z,hz,rfl⟩:=ud.1 hy;obtain ⟨h1,h2⟩:=hl _ (yae hz).1;obtain ⟨h3,h4⟩:=hm _ (yae hz).2;simp only [py,wc,List.not_mem_nil,or_false] at hx;rcases hx with rfl | rfl
 ·exact ((nE h1 (yv 2400)).sub (nE h3 (yv 2400))).mono (by omega)
 ·exact ((nE h2 (yv 2400)).sub (nE h4 (yv 2400))).mono (by omega)
structure K4 (P:aR) (L:Lib):Prop extends Ck P L where
 OR:Has P L 122 FE
 OS:Has P L 123 FF
 Gk:Has P L 160 Cl
 XK:Has P L 658 JR
 AS:Has P L 677 Co
 Ke:Has P L 686 FX
 aol:Has P L 692 FY
 Kg:Has P L 695 FZ
 Kh:Has P L 697 F0
 XL:Has P L 698 JS
 CC:Has P L 726 F1
section
variable {P:aR} {L:Lib}
def XM (h:Tx P L) {s:List Nat} (h0:cg s=0):∃r,ai P L 62 [.str s] r/\ez r (gJ s):=by
 obtain ⟨hR,_⟩:=BD h0;have kr:=nE h0 (yv 2400);have hl:=Fe kr;obtain ⟨r,e,hr⟩:=m62 h (a:=gJ s) (by omega);rw [<-hR] at e;exact ⟨r,e,hr⟩
def aom (h:Ck P L) (AS:Has P L 677 Co) (CC:Has P L 726 F1) {p:cO} (hx:p.1.length<=1000000000) (hy:p.2.length<=1000000000):ai P L 726 [.agg (dY p)] (aa (px p)):=by
 have e1:=Zo h hx;have e2:=Zo h hy;have e3:=XI AS (ju true [cg p.1,cg p.2]) (by simp);simp only [yH,yM,yj,yc,yW,wM] at e3;rw [show bW [cg p.1,cg p.2]=px p from rfl] at e3;unfold dY;unfold ai at e1 e2 e3 ⊢;rw [aK CC];simp only [go_sem,ya,yc,yz,yt,yo,F1,aZ,Kf,OT,cB,yy,e1,e2,e3]
def aon (h:Has P L 695 FZ) {v:AV} {l:List cO} (hv:eL v l) (hl:l.length<=1000000) {g:Nat} {cap:List AV} (hc:aC cap=true) (hz:∀(n:Nat) (hp:Hp),cm (n+900) hp cap=some (cap,hp)) {f:cO->Int} (hg:∀a,a∈l->ai P L g (.agg (dY a)::cap) (aa (f a))):
  ai P L 695 [v,.fn (.f g) [] cap] (aa (bW (l.map f))):=by
 have pf:aX (.fn (.f g) [] cap)=true:=by simp [aX,aC,hc]
 have key:=gW (P:=P) (L:=L) (live:=[1,8,9,10]) (a:=BV)
  (I:=fun k st=>∃i:Nat,i+k=l.length/\bW ((l.drop i).map f)=bW (l.map f)/\st=⟨[(1,.fn (.f g) [] cap),(8,v),(9,aa l.length),(10,aa i)],[],0,0⟩)
  (Q:=fun ex st=>∃tm hp ct,st=⟨tm,hp,ct,0⟩/\((ex= .ret/\ah tm 4=aa (bW (l.map f)))\/(ex= .exit 0/\bW (l.map f)=0))) ?_
 ·unfold ai;rw [aK h];simp only [go_sem,ya,FZ,hv.len];generalize hq:D P L (.loop [1,8,9,10] BV) _=q;obtain ⟨ex,st,rfl,tm,hp,ct,rfl,h2⟩:=bP hq (key l.length) ⟨0,by omega,rfl,by simp only [go_sem,ya,aA,aB hv.pu,aE _ hv.pu,aB pf,aE _ pf]<;>rfl⟩
  rcases h2 with ⟨rfl,h2⟩ | ⟨rfl,h2⟩
  ·simp only [go_sem,h2]
  ·rw [h2];simp only [go_sem,aA]
 ·rintro k st ⟨i,hk,hf,rfl⟩;by_cases hi:i<l.length
  ·obtain ⟨rest,e1⟩:=hv.bt hi;have e2:=hg _ (xW hi);have hd:bW ((l.drop i).map f)=if f l[i]=0 then bW ((l.drop (i+1)).map f) else f l[i]:=by
    rw [yP hi,yW];rfl
   rw [hd] at hf;unfold ai dY at e2;by_cases h0:f l[i]=0
   ·left
    rw [yT h0] at hf;rw [h0] at e2;simp only [go_sem,ya,yc,BV,show (i:Int)<l.length by omega,e1,CB,aZ,eQ,ot,yy,bY,hz,e2];refine ⟨_,k-1,rfl,by omega,i+1,by omega,hf,?_⟩;rw [wrap64 (by omega) (by omega)];simp only [go_sem,ya,aA,aB hv.pu,aE _ hv.pu,aB pf,aE _ pf]<;>rfl
   ·right
    rw [yE h0] at hf;simp only [go_sem,ya,yc,BV,show (i:Int)<l.length by omega,e1,CB,aZ,eQ,ot,yy,bY,hz,e2,h0];refine ⟨_,_,rfl,by simp,_,_,_,rfl,.inl ⟨rfl,?_⟩⟩;rw [<-hf];simp only [go_sem]
  ·right
   simp only [go_sem,ya,BV,show ¬(i:Int)<l.length by omega];refine ⟨_,_,rfl,by simp,_,_,_,rfl,.inr ⟨rfl,?_⟩⟩;rw [<-hf,xa (by omega)];rfl
def XN (h:Ck P L) (AS:Has P L 677 Co) (Kg:Has P L 695 FZ) (Kh:Has P L 697 F0) (CC:Has P L 726 F1) {v:AV} {l:List cO} (hv:eL v l) (hl:l.length<=1000000) (hf:∀p,p∈l->p.1.length<=1000000000/\p.2.length<=1000000000):ai P L 697 [v] (aa (il l)):=by
 have e1:=aon Kg hv hl (g:=726) (cap:=[]) rfl (fun _ _=>rfl) (f:=px) (fun p hp=>aom h AS CC (hf p hp).1 (hf p hp).2);unfold il;unfold ai at e1 ⊢;rw [aK Kh];by_cases h4:64<l.length
 ·rw [yT h4];simp only [go_sem,ya,F0,hv.len,show (64:Int)<l.length by omega,yJ]
 ·rw [yE h4];simp only [go_sem,ya,F0,hv.len,hv.ak,show ¬(64:Int)<l.length by omega,yG,e1]
def XO (h:Has P L 698 JS) (p:cO):ai P L 698 [.agg (dY p)] (.agg (dY p)):=by
 unfold dY;unfold ai;rw [aK h];simp only [go_sem,ya,yc,yt,JS,aZ,Kf,OT,cB,yy,ek,er,ot,eQ];rfl
end
def aoo (p q:cO):ib (.ag [2,2]) (.agg (dY p)) (.agg (dY q))=some (bV p.1 q.1&&bV p.2 q.2):=by
 show cG [2,2] [.str p.1,.str p.2] [.str q.1,.str q.2]=_
 simp only [cG];cases bV p.1 q.1<;>cases bV p.2 q.2<;>rfl
def NG {tm:Env} {x0 x1 x2 x3 a b c d:AV} (h1:cw a=true) (h2:cw b=true) (h3:cw c=true) (h4:cw d=true):mK tm [x0,x1,x2,x3] 0 4 [a,b,c,d] []=some [a,b,c,d]:=by
 rw [akG h1 h2 h3 h4];rfl
noncomputable def kQ (l m:List cO):Int:=bW [il l,il m,if l.length=m.length then 0 else 2]
def Uy {l m:List cO} (h:kQ l m=0):l.length=m.length/\l.length<=64/\(∀p,p∈l->cg p.1=0/\cg p.2=0)/\∀p,p∈m->cg p.1=0/\cg p.2=0:=by
 unfold kQ at h;simp only [D7,HQ,wu] at h;obtain ⟨h1,h2,h3⟩:=h;have a:=U7 h1;have b:=U7 h2;refine ⟨?_,a.1,a.2,b.2⟩;by_cases e:l.length=m.length
 ·exact e
 ·rw [yE e] at h3;exact absurd h3 (by decide)
section
variable {P:aR} {L:Lib}
def XP (h:Tx P L) {s t:List Nat} (hs:cg s=0) (ht:cg t=0):∃a b r,ai P L 62 [.str s] a/\ai P L 62 [.str t] b/\(∀(n:Nat) (hp:Hp),freeze (n+20) hp (VE.shut a)=some (VE.shut a,hp))/\(∀(n:Nat) (hp:Hp),freeze (n+20) hp (VE.shut b)=some (VE.shut b,hp))/\ai P L 50 [VE.shut a,VE.shut b] r/\ez r (gJ s-gJ t):=by
 obtain ⟨a,e1,ha⟩:=XM h hs;obtain ⟨b,e2,hb⟩:=XM h ht;obtain ⟨r,e3,hr⟩:=m50 h.toFr' ha hb (nE hs (yv 2400)) (nE ht (yv 2400)) (by decide);obtain ⟨a1,a2,a3,a4,rfl,ga⟩:=ha.gen;obtain ⟨b1,b2,b3,b4,rfl,gb⟩:=hb.gen;exact ⟨_,_,r,e1,e2,fun n hp=>by rw [bN];exact ga.ak n hp,fun n hp=>by rw [bN];exact gb.ak n hp,e3,hr⟩
def akH (h:K4 P L) {v w:AV} {l m:List cO} (hv:eL v l) (hw:eL w m) (iH:l.length=m.length) (hl:l.length<=64) {i:Nat} (hi:i<l.length) (cp:cg l[i].1=0/\cg l[i].2=0) (cq:cg (m[i]'(by omega)).1=0/\cg (m[i]'(by omega)).2=0)
  {cs:List AV} {pre:List Rat} (gO:QL cs pre) (dw:pre.length=2*i):
  ∀d st,(d=2/\aV [1,7,8,9,26,27,28,46] st=(if i=0 then ⟨[(1,w),(7,.af),(8,aa i),(9,.ptr 0 0),(26,v),(27,aa l.length),(28,aa i),(46,aa 0)],[(0,.cells true true true 2 (dY l[i]))],1,0⟩
    else ⟨[(1,w),(7,.ay 0 0 (2*i)),(8,aa i),(9,.ptr 1 0),(26,v),(27,aa l.length),(28,aa i),(46,aa 0)],[(1,.cells true true true 2 (dY l[i])),(0,.cells true true false 4 cs)],2,0⟩)\/
    (∃j b8,0<j/\j+d=2/\QL b8 (pre++(py l[i] (m[i]'(by omega))).take j)/\aV [1,7,8,9,26,27,28,46] st=⟨[(1,w),(7,.ay 0 0 (2*i+j)),(8,aa i),(9,.ptr 1 0),(26,v),(27,aa l.length),(28,aa i),(46,aa (j:Nat))],[(1,.cells true true true 2 (dY l[i])),(0,.cells true true false 4 b8)],2,0⟩))->
   ∃ex s',D P L (.loop [1,7,8,9,26,27,28,46] rV) st=some (ex,s')/\∃tm hp ct b8,s'=⟨tm,hp,ct,0⟩/\ex= .exit 2/\QL b8 (pre++py l[i] (m[i]'(by omega)))/\ah tm 1=w/\ah tm 7= .ay 0 0 (2*i+2)/\ah tm 26=v/\ah tm 27=aa l.length/\ah tm 28=aa i/\ap hp 0=some (.cells true true false 4 b8):=by
 obtain ⟨cp1,cp2⟩:=cp;obtain ⟨cq1,cq2⟩:=cq;intro dq sq;generalize bz:aV [1,7,8,9,26,27,28,46] sq=s0;revert bz s0 sq dq;apply eb;obtain ⟨rest,e0⟩:=hw.bt (i:=i) (by omega);have C4:=gO.len;rintro d st (⟨rfl,rfl⟩ | ⟨j,b8,hj,hjd,jO,rfl⟩)
 ·left
  obtain ⟨a,b,r,e1,e2,fa,fb,e3,hr⟩:=XP h.toTx cp1 cq1;have b9:=hr;obtain ⟨y1,y2,y3,y4,rfl,gy⟩:=hr.gen;obtain ⟨Hl,Hm,Hn,Ho⟩:=gy.Qn;have pY:aC [y1,y2,y3,y4]=true:=by simp only [aC,Hl,Hm,Hn,Ho,wC]
  unfold ai at e1 e2 e3;by_cases h0:i=0
  ·rw [yT h0];unfold dY;simp only [go_sem,ya,yc,xk,yz,yt,rV,show decide ((0:Int)<2)=true from rfl,Kf,p9,yy,e1,fa,e0,e2,fb,e3,bN,NG gy.o1 gy.o2 gy.o3 gy.o4,mB,pY,NF,js];refine ⟨_,1,rfl,by omega,.inr ⟨1,[y1,y2,y3,y4],by omega,by omega,?_,?_⟩⟩
   ·have:pre=[]:=yA (by omega)
    rw [this];exact ⟨b9,trivial⟩
   ·rw [show 2*i+1=1 by omega];simp only [go_sem,ya,yc,aA,aB hv.pu,aE _ hv.pu,aB hw.pu,aE _ hw.pu]<;>rfl
  ·rw [yE h0];unfold dY;simp only [go_sem,ya,yc,xk,rV,show decide ((0:Int)<2)=true from rfl,Kf,p9,yy,e1,fa,e0,e2,fb,e3,bN,NG gy.o1 gy.o2 gy.o3 gy.o4,mB,pY,NF]
   rw [iq (ex:=false) (pu:=true) (cs:=cs) (by simp only [go_sem,ya]) (by rw [C4,dw]) (by omega) (by omega) (by decide) (by simp only [go_sem,gy.o1,gy.o2,gy.o3,gy.o4])];simp only [go_sem,ya,yc,pY];refine ⟨_,1,rfl,by omega,.inr ⟨1,cs++[y1,y2,y3,y4],by omega,by omega,gO.snoc b9,?_⟩⟩;simp only [go_sem,ya,yc,aA,aB hv.pu,aE _ hv.pu,aB hw.pu,aE _ hw.pu]<;>rfl
 ·by_cases h1:j=1
  ·left
   subst h1;obtain ⟨a,b,r,e1,e2,fa,fb,e3,hr⟩:=XP h.toTx cp2 cq2;have b9:=hr;obtain ⟨y1,y2,y3,y4,rfl,gy⟩:=hr.gen;obtain ⟨Hl,Hm,Hn,Ho⟩:=gy.Qn;have pY:aC [y1,y2,y3,y4]=true:=by simp only [aC,Hl,Hm,Hn,Ho,wC]
   have dR:=jO.len;unfold ai at e1 e2 e3;unfold dY;simp only [go_sem,ya,yc,xk,rV,show decide (((1:Nat):Int)<2)=true from rfl,OT,Aw,cB,e1,fa,e0,e2,fb,e3,bN,NG gy.o1 gy.o2 gy.o3 gy.o4,mB,pY,NF]
   rw [iq (ex:=false) (pu:=true) (cs:=b8) (by simp only [go_sem,ya]) (by rw [dR,yU,dw];simp [py]) (by omega) (by omega) (by decide) (by simp only [go_sem,gy.o1,gy.o2,gy.o3,gy.o4])];simp only [go_sem,ya,yc,pY];refine ⟨_,0,rfl,by omega,.inr ⟨2,b8++[y1,y2,y3,y4],by omega,by omega,?_,?_⟩⟩
   ·have:=jO.snoc b9
    rw [xn] at this;exact this
   ·simp only [go_sem,ya,yc,aA,aB hv.pu,aE _ hv.pu,aB hw.pu,aE _ hw.pu]<;>rfl
  ·right
   have h2:j=2:=by omega
   subst h2;simp only [go_sem,ya,rV,show decide (((2:Nat):Int)<2)=false from rfl];exact ⟨_,_,rfl,by simp,_,_,_,b8,rfl,rfl,jO,by simp only [go_sem,ya],by simp only [go_sem,ya],by simp only [go_sem,ya],by simp only [go_sem,ya],by simp only [go_sem,ya],by simp only [go_sem,ya]⟩
end
def I6 (hp:Hp) (ct id:Nat) (a b c d:List Nat):ie hp ct id 0 2 [.str a,.str b] (some (.cells true true true 2 [.str c,.str d]))=some (.av [],a6 hp id (.cells true true true 2 [.str a,.str b]),ct):=eQ rfl rfl rfl rfl
def Wn (ef pu ex:Bool) (a b c d a' b' c' d':AV):CU 0 2 4 (some (.cells ef pu ex 4 [a,b,c,d,a',b',c',d']))=some (2,[a,b,c,d,a',b',c',d']):=rfl
def Nb:∀{a b:List Nat},bV a b=true->a=b
 | [],[],_=>rfl
 | [],_::_,h=>by simp [bV] at h
 | _::_,[],h=>by simp [bV] at h
 | x::a,y::b,h=>by
  simp only [bV,yf] at h;rw [Nat.eq_of_beq_eq_true h.1,Nb h.2]
section
variable {P:aR} {L:Lib}
def akI (h:K4 P L) {v w:AV} {l m:List cO} (hv:eL v l) (hw:eL w m) (iH:l.length=m.length) (hl:l.length<=64) (cp:∀p,p∈l->cg p.1=0/\cg p.2=0) (cq:∀p,p∈m->cg p.1=0/\cg p.2=0):
  ∀d st,(∃i:Nat,i+d=l.length/\∃cs,QL cs (eA (l.take i) (m.take i))/\aV [1,7,26,27,28] st=(if i=0 then ⟨[(1,w),(7,.af),(26,v),(27,aa l.length),(28,aa i)],[],0,0⟩
    else ⟨[(1,w),(7,.ay 0 0 (2*i)),(26,v),(27,aa l.length),(28,aa i)],[(0,.cells true true false 4 cs)],1,0⟩))->
   ∃ex s',D P L (.loop [1,7,26,27,28] pR) st=some (ex,s')/\∃tm hp ct,s'=⟨tm,hp,ct,0⟩/\ex= .exit 0/\((l.length=0/\ah tm 7= .af)\/(0<l.length/\∃cs,QL cs (eA l m)/\ah tm 7= .ay 0 0 (2*l.length)/\ap hp 0=some (.cells true true false 4 cs))):=by
 intro dq sq;generalize bz:aV [1,7,26,27,28] sq=s0;revert bz s0 sq dq;apply eb;rintro d st ⟨i,hid,cs,gO,rfl⟩;by_cases hi:i<l.length
 ·left
  have Hr:i<m.length:=by omega
  have dJ:(i:Int)<l.length:=by omega
  obtain ⟨rest,e0⟩:=hv.bt hi;obtain ⟨ama,e1⟩:=hw.bt Hr;have e2:=XO h.XL l[i];have e3:=XO h.XL m[i];have iE:=aoo l[i] m[i];have hlen:(eA (l.take i) (m.take i)).length=2*i:=by rw [EH (by simp;omega),yQ];omega
  have aP:=TE iH hi;have dR:=gO.len;unfold ai at e2 e3;unfold dY at e2 e3 iE
  cases hb:(bV l[i].1 m[i].1&&bV l[i].2 m[i].2) with
  | true=>
   rw [hb] at iE;simp only [yf] at hb;have q1:=Nb hb.1;have q2:=Nb hb.2;have gP:py l[i] m[i]=[0,0]:=by unfold py;rw [q1,q2,ybb,ybb]
   rw [gP] at aP;obtain ⟨z,e4,hz⟩:=m69 h.toFr' (z:=0) (by omega) (by omega);have hz:ez z 0:=hz;have fF:=hz;obtain ⟨y1,y2,y3,y4,rfl,gy⟩:=hz.gen;obtain ⟨Hl,Hm,Hn,Ho⟩:=gy.Qn;have pY:aC [y1,y2,y3,y4,y1,y2,y3,y4]=true:=by simp only [aC,Hl,Hm,Hn,Ho,wC]
   have hQ:∀{c:List AV} {q:List Rat},QL c q->QL (c++[y1,y2,y3,y4,y1,y2,y3,y4]) (q++[0,0]):=fun {c q} hc=>by
    have:=(hc.snoc fF).snoc fF
    rw [xn,xn] at this;exact this
   have hf:∀{tm:Env},fill tm [y1,y2,y3,y4,y1,y2,y3,y4] []=some [y1,y2,y3,y4,y1,y2,y3,y4]:=rfl;unfold ai at e4;by_cases h0:i=0
   ·subst h0
    have:cs=[]:=yA (by rw [dR,hlen])
    subst this;rw [yT rfl];simp only [go_sem,ya,yc,xk,yz,yt,pR,show ((0:Nat):Int)<l.length from dJ,e0,CB,aZ,I6,ot,yy,bY,e1,e2,e3,bN,iE,c8,e4,Uv gy.o1 gy.o2 gy.o3 gy.o4,Uw gy.o1 gy.o2 gy.o3 gy.o4,hf,mB,pY,Wn,js];refine ⟨_,d-1,rfl,by omega,1,by omega,_,by rw [aP];exact hQ gO,?_⟩
    rw [yE (by decide),wrap64 (by omega) (by omega)];simp only [go_sem,ya,yc,yo,aA,aB hv.pu,aE _ hv.pu,aB hw.pu,aE _ hw.pu]<;>rfl
   ·rw [yE h0];simp only [go_sem,ya,yc,xk,pR,dJ,e0,CB,aZ,I6,ot,yy,bY,e1,e2,e3,bN,iE,c8,e4,Uv gy.o1 gy.o2 gy.o3 gy.o4,Uw gy.o1 gy.o2 gy.o3 gy.o4,hf,mB,pY,Wn]
    rw [iq (ex:=false) (pu:=true) (cs:=cs) (by simp only [go_sem,ya]) (by rw [dR,hlen]) (by omega) (by omega) (by decide) (by simp only [go_sem,gy.o1,gy.o2,gy.o3,gy.o4])];simp only [go_sem,ya,yc,pY];refine ⟨_,d-1,rfl,by omega,i+1,by omega,_,by rw [aP];exact hQ gO,?_⟩
    rw [yE (by omega),wrap64 (by omega) (by omega),show 2*(i+1)=2*i+2 by omega];simp only [go_sem,ya,yc,aA,aB hv.pu,aE _ hv.pu,aB hw.pu,aE _ hw.pu]<;>rfl
  | false=>
   rw [hb] at iE;have key:=akH h hv hw iH hl hi (cp _ (xW hi)) (cq _ (xW Hr)) gO hlen;by_cases h0:i=0
   ·rw [yT h0];simp only [go_sem,ya,yc,pR,dJ,e0,CB,aZ,I6,ot,yy,bY,e1,e2,e3,bN,iE,c8];generalize hq:D P L (.loop [1,7,8,9,26,27,28,46] rV) _=q;obtain ⟨ex,st,rfl,tm,hp,ct,b8,rfl,rfl,g1,t1,t7,t26,t27,t28,g0⟩:=bP hq (key 2) (.inl ⟨rfl,by rw [yT h0];unfold dY;simp only [go_sem,ya,yc,aA,aB hv.pu,aE _ hv.pu,aB hw.pu,aE _ hw.pu]<;>rfl⟩)
    simp only [go_sem,ya,yc,aA,t1,t7,t26,t27,t28,g0,aB hv.pu,aE _ hv.pu,aB hw.pu,aE _ hw.pu];refine ⟨_,d-1,rfl,by omega,i+1,by omega,b8,by rw [aP];exact g1,?_⟩
    rw [yE (by omega),wrap64 (by omega) (by omega),show 2*(i+1)=2*i+2 by omega];simp only [go_sem,ya,yc,aA,aB hv.pu,aE _ hv.pu,aB hw.pu,aE _ hw.pu]<;>rfl
   ·rw [yE h0];simp only [go_sem,ya,yc,pR,dJ,e0,CB,aZ,I6,ot,yy,bY,e1,e2,e3,bN,iE,c8];generalize hq:D P L (.loop [1,7,8,9,26,27,28,46] rV) _=q;obtain ⟨ex,st,rfl,tm,hp,ct,b8,rfl,rfl,g1,t1,t7,t26,t27,t28,g0⟩:=bP hq (key 2) (.inl ⟨rfl,by rw [yE h0];unfold dY;simp only [go_sem,ya,yc,aA,aB hv.pu,aE _ hv.pu,aB hw.pu,aE _ hw.pu]<;>rfl⟩)
    simp only [go_sem,ya,yc,aA,t1,t7,t26,t27,t28,g0,aB hv.pu,aE _ hv.pu,aB hw.pu,aE _ hw.pu];refine ⟨_,d-1,rfl,by omega,i+1,by omega,b8,by rw [aP];exact g1,?_⟩
    rw [yE (by omega),wrap64 (by omega) (by omega),show 2*(i+1)=2*i+2 by omega];simp only [go_sem,ya,yc,aA,aB hv.pu,aE _ hv.pu,aB hw.pu,aE _ hw.pu]<;>rfl
 ·right
  have kV:i=l.length:=by omega
  by_cases h0:i=0
  ·rw [yT h0];simp only [go_sem,ya,pR,show ¬(i:Int)<l.length by omega];exact ⟨_,_,rfl,by simp,_,_,_,rfl,rfl,.inl ⟨by omega,by simp only [go_sem,ya]⟩⟩
  ·rw [yE h0];simp only [go_sem,ya,pR,show ¬(i:Int)<l.length by omega];rw [kV,yD (yv _),yD (by omega)] at gO;exact ⟨_,_,rfl,by simp,_,_,_,rfl,rfl,.inr ⟨by omega,cs,gO,by simp only [go_sem,ya];rw [kV],by simp only [go_sem]⟩⟩
def aop (h:K4 P L) {v w:AV} {l m:List cO} (hv:eL v l) (hw:eL w m) (hl:l.length<=1000000) (hm:m.length<=1000000) (fl:∀p,p∈l->p.1.length<=1000000000/\p.2.length<=1000000000) (fm:∀p,p∈m->p.1.length<=1000000000/\p.2.length<=1000000000):
  ∃x e,ai P L 658 [v,w] (.av [x,aa e])/\(∀(n:Nat) (hp:Hp),freeze (n+1) hp (bG x)=some (bG x,hp))/\((kQ l m≠0/\x= .af/\e=kQ l m)\/(kQ l m=0/\(eA l m).any LG=true/\x= .af/\e=4)\/(kQ l m=0/\(eA l m).any LG=false/\ik x ((eA l m).map RT)/\e=0)):=by
 have e1:=XN h.toCk h.AS h.Kg h.Kh h.CC hv hl fl;have e2:=XN h.toCk h.AS h.Kg h.Kh h.CC hw hm fm;have e3:∀b:Bool,ai P L 692 [.bool b,aa 2] (aa (if b=true then 2 else 0)):=fun b=>aoj h.aol b 2
 have e4:ai P L 677 [.aq true 3 [aa (il l),aa (il m),aa (if l.length=m.length then 0 else 2)]] (aa (kQ l m)):=XI h.AS (ju true [il l,il m,if l.length=m.length then 0 else 2]) (by simp);have dV:decide ((l.length:Int)=(m.length:Int))=decide (l.length=m.length):=decide_eq_decide.2 (by omega);have e5:=e3 (!decide (l.length=m.length));rw [show (if (!decide (l.length=m.length))=true then (2:Int) else 0)=if l.length=m.length then 0 else 2 by by_cases e:l.length=m.length<;>simp [e]] at e5
 unfold ai at e1 e2 e4 e5;by_cases h0:kQ l m=0
 ·obtain ⟨iH,He,cp,cq⟩:=Uy h0;rw [h0] at e4;have hq:=Wm cp cq;have hlen:=EH iH;have key:=akI h hv hw iH He cp cq;have fin:∀{f:AV},ko f (eA l m)->∃x e,ai P L 686 [f] (.av [x,aa e])/\aX x=true/\bG x=x/\(∀(n:Nat) (hp:Hp),freeze (n+1) hp x=some (x,hp))/\(((eA l m).any LG=true/\x= .af/\e=4)\/((eA l m).any LG=false/\ik x ((eA l m).map RT)/\e=0)):=fun {f} hf=>by
   obtain ⟨g1,g2⟩:=aok h.Ke h.OR h.OS h.Gk h.toTx hf (by omega) hq (by decide)
   cases hb:(eA l m).any LG with
   | true=>exact ⟨_,_,g1 hb,rfl,rfl,fun _ _=>rfl,.inl ⟨rfl,rfl,rfl⟩⟩
   | false=>
    obtain ⟨r,hr,g3⟩:=g2 hb;exact ⟨_,_,g3,hr.pu,hr.bG,fun n hp=>hr.ak n,.inr ⟨rfl,hr,rfl⟩⟩
  unfold ai;rw [aK h.XK];simp only [go_sem,ya,yc,yz,yt,yo,JR,hv.len,hv.ak,hw.len,hw.ak,e1,e2,dV,e5,e4];generalize bB:D P L (.loop [1,7,26,27,28] pR) _=q';obtain ⟨ex,st,rfl,tm,hp,ct,rfl,rfl,h2⟩:=bP bB (key l.length) ⟨0,by omega,[],by simp [eA,QL],by rw [yT rfl];simp only [go_sem,ya,aA,aB hv.pu,aE _ hv.pu,aB hw.pu,aE _ hw.pu]<;>rfl⟩
  rcases h2 with ⟨h2,h3⟩ | ⟨h2,cs,gO,h3,h4⟩
  ·have ji:eA l m=[]:=yA (by omega);obtain ⟨x,e,g1,g2,g3,g4,g5⟩:=fin (f:= .af) (by rw [ji];exact adl)
   unfold ai at g1;refine ⟨x,e,?_,by rw [g3];exact g4,?_⟩
   ·simp only [go_sem,ya,aA,h3,g1,g3];rcases g5 with ⟨_,rfl,_⟩ | ⟨_,hr,_⟩
    ·rfl
    ·rcases hr with ⟨hr,_⟩ | ⟨ee,hr⟩<;>rw [hr]<;>rfl
   ·rcases g5 with ⟨a,b,c⟩ | ⟨a,b,c⟩
    ·exact .inr (.inl ⟨h0,a,b,c⟩)
    ·exact .inr (.inr ⟨h0,a,b,c⟩)
  ·have dR:=gO.len;obtain ⟨x,e,g1,g2,g3,g4,g5⟩:=fin (f:= .aq false (2*l.length) cs) (by have:=afq false gO;rwa [hlen] at this)
   unfold ai at g1;refine ⟨x,e,?_,by rw [g3];exact g4,?_⟩
   ·simp only [go_sem,ya,yc,aA,h3,h4,ll false (show cs.length=(2*l.length)*4 by rw [dR,hlen]) (by decide),g1,g3];rcases g5 with ⟨_,rfl,_⟩ | ⟨_,hr,_⟩
    ·rfl
    ·rcases hr with ⟨hr,_⟩ | ⟨ee,hr⟩<;>rw [hr]<;>rfl
   ·rcases g5 with ⟨a,b,c⟩ | ⟨a,b,c⟩
    ·exact .inr (.inl ⟨h0,a,b,c⟩)
    ·exact .inr (.inr ⟨h0,a,b,c⟩)
 ·refine ⟨.af,_,?_,fun _ _=>rfl,.inl ⟨h0,rfl,rfl⟩⟩;unfold ai;rw [aK h.XK];simp only [go_sem,ya,yc,yz,yt,yo,JR,hv.len,hv.ak,hw.len,hw.ak,e1,e2,dV,e5,e4,h0]
end
def afs {α:Type} {p:α->Bool} {l:List α} {i:Nat} (h:i<l.length):(l.drop i).all p=(p l[i]&&(l.drop (i+1)).all p):=by
 rw [yP h,List.all_cons]
def aac {α:Type} {f:α->Int} {l:List α} {i:Nat} (h:i<l.length):bW ((l.drop i).map f)=if f l[i]=0 then bW ((l.drop (i+1)).map f) else f l[i]:=by
 rw [yP h,yW,bW]
section
variable {P:aR} {L:Lib}
def ZF (h:Has P L 29 Kz) {v w:AV} {l:List (List Nat)} (hv:ik v l) (hw:ik w l) (hl:l.length<=1000000):ai P L 29 [v,w] (.bool true):=by
 have key:=gW (P:=P) (L:=L) (live:=[0,1,5]) (a:=Ft)
  (I:=fun k st=>∃i:Nat,st=⟨[(0,v),(1,w),(5,aa i)],[],0,0⟩/\i+k=l.length)
  (Q:=fun ex st=>∃tm hp ct,st=⟨tm,hp,ct,0⟩/\ex= .exit 0) ?_
 ·unfold ai;rw [aK h];simp only [go_sem,ya,Kz,hv.len,hw.len,yJ,y5];generalize hq:D P L (.loop [0,1,5] Ft) _=q;obtain ⟨ex,st,rfl,tm,hp,ct,rfl,rfl⟩:=bP hq (key l.length) ⟨0,by simp only [go_sem,ya,aA,aB hv.pu,aE _ hv.pu,aB hw.pu,aE _ hw.pu]<;>rfl,by omega⟩
  simp only [go_sem,aA]
 ·rintro k st ⟨i,rfl,hk⟩;by_cases hi:i<l.length
  ·left
   simp only [go_sem,ya,Ft,hv.len,show (i:Int)<l.length by omega,hv.bt hi,hw.bt hi,rO,adk,y5];refine ⟨_,k-1,rfl,by omega,i+1,?_,by omega⟩;rw [wrap64 (by omega) (by omega)];simp only [go_sem,ya,aA,aB hv.pu,aE _ hv.pu,aB hw.pu,aE _ hw.pu]<;>rfl
  ·right
   simp only [go_sem,ya,Ft,hv.len,show ¬(i:Int)<l.length by omega];exact ⟨_,_,rfl,by simp,_,_,_,rfl,rfl⟩
end
def ml (p:cO):Bool:= !decide (40<p.1.length)&& !decide (40<p.2.length)
def CD (l:List cO):Bool:= !(decide (10<l.length)&& !decide (l.length=65))&&l.all ml
def akJ {p:cO} (h:ml p=true):p.1.length<=40/\p.2.length<=40:=by
 simp only [ml,yf,wJ,yaf] at h;omega
def Uz {l:List cO} (h:CD l=true):l.length<=65/\∀p,p∈l->p.1.length<=40/\p.2.length<=40:=by
 simp only [CD,yf,wJ,Bool.and_eq_false_iff,yaf,Bool.not_eq_false',vl] at h;exact ⟨by omega,fun p hp=>akJ (List.all_eq_true.1 h.2 p hp)⟩
section
variable {P:aR} {L:Lib}
def XQ (h:Has P L 765 Cp) {v:AV} {l:List cO} (hv:eL v l):ai P L 765 [v] (.bool (CD l)):=by
 have key:=fun (hl:l.length<=1000000)=>gW (P:=P) (L:=L) (live:=[0,3]) (a:=rW)
   (I:=fun k st=>∃i:Nat,i+k=l.length/\(l.drop i).all ml=l.all ml/\st=⟨[(0,v),(3,aa i)],[],0,0⟩)
   (Q:=fun ex st=>∃tm hp ct,st=⟨tm,hp,ct,0⟩/\((ex= .ret/\ah tm 2= .bool false/\l.all ml=false)\/(ex= .exit 0/\l.all ml=true))) (by
   rintro k st ⟨i,hk,gl,rfl⟩;by_cases hi:i<l.length
   ·obtain ⟨rest,e1⟩:=hv.bt hi;rw [afs hi] at gl;by_cases h1:40<l[i].1.length
    ·right
     have hs:ml l[i]=false:=by simp [ml,h1]
     simp only [go_sem,ya,rW,hv.len,show (i:Int)<l.length by omega,e1,p9,show (40:Int)<l[i].1.length by omega];refine ⟨_,_,rfl,by simp,_,_,_,rfl,.inl ⟨rfl,by simp only [go_sem],?_⟩⟩;rw [<-gl,hs,wq]
    ·by_cases h2:40<l[i].2.length
     ·right
      have hs:ml l[i]=false:=by simp [ml,h2]
      simp only [go_sem,ya,rW,hv.len,show (i:Int)<l.length by omega,e1,p9,Aw,show ¬(40:Int)<l[i].1.length by omega,show (40:Int)<l[i].2.length by omega,yG];refine ⟨_,_,rfl,by simp,_,_,_,rfl,.inl ⟨rfl,by simp only [go_sem],?_⟩⟩;rw [<-gl,hs,wq]
     ·left
      have hs:ml l[i]=true:=by simp [ml,h1,h2]
      simp only [go_sem,ya,rW,hv.len,show (i:Int)<l.length by omega,e1,p9,Aw,show ¬(40:Int)<l[i].1.length by omega,show ¬(40:Int)<l[i].2.length by omega,yG];rw [hs,wB] at gl;refine ⟨_,k-1,rfl,by omega,i+1,by omega,gl,?_⟩;rw [wrap64 (by omega) (by omega)];simp only [go_sem,ya,aA,aB hv.pu,aE _ hv.pu]<;>rfl
   ·right
    simp only [go_sem,ya,rW,hv.len,show ¬(i:Int)<l.length by omega];refine ⟨_,_,rfl,by simp,_,_,_,rfl,.inr ⟨rfl,?_⟩⟩
    rw [<-gl,xa (by omega)];rfl)
 unfold CD;unfold ai;rw [aK h];by_cases h1:10<l.length
 ·have d1:decide ((10:Int)<l.length)=true:=xo (by omega);by_cases h2:l.length=65
  ·have d2:decide ((l.length:Int)=65)=true:=xo (by omega);rw [show decide (10<l.length)=true from xo h1,show decide (l.length=65)=true from xo h2];simp only [go_sem,ya,Cp,hv.len,d1,d2];generalize hq:D P L (.loop [0,3] rW) _=q;obtain ⟨ex,st,rfl,tm,hp,ct,rfl,h3⟩:=bP hq (key (by omega) l.length) ⟨0,by omega,rfl,by simp only [go_sem,ya,aA,aB hv.pu,aE _ hv.pu]<;>rfl⟩
   rcases h3 with ⟨rfl,h3,h4⟩ | ⟨rfl,h4⟩
   ·rw [h4];simp only [go_sem,h3]
   ·rw [h4];simp only [go_sem,aA]
  ·have d2:decide ((l.length:Int)=65)=false:=xb (by omega);rw [show decide (10<l.length)=true from xo h1,show decide (l.length=65)=false from xb h2];simp only [go_sem,ya,Cp,hv.len,d1,d2]
 ·have d1:decide ((10:Int)<l.length)=false:=xb (by omega);rw [show decide (10<l.length)=false from xb h1];simp only [go_sem,ya,Cp,hv.len,d1];generalize hq:D P L (.loop [0,3] rW) _=q;obtain ⟨ex,st,rfl,tm,hp,ct,rfl,h3⟩:=bP hq (key (by omega) l.length) ⟨0,by omega,rfl,by simp only [go_sem,ya,aA,aB hv.pu,aE _ hv.pu]<;>rfl⟩
  rcases h3 with ⟨rfl,h3,h4⟩ | ⟨rfl,h4⟩
  ·rw [h4];simp only [go_sem,h3]
  ·rw [h4];simp only [go_sem,aA]
def XR (h:Rm P L) (Gl:Has P L 647 FW) (Gm:Has P L 766 F2) {v:AV} {l:List cO} (hv:eL v l) (hl:l.length<=1000000) (hf:∀p,p∈l->p.1.length<=1000000000/\p.2.length<=1000000000):ai P L 766 [v] (aa (il l)):=by
 unfold il;by_cases hc:64<l.length
 ·rw [yT hc];unfold ai;rw [aK Gm];simp only [go_sem,ya,F2,hv.len,show (64:Int)<l.length by omega,yJ]
 ·rw [yE hc];have key:=gW (P:=P) (L:=L) (live:=[0,3]) (a:=BW)
   (I:=fun k st=>∃i:Nat,i+k=l.length/\bW ((l.drop i).map px)=bW (l.map px)/\st=⟨[(0,v),(3,aa i)],[],0,0⟩)
   (Q:=fun ex st=>∃tm hp ct,st=⟨tm,hp,ct,0⟩/\((ex= .ret/\ah tm 2=aa (bW (l.map px)))\/(ex= .exit 0/\bW (l.map px)=0))) ?_
  ·unfold ai;rw [aK Gm];simp only [go_sem,ya,F2,hv.len,show ¬(64:Int)<l.length by omega,yG];generalize hq:D P L (.loop [0,3] BW) _=q;obtain ⟨ex,st,rfl,tm,hp,ct,rfl,h2⟩:=bP hq (key l.length) ⟨0,by omega,rfl,by simp only [go_sem,ya,aA,aB hv.pu,aE _ hv.pu]<;>rfl⟩
   rcases h2 with ⟨rfl,h3⟩ | ⟨rfl,h4⟩
   ·simp only [go_sem,h3]
   ·rw [h4];simp only [go_sem,aA]
  ·rintro k st ⟨i,hk,gl,rfl⟩;by_cases hi:i<l.length
   ·obtain ⟨rest,e1⟩:=hv.bt hi;have ft:=hf _ (xW hi);have e2:=XF h (s:=l[i].1) (by omega);have e3:=XF h (s:=l[i].2) (by omega);have e4:=XJ Gl (ju true [cg l[i].1,cg l[i].2]) (by simp);simp only [yH,yM,yj,yc,yW,wM] at e4;rw [show bW [cg l[i].1,cg l[i].2]=px l[i] from rfl] at e4;unfold ai at e2 e3 e4;rw [aac hi] at gl;by_cases hb:px l[i]=0
    ·left
     rw [yT hb] at gl;rw [hb] at e4;simp only [go_sem,ya,yc,yz,yt,yo,BW,hv.len,show (i:Int)<l.length by omega,e1,p9,Aw,e2,e3,e4];refine ⟨_,k-1,rfl,by omega,i+1,by omega,gl,?_⟩;rw [wrap64 (by omega) (by omega)];simp only [go_sem,ya,aA,aB hv.pu,aE _ hv.pu]<;>rfl
    ·right
     rw [yE hb] at gl;simp only [go_sem,ya,yc,yz,yt,yo,BW,hv.len,show (i:Int)<l.length by omega,e1,p9,Aw,e2,e3,e4,hb,yG,yY];exact ⟨_,_,rfl,by simp,_,_,_,rfl,.inl ⟨rfl,by rw [<-gl];simp only [go_sem]⟩⟩
   ·right
    simp only [go_sem,ya,BW,hv.len,show ¬(i:Int)<l.length by omega];refine ⟨_,_,rfl,by simp,_,_,_,rfl,.inr ⟨rfl,?_⟩⟩;rw [<-gl,xa (by omega)];rfl
def aoq (h:Rp P L) (CE:Has P L 767 Cq) {v w:AV} {l m:List cO} (hv:eL v l) (hw:eL w m) (hl:l.length<=64) (iH:l.length=m.length) (cp:∀p,p∈l->cg p.1=0/\cg p.2=0) (cq:∀p,p∈m->cg p.1=0/\cg p.2=0):
  ∃r,ai P L 767 [v,w] (.av [r,aa 0])/\ik (bG r) ((eA l m).map RT):=by
 have key:=gW (P:=P) (L:=L) (live:=[0,1,6,7]) (a:=Ad)
  (I:=fun k st=>∃i:Nat,i+k=l.length/\st=(if i=0 then ⟨[(0,v),(1,w),(6,.af),(7,aa i)],[],0,0⟩ else ⟨[(0,v),(1,w),(6,.ay 0 0 (2*i)),(7,aa i)],[(0,.cells true true false 1 (((eA (l.take i) (m.take i)).map RT).map .str))],1,0⟩))
  (Q:=fun ex st=>∃tm hp ct,st=⟨tm,hp,ct,0⟩/\ex= .exit 0/\((l.length=0/\ah tm 6= .af)\/(0<l.length/\ah tm 6= .ay 0 0 (2*l.length)/\ap hp 0=some (.cells true true false 1 (((eA l m).map RT).map .str))))) ?_
 ·have q:decide ((l.length:Int)=(m.length:Int))=true:=xo (by omega);have hlen:=EH iH;unfold ai;rw [aK CE];simp only [go_sem,ya,Cq,hv.len,hw.len,q,y5];generalize hq:D P L (.loop [0,1,6,7] Ad) _=q';obtain ⟨ex,st,rfl,tm,hp,ct,rfl,rfl,h2⟩:=bP hq (key l.length) ⟨0,by omega,by rw [yT rfl];simp only [go_sem,ya,aA,aB hv.pu,aE _ hv.pu,aB hw.pu,aE _ hw.pu]<;>rfl⟩
  rcases h2 with ⟨h2,h3⟩ | ⟨h2,h3,h4⟩
  ·refine ⟨.af,by simp only [go_sem,ya,aA,h3],?_⟩;rw [show eA l m=[] from yA (by omega)];exact .inl ⟨rfl,rfl⟩
  ·refine ⟨.cx false 1 (2*l.length) (((eA l m).map RT).map .str),?_,?_⟩
   ·simp only [go_sem,ya,yc,aA,h3,h4];exact Z9 (zM _ _ _) (by simpa using hlen) (by decide)
   ·have:=Uu false ((eA l m).map RT)
    rw [xc,hlen] at this;exact this
 ·rintro k st ⟨i,hk,rfl⟩;by_cases hi:i<l.length
  ·left
   have Hr:i<m.length:=by omega
   obtain ⟨rest,e0⟩:=hv.bt hi;obtain ⟨ama,e1⟩:=hw.bt Hr;obtain ⟨c1,c2⟩:=cp _ (xW hi);obtain ⟨c3,c4⟩:=cq _ (xW Hr);have e2:=Wl h (nE c1 (yv 2400)) (nE c3 (yv 2400)) (by decide);have e3:=Wl h (nE c2 (yv 2400)) (nE c4 (yv 2400)) (by decide);rw [<-(BD c1).1,<-(BD c3).1] at e2;rw [<-(BD c2).1,<-(BD c4).1] at e3;have aP:=TE iH hi;have hlen:(eA (l.take i) (m.take i)).length=2*i:=by rw [EH (by simp;omega),yQ];omega
   have nH:((eA (l.take (i+1)) (m.take (i+1))).map RT).map AV.str=((eA (l.take i) (m.take i)).map RT).map AV.str++[.str (RT (gJ l[i].1-gJ m[i].1)),.str (RT (gJ l[i].2-gJ m[i].2))]:=by
    rw [aP,xx,xx];rfl
   unfold ai at e2 e3;by_cases h0:i=0
   ·subst h0;rw [yT rfl];simp only [go_sem,ya,yc,xk,yz,yt,yo,Ad,hv.len,show ((0:Nat):Int)<l.length by omega,e0,e1,p9,Aw,e2,e3,mB,Uo,js];refine ⟨_,k-1,rfl,by omega,1,by omega,?_⟩;rw [yE (by decide),wrap64 (by omega) (by omega),nH];simp only [go_sem,ya,yc,yo,aA,aB hv.pu,aE _ hv.pu,aB hw.pu,aE _ hw.pu,eA,List.take_zero,List.zip_nil_left,wM,List.flatten_nil]<;>rfl
   ·rw [yE h0];simp only [go_sem,ya,yc,yt,yo,Ad,hv.len,show (i:Int)<l.length by omega,e0,e1,p9,Aw,e2,e3,mB,Uo]
    rw [iq (ex:=false) (pu:=true) (sz:=1) (by simp only [go_sem,ya];rfl) (by simpa using hlen) (by omega) (by omega) (by decide) (by simp only [go_sem,MD])]
    simp only [go_sem,ya,yc];refine ⟨_,k-1,rfl,by omega,i+1,by omega,?_⟩;rw [yE (by omega),wrap64 (by omega) (by omega),nH,show 2*(i+1)=2*i+2 by omega];simp only [go_sem,ya,yc,aA,aB hv.pu,aE _ hv.pu,aB hw.pu,aE _ hw.pu]<;>rfl
  ·right
   have kV:i=l.length:=by omega
   by_cases h0:i=0
   ·subst h0;rw [yT rfl];simp only [go_sem,ya,Ad,hv.len,show ¬((0:Nat):Int)<l.length by omega];exact ⟨_,_,rfl,by simp,_,_,_,rfl,rfl,.inl ⟨by omega,by simp only [go_sem,ya]⟩⟩
   ·rw [yE h0];simp only [go_sem,ya,Ad,hv.len,show ¬(i:Int)<l.length by omega];refine ⟨_,_,rfl,by simp,_,_,_,rfl,rfl,.inr ⟨by omega,by simp only [go_sem,ya];rw [kV],?_⟩⟩;rw [yD (by omega),yD (by omega)];simp only [go_sem]
def XS (h:Rl P L) (Ki:Has P L 768 JT) {b:Int} {w:AV} {l:List Rat} {K:Nat} (hw:ik w (l.map RT)) (hl:l.length<=1000000) (hk:∀x,x∈l->Hq K x) (hK:K<=4000000000):ai P L 768 [aa b,w] (aa (if b=0 then (if l.any LG=true then 4 else 0) else b)):=by
 have iH:(l.map RT).length=l.length:=by simp
 have key:=gW (P:=P) (L:=L) (live:=[0,7,8,9]) (a:=Ae)
  (I:=fun k st=>∃i:Nat,i+k=l.length/\st=⟨[(0,aa (if b=0 then (if (l.take i).any LG=true then 4 else 0) else b)),(7,w),(8,aa l.length),(9,aa i)],[],0,0⟩)
  (Q:=fun ex st=>∃tm hp ct,st=⟨tm,hp,ct,0⟩/\ex= .exit 0/\ah tm 0=aa (if b=0 then (if l.any LG=true then 4 else 0) else b)) ?_
 ·unfold ai;rw [aK Ki];simp only [go_sem,ya,JT,hw.len,iH];generalize hq:D P L (.loop [0,7,8,9] Ae) _=q;obtain ⟨ex,st,rfl,tm,hp,ct,rfl,rfl,h2⟩:=bP hq (key l.length) ⟨0,by omega,by
   have:(if b=0 then (if (l.take 0).any LG=true then (4:Int) else 0) else b)=b:=by
    by_cases h0:b=0<;>simp [h0]
   rw [this]
   simp only [go_sem,ya,aA,aB hw.pu,aE _ hw.pu]<;>rfl⟩
  simp only [go_sem,aA,h2]
 ·rintro k st ⟨i,oT,rfl⟩;by_cases hi:i<l.length
  ·left
   have e1:=hw.bt (i:=i) (by omega);rw [yaa] at e1;have e2:=al9 h (hk _ (xW hi)) hK;have ht:(l.take (i+1)).any LG=((l.take i).any LG||LG l[i]):=by rw [xB hi,List.any_append];simp
   unfold ai at e2;by_cases h0:b=0
   ·rw [yT h0]
    cases h1:(l.take i).any LG with
    | true=>
     simp only [go_sem,ya,Ae,show (i:Int)<l.length by omega,e1,xm,show ¬(4:Int)=0 by decide,yG];refine ⟨_,k-1,rfl,by omega,i+1,by omega,?_⟩;rw [ht,h1,wrap64 (by omega) (by omega),yT h0];simp only [go_sem,ya,aA,aB hw.pu,aE _ hw.pu,uN,xm]<;>rfl
    | false=>
     simp only [go_sem,ya,Ae,show (i:Int)<l.length by omega,e1,e2,y8,Bool.false_eq_true];refine ⟨_,k-1,rfl,by omega,i+1,by omega,?_⟩;rw [ht,h1,wrap64 (by omega) (by omega),yT h0,vR];simp only [go_sem,ya,aA,aB hw.pu,aE _ hw.pu]<;>rfl
   ·rw [yE h0];simp only [go_sem,ya,Ae,show (i:Int)<l.length by omega,e1,h0,yG];refine ⟨_,k-1,rfl,by omega,i+1,by omega,?_⟩;rw [wrap64 (by omega) (by omega)];simp only [go_sem,ya,aA,aB hw.pu,aE _ hw.pu,y8]<;>rfl
  ·right
   simp only [go_sem,ya,Ae,show ¬(i:Int)<l.length by omega];refine ⟨_,_,rfl,by simp,_,_,_,rfl,rfl,?_⟩;rw [yD (by omega)];simp only [go_sem,ya]
end
structure Mq (P:aR) (L:Lib):Prop where
 s:K4 P L
 r:Rp P L
 l:Rl P L
 K1:Has P L 29 Kz
 Gl:Has P L 647 FW
 aor:Has P L 754 sF
 XT:Has P L 765 Cp
 Gm:Has P L 766 F2
 CE:Has P L 767 Cq
 Ki:Has P L 768 JT
 amb:ai P L 637 [] (.bool true)
def rP {v:AV} {l:List cO} (hv:eL v l) {hp:Hp}:fW hp 2 v=some (l.length,(l.map dY).flatten):=by
 have hl:=LW hv.2;rcases hv.1 with ⟨rfl,e⟩ | ⟨e,rfl⟩
 ·have:l=[]:=List.map_eq_nil_iff.1 e
  subst this;rfl
 ·rw [Rx];simp only [jt,hl,Nat.beq_refl,yp,xc]
def ahA {l:List cO}:cd ((l.map dY).flatten)=true:=by
 induction l with
 | nil=>rfl
 | cons p l ih=>rw [yW,wk];simp only [dY,xd,xL,cd,MD,ih,wC]
def akK {l:List cO}:aC ((l.map dY).flatten)=true:=by
 induction l with
 | nil=>rfl
 | cons p l ih=>rw [yW,wk];simp only [dY,xd,xL,aC,UN,ih,wC]
def It {l:List cO}:(l.map dY).flatten.length=l.length*2:=by
 have:=LW (k:=2) (ps:=l.map dY) (fun p hp=>by obtain ⟨a,_,rfl⟩:=ud.1 hp;rfl)
 rwa [xc] at this
def UA (l:List cO):eL (.aq false l.length (l.map dY).flatten) l:=by
 have:=Ux (k:=2) (ps:=l.map dY) false (fun p hp=>by obtain ⟨a,_,rfl⟩:=ud.1 hp;rfl)
 rwa [xc] at this
def UB {hp:Hp} {ct by' id:Nat} {l:List cO} {e:Bool} (hg:ap hp id=some (.cells true true e 2 [])) (h1:l.length<=1000000) (h2:by'<=100):
  sG hp ct 2 by' (.ay id 0 0) (some (l.length,(l.map dY).flatten))=some (.ay ct 0 l.length,(ct,.cells true true false 2 (l.map dY).flatten)::dc hp id,ct+1):=by
 have:=iq (by':=by') (ct:=ct) (n:=0) (m:=l.length) (new:=(l.map dY).flatten) hg (by simp) (by omega) (by have:=Nat.mul_le_mul (show 0+l.length<=1000000 by omega) h2;omega) (by decide) ahA
 rw [this,akK,yj];rfl
section
variable {P:aR} {L:Lib}
def amc (CE:Has P L 767 Cq) {v w:AV} {l m:List cO} (hv:eL v l) (hw:eL w m) (iH:¬l.length=m.length):ai P L 767 [v,w] (.av [.af,aa 2]):=by
 have q:decide ((l.length:Int)=(m.length:Int))=false:=xb (by omega);unfold ai;rw [aK CE];simp only [go_sem,ya,Cq,hv.len,hw.len,q]
def abA (h:Mq P L) {v w:AV} {l m:List cO} (hv:eL v l) (hw:eL w m) (bl:∀p,p∈l->p.1.length<9223372036854775808/\p.2.length<9223372036854775808) (bm:∀p,p∈m->p.1.length<9223372036854775808/\p.2.length<9223372036854775808):ai P L 754 [v,w] (.bool true):=by
 have ea:=h.amb;have g1:=XQ h.XT hv;have g2:=XQ h.XT hw;unfold ai at ea g1 g2;unfold ai;rw [aK h.aor]
 cases iC:CD l with
 | false=>
  rw [iC] at g1;simp only [go_sem,ya,sF,hv.ak,g1,ea]
 | true=>
  rw [iC] at g1
  cases CV:CD m with
  | false=>
   rw [CV] at g2;simp only [go_sem,ya,sF,hv.ak,hw.ak,g1,g2,ea]
  | true=>
   rw [CV] at g2;obtain ⟨l1,l2⟩:=Uz iC;obtain ⟨m1,m2⟩:=Uz CV;have fl:∀p,p∈l->p.1.length<=1000000000/\p.2.length<=1000000000:=fun p hp=>by have:=l2 p hp;omega
   have fm:∀p,p∈m->p.1.length<=1000000000/\p.2.length<=1000000000:=fun p hp=>by have:=m2 p hp;omega
   obtain ⟨x,e,e1,fx,oI⟩:=aop h.s (UA l) (UA m) (by omega) (by omega) fl fm;have e2:=XR h.l.toRm h.Gl h.Gm hv (by omega) fl;have e3:=XR h.l.toRm h.Gl h.Gm hw (by omega) fm;have e4:=XJ h.Gl (ju true [il l,il m]) (by simp);simp only [yH,yM,yj,yc,yW,wM] at e4;have z1:=fun H ct i=>UB (hp:=(i,.cells true true true 2 [])::H) (ct:=ct) (by':=32) (id:=i) (l:=l) (zM _ _ _) (by omega) (by decide)
   have z2:=fun H ct i=>UB (hp:=(i,.cells true true true 2 [])::H) (ct:=ct) (by':=32) (id:=i) (l:=m) (zM _ _ _) (by omega) (by decide)
   unfold ai at e1 e2 e3 e4;have nn:∀{b:Int},b≠0->ai P L 768 [aa b,.af] (aa b):=fun {b} hb=>by
    have:=XS h.l h.Ki (b:=b) (w:= .af) (l:=[]) (K:=1) (.inl ⟨rfl,rfl⟩) (by simp) (fun x hx=>by cases hx) (by decide)
    rw [yE hb] at this;exact this
   have sr:=ZF h.K1 (v:= .af) (w:= .af) (l:=[]) (.inl ⟨rfl,rfl⟩) (.inl ⟨rfl,rfl⟩) (by simp);unfold ai at sr;by_cases hb:bW [il l,il m]=0
   ·rw [hb] at e4;by_cases iH:l.length=m.length
    ·have h0:kQ l m=0:=by
      simp only [D7,HQ,wu] at hb;unfold kQ;simp only [D7,HQ,wu];exact ⟨hb.1,hb.2,yT iH⟩
     obtain ⟨_,He,cp,cq⟩:=Uy h0;have hq:=Wm cp cq;have hlen:=EH iH;obtain ⟨r,e5,hr⟩:=aoq h.r h.CE hv hw He iH cp cq;have e6:=XS h.l h.Ki (b:=0) hr (by omega) hq (by decide);rw [yT rfl] at e6;unfold ai at e5 e6;rcases oI with ⟨c,_⟩ | ⟨_,ha,rfl,rfl⟩ | ⟨_,ha,hx,rfl⟩
     ·exact absurd h0 c
     ·rw [ha,yT rfl] at e6;simp only [go_sem,ya,yc,xk,yz,yt,yo,sF,hv.ak,hw.ak,g1,g2,ea,rP hv,rP hw,mB,z1,z2,ll false It (show 0<2 by decide),e1,e2,e3,e4,e5,hr.ak,e6,sr,show decide ((4:Int)=0)=false from rfl]
     ·rw [ha,yE (by decide)] at e6;have e7:=ZF h.K1 hx hr (by simp;omega);unfold ai at e7;simp only [go_sem,ya,yc,xk,yz,yt,yo,sF,hv.ak,hw.ak,g1,g2,ea,rP hv,rP hw,mB,z1,z2,ll false It (show 0<2 by decide),e1,e2,e3,e4,e5,hr.ak,hx.ak,hx.bG,e6,e7]
    ·have h0:kQ l m=2:=by
      simp only [D7,HQ,wu] at hb;unfold kQ;rw [hb.1,hb.2,yE iH];rfl
     have e5:=amc h.CE hv hw iH;have e6:=nn (b:=2) (by decide);unfold ai at e5 e6;rcases oI with ⟨_,rfl,rfl⟩ | ⟨c,_⟩ | ⟨c,_⟩
     ·rw [h0] at e1;simp only [go_sem,ya,yc,xk,yz,yt,yo,sF,hv.ak,hw.ak,g1,g2,ea,rP hv,rP hw,mB,z1,z2,ll false It (show 0<2 by decide),e1,e2,e3,e4,e5,e6,sr,show decide ((2:Int)=0)=false from rfl]
     ·rw [h0] at c;exact absurd c (by decide)
     ·rw [h0] at c;exact absurd c (by decide)
   ·have h0:kQ l m=bW [il l,il m]:=by
     unfold kQ;by_cases c1:il l=0
     ·by_cases c2:il m=0
      ·exact absurd (by rw [c1,c2];rfl) hb
      ·simp only [bW,c1,c2,xm,y8]
     ·simp only [bW,c1,y8]
    have e6:=nn hb;unfold ai at e6;rcases oI with ⟨_,rfl,rfl⟩ | ⟨c,_⟩ | ⟨c,_⟩
    ·rw [h0] at e1;simp only [go_sem,ya,yc,xk,yz,yt,yo,sF,hv.ak,hw.ak,g1,g2,ea,rP hv,rP hw,mB,z1,z2,ll false It (show 0<2 by decide),e1,e2,e3,e4,e6,sr,hb,yG]
    ·rw [h0] at c;exact absurd c hb
    ·rw [h0] at c;exact absurd c hb
end
end VE
