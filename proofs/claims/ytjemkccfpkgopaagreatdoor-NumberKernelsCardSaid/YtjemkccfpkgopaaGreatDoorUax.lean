import Derived.Test.YtjemkccfpkgopaaGreatDoorUaw
import Derived.Test.YtjemkccfpkgopaaGreatDoorUav
import Derived.Test.YtjemkccfpkgopaaGreatDoorUap
import Derived.Test.YtjemkccfpkgopaaGreatDoorUai
import Derived.Test.YtjemkccfpkgopaaGreatDoorUaq
import Derived.Test.YtjemkccfpkgopaaGreatDoorUar
set_option linter.all false
set_option maxRecDepth 100000
open Bool renaming and_self→wN,and_true→ue,false_and→xO,false_eq_true→yJ,not_false→yR,not_true→yQ,true_and→xH,true_eq_false→yag
open Int renaming natAbs_natCast→xY,reduceEq→uJ,toNat_natCast→xZ
open List renaming append_nil→wA,drop→vZ,drop_eq_getElem_cons→yX,drop_eq_nil_of_le→xj,drop_left→uN,drop_zero→yH,eq_nil_of_length_eq_zero→yC,flatten_cons→wX,getD_eq_getElem?_getD→yz,getElem?_eq_getElem→yK,getElem_mem→yp,length_append→yL,length_cons→yG,length_drop→xT,length_map→yk,length_nil→yO,length_set→tF,length_take→yI,map→wE,map_append→xy,map_cons→xe,map_nil→vE,replicate→yq,replicate_succ→wH,set_eq_take_append_cons_drop→vz,take_left→uM,take_length→xx,take_of_length_le→yN,take_succ_eq_append_getElem→xa,take_zero→tO
open Nat renaming beq→yx,beq_refl→vd,ble→yF,ble_eq_true_of_le→yt,gcd→wz,le_of_ble_eq_true→yA,le_refl→yo,le_trans→xf,lt_of_lt_of_le→yV,min_eq_left→xE,mul_one→yi,not_lt_zero→yaK,pow_le_pow_right→xb,reduceAdd→yb,reduceEqDiff→ya,reduceLT→yM,reduceLeDiff→yy,reduceMul→xM,zero_add→yg,zero_le→uG
open Option.some renaming inj→uD
namespace VE
section
open Go (IntKind)
section
variable {P:aH} {L:Lib}
def Mf {K:Nat} {a:Rat} (h:Hq K a):(RT a).length<=2*K+3:=by
 have h1:=G9 h.1;have h2:=G9 h.2;rw [jL] at h2;unfold RT
 grind
def LV {K:Nat} {z:Int} (h:Bd K z):(aw z.natAbs).length<=K+1:=by
 have:=G9 (z:=(z.natAbs:Int)) (k:=K) (by unfold Bd at h ⊢;omega)
 rwa [jL] at this
def MB (h:Rm P L) {a:Rat} {K:Nat} (ka:Hq K a) (hK:K<=8000000000):∃x y,ak P L 274 [.str (RT a)] (.ae [x,y])/\jJ x a.num/\jJ y (a.den:Int):=by
 have h1:=LV ka.1;have h2:=LV ka.2
 exact aj1 h.toRb (n:=a.num) (d:=a.den) (by omega) (by simpa using (by omega:(aw ((a.den:Int)).natAbs).length<=144000000000))
def azj (h:Rm P L) {n:Int} {d:Nat} (hl:(TT n d).length<=100000000000) (h00:n=0->d=1):ak P L 262 [.str (TT n d)] (ab (db n)):=by
 unfold ak;rw [aI h.aA6];by_cases h0:n<0
 ·have bN:=ahH (n:=n) (d:=d) (by omega);rw [axz h0] at bN ⊢;simp only [go_sem,ya,IQ,jN,bN,show (0:Int)<(((TT (-n) d).length+1:Nat):Int) by omega,Cz,yu];unfold db;rw [yE h0]
 ·by_cases h1:n=0
  ·subst h1
   have:=h00 rfl
   subst this;rw [show TT 0 1=[48] by decide];simp only [go_sem,ya,IQ,jN,show cU [48] [48]=true from rfl];rfl
  ·have bN:=ahH (n:=n) (d:=d) h1;obtain ⟨b,u,hb,mi⟩:=atB (d:=d) h0;rw [hb] at bN ⊢;simp only [go_sem,ya,IQ,jN,bN,show (0:Int)<((u.length+1:Nat):Int) by omega,show mz 0 (.str (b::u))=some (.int .u8 (b:Nat)) from rfl,show ¬((b:Nat):Int)=45 by omega];unfold db;rw [yr h0,yr h1]
end
end
section
open Go (IntKind)
def afK (n:Int) (d:Nat):Ry true n d= .ae [ab n,ab d,.bool true]:=rfl
def Iw {a b:Int} (ha:a.natAbs<1000000000) (hb:b.natAbs<1000000000):(a*b).natAbs<1000000000000000000:=by
 rw [Int.natAbs_mul];exact yV (Nat.mul_lt_mul'' ha hb) (by decide)
section
variable {P:aH} {L:Lib}
def ahL (h:Rm P L) {a b:Int} (ha: -4000000000000000000<=a/\a<=4000000000000000000) (hb:0<b/\b<=4000000000000000000):ak P L 277 [ab a,ab b] (.str (RT (Rat.divInt a b))):=by
 rw [afJ hb.1];exact aAa h.aA7 h.Xd h.pT ha hb
def MC (h:Rp P L) {a:Rat} {K:Nat} (ka:Hq K a) (hK:K<=8000000000):∃q:Bool,ak P L 276 [.str (RT a)] (Ry q a.num a.den)/\(q=true->a.num.natAbs<1000000000/\a.den<1000000000):=
 aAb h.aBa h.AF h.sZ (n:=a.num) (d:=a.den) (by have:=Mf ka;rw [ahI] at this;omega)
def ahM (h:Rn P L) {a b:Rat} {K M:Nat} (ka:Hq K a) (kb:Hq M b) (hK:K+M<=8000000000):ak P L 267 [.str (RT a),.str (RT b)] (.str (RT (a*b))):=by
 obtain ⟨q1,e1,b1⟩:=MC h.toRp ka (by omega);obtain ⟨q2,e2,b2⟩:=MC h.toRp kb (by omega);have aBk:=Dk a b;by_cases hq:(q1=true/\q2=true)
 ·obtain ⟨rfl,rfl⟩:=hq;obtain ⟨b11,b12⟩:=b1 rfl;obtain ⟨b21,b22⟩:=b2 rfl;have p1:=Iw b11 b21;have p2:=Iw (a:=(a.den:Int)) (b:=(b.den:Int)) (by omega) (by omega);have e3:=ahL h.toRm (a:=a.num*b.num) (b:=(a.den:Int)*b.den) (by omega) (by omega);rw [<-mul_eq] at e3;rw [afK] at e1 e2;unfold ak at e1 e2 e3 ⊢;rw [aI h.ajX]
  simp only [go_sem,ya,IS,e1,e2,wrap64 (n:=a.num*b.num) (by omega) (by omega),wrap64 (n:=(a.den:Int)*(b.den:Int)) (by omega) (by omega),e3]
 ·have bK:∃n1 d1 n2 d2,bH P L (D P L) 276 [.str (RT a)]=some (.ae [ab n1,ab d1,.bool q1])/\bH P L (D P L) 276 [.str (RT b)]=some (.ae [ab n2,ab d2,.bool q2]):=by
   cases q1<;>cases q2<;>exact ⟨_,_,_,_,e1,e2⟩
  obtain ⟨n1,d1,n2,d2,e1,e2⟩:=bK;obtain ⟨x,y,e3,hx,hy⟩:=MB h.toRm ka (by omega);obtain ⟨z,w,e4,hz,hw⟩:=MB h.toRm kb (by omega);have E3:max K M<=8000000000:=by omega
  obtain ⟨r,e5,hr⟩:=Jw (K:=max K M) h.Jy h.jZ h.iW h.cR E3 hx hz (ka.1.mono (by omega)).r (kb.1.mono (by omega)).r;obtain ⟨s,e6,hs⟩:=Jw (K:=max K M) h.Jy h.jZ h.iW h.cR E3 hy hw (ka.2.mono (by omega)).r (kb.2.mono (by omega)).r;have e7:=ahK h.toRm hK hr hs (ka.1.mul kb.1) (ka.2.mul kb.2) (by omega);rw [<-mul_eq] at e7;obtain ⟨xw,xl,rfl,eQ,_,_,_⟩:=hx;obtain ⟨yw,yl,rfl,eR,_,_,_⟩:=hy;obtain ⟨zw,zl,rfl,nS,_,_,_⟩:=hz;obtain ⟨ww,wl,rfl,li,_,_,_⟩:=hw;obtain ⟨rw',rl,rfl,pV,_,_,_⟩:=hr;obtain ⟨sw,sl,rfl,jI,_,_,_⟩:=hs;have hb:¬(q1=true/\q2=true):=hq;unfold ak at e3 e4 e5 e6 e7 ⊢;rw [aI h.ajX]
  cases q1 with
  | false=>
   simp only [go_sem,ya,yb,IS,bg,e1,e2,e3,e4,eQ.pu,eQ.ao,eQ.one,eR.pu,eR.ao,eR.one,nS.pu,nS.ao,nS.one,li.pu,li.ao,li.one,pV.ao,jI.ao,cG,bW,Bz,gj,Ic,e5,e6,e7]
  | true=>
   cases q2 with
   | true=>exact absurd ⟨rfl,rfl⟩ hb
   | false=>
    simp only [go_sem,ya,yb,IS,bg,e1,e2,e3,e4,eQ.pu,eQ.ao,eQ.one,eR.pu,eR.ao,eR.one,nS.pu,nS.ao,nS.one,li.pu,li.ao,li.one,pV.ao,jI.ao,cG,bW,Bz,gj,Ic,e5,e6,e7]
def ahN (h:Rp P L) {a b:Rat} {K M:Nat} (ka:Hq K a) (kb:Hq M b) (hK:K+M+1<=8000000000):ak P L 264 [.str (RT a),.str (RT b)] (.str (RT (a+b))):=by
 obtain ⟨q1,e1,b1⟩:=MC h ka (by omega);obtain ⟨q2,e2,b2⟩:=MC h kb (by omega);have aBk:=Dk a b;by_cases hq:(q1=true/\q2=true)
 ·obtain ⟨rfl,rfl⟩:=hq;obtain ⟨b11,b12⟩:=b1 rfl;obtain ⟨b21,b22⟩:=b2 rfl;have p1:=Iw (a:=a.num) (b:=(b.den:Int)) (by omega) (by omega);have p2:=Iw (a:=b.num) (b:=(a.den:Int)) (by omega) (by omega);have p3:=Iw (a:=(a.den:Int)) (b:=(b.den:Int)) (by omega) (by omega);have e3:=ahL h.toRm (a:=a.num*b.den+b.num*a.den) (b:=(a.den:Int)*b.den) (by omega) (by omega);rw [<-add_eq] at e3;rw [afK] at e1 e2;unfold ak at e1 e2 e3 ⊢;rw [aI h.ajW]
  simp only [go_sem,ya,IR,e1,e2,wrap64 (n:=a.num*(b.den:Int)) (by omega) (by omega),wrap64 (n:=b.num*(a.den:Int)) (by omega) (by omega),wrap64 (n:=a.num*(b.den:Int)+b.num*(a.den:Int)) (by omega) (by omega),wrap64 (n:=(a.den:Int)*(b.den:Int)) (by omega) (by omega),e3]
 ·have bK:∃n1 d1 n2 d2,bH P L (D P L) 276 [.str (RT a)]=some (.ae [ab n1,ab d1,.bool q1])/\bH P L (D P L) 276 [.str (RT b)]=some (.ae [ab n2,ab d2,.bool q2]):=by
   cases q1<;>cases q2<;>exact ⟨_,_,_,_,e1,e2⟩
  obtain ⟨n1,d1,n2,d2,e1,e2⟩:=bK;obtain ⟨x,y,e3,hx,hy⟩:=MB h.toRm ka (by omega);obtain ⟨z,w,e4,hz,hw⟩:=MB h.toRm kb (by omega);have E3:max K M<=8000000000:=by omega
  obtain ⟨r,e5,hr⟩:=Jw (K:=max K M) h.Jy h.jZ h.iW h.cR E3 hx hw (ka.1.mono (by omega)).r (kb.2.mono (by omega)).r;obtain ⟨r2,Zp,mh⟩:=Jw (K:=max K M) h.Jy h.jZ h.iW h.cR E3 hz hy (kb.1.mono (by omega)).r (ka.2.mono (by omega)).r;obtain ⟨s,e6,hs⟩:=Jw (K:=max K M) h.Jy h.jZ h.iW h.cR E3 hy hw (ka.2.mono (by omega)).r (kb.2.mono (by omega)).r;have k1:Bd (K+M) (a.num*b.den):=ka.1.mul kb.2;have k2:Bd (K+M) (b.num*a.den):=(kb.1.mul ka.2).mono (by omega);obtain ⟨t,e8,ht⟩:=aAY (K:=K+M) h.aBb h.XI h.nD h.Og h.mN h.iW h.cR (by omega) hr mh k1.r k2.r;have e7:=ahK h.toRm hK ht hs (k1.Xr k2) ((ka.2.mul kb.2).mono (by omega)) (by omega);rw [<-add_eq] at e7;obtain ⟨xw,xl,rfl,eQ,_,_,_⟩:=hx;obtain ⟨yw,yl,rfl,eR,_,_,_⟩:=hy;obtain ⟨zw,zl,rfl,nS,_,_,_⟩:=hz;obtain ⟨ww,wl,rfl,li,_,_,_⟩:=hw;obtain ⟨rw',rl,rfl,pV,_,_,_⟩:=hr
  obtain ⟨rw2,rl2,rfl,aj2,_,_,_⟩:=mh;obtain ⟨tw,tl,rfl,htw,_,_,_⟩:=ht;obtain ⟨sw,sl,rfl,jI,_,_,_⟩:=hs;have hb:¬(q1=true/\q2=true):=hq;unfold ak at e3 e4 e5 Zp e6 e7 e8 ⊢;rw [aI h.ajW]
  cases q1 with
  | false=>
   simp only [go_sem,ya,yb,IR,bg,e1,e2,e3,e4,eQ.pu,eQ.ao,eQ.one,eR.pu,eR.ao,eR.one,nS.pu,nS.ao,nS.one,li.pu,li.ao,li.one,pV.ao,aj2.ao,htw.ao,jI.ao,cG,bW,Bz,gj,Ic,e5,Zp,e8,e6,e7]
  | true=>
   cases q2 with
   | true=>exact absurd ⟨rfl,rfl⟩ hb
   | false=>
    simp only [go_sem,ya,yb,IR,bg,e1,e2,e3,e4,eQ.pu,eQ.ao,eQ.one,eR.pu,eR.ao,eR.one,nS.pu,nS.ao,nS.one,li.pu,li.ao,li.one,pV.ao,aj2.ao,htw.ao,jI.ao,cG,bW,Bz,gj,Ic,e5,Zp,e8,e6,e7]
end
end
section
open Go (IntKind)
def abB {P:aH} {L:Lib} (a b c d:VC) (s:St):D P L (.seq a (.seq b (.seq c d))) s=mC P L (D P L (.seq a (.seq b c)) s) d:=by
 have e:=BC (P:=P) (L:=L) b c d;rw [jw,jw]
 cases D P L a s with
 | none=>rfl
 | some q=>
  obtain ⟨ex,st⟩:=q
  cases ex with
  | normal=>rw [fD,fD];exact e st
  | ret=>rfl
  | exit id=>rfl
def nl {a b:List Nat} (h:a≠b):cU a b=false:=by
 cases hb:cU a b with
 | false=>rfl
 | true=>exact absurd (QD hb) h
def Hk:∀a:List Nat,cU a a=true
 | []=>rfl
 | x::a=>by simp [cU,Hk a]
def RI {a b:List Nat} (h:a=b):cU a b=true:=h▸Hk a
def aph {s:List Nat} {i:Nat} (h:i<s.length):cZ (s.drop i)=(yF 48 s[i]&&yF s[i] 57&&cZ (s.drop (i+1))):=by
 rw [yX h];rfl
section
variable {P:aH} {L:Lib}
def aBl (h:Has P L 287 IV) {s:List Nat} (hl:s.length<9223372036854775808):ak P L 287 [.str s] (.bool (cZ s)):=by
 have key:=fN (P:=P) (L:=L) (live:=[0,3]) (a:=BU)
  (I:=fun k st=>∃i:Nat,st=⟨[(0,.str s),(3,ab i)],[],0,0⟩/\i+k=s.length/\cZ (s.drop i)=cZ s)
  (Q:=fun ex st=>∃tm ct,st=⟨tm,[],ct,0⟩/\((ex= .ret/\aj tm 2= .bool false/\cZ s=false)\/(ex= .exit 0/\cZ s=true))) ?_
 ·unfold ak;rw [aI h];simp only [go_sem,IV];generalize hq:D P L (.loop [0,3] BU) _=q;obtain ⟨ex,st,rfl,tm,ct,rfl,h2⟩:=bI hq (key s.length) ⟨0,by simp only [go_sem,ya,av]<;>rfl,by omega,by simp⟩
  rcases h2 with ⟨rfl,h2,h3⟩ | ⟨rfl,h3⟩
  ·simp only [go_sem,h2,h3]
  ·simp only [go_sem,av,h3]
 ·rintro k st ⟨i,rfl,hk,hs⟩;by_cases hi:i<s.length
  ·rw [aph hi] at hs;by_cases h1:s[i]<48
   ·right
    have e:yF 48 s[i]=false:=by
     cases hb:yF 48 s[i] with
     | false=>rfl
     | true=>have:=yA hb;omega
    rw [e,xO,xO] at hs;simp only [go_sem,ya,BU,show (i:Int)<s.length by omega,pH hi,show ((s[i]:Nat):Int)<48 by omega,yu];exact ⟨_,_,rfl,by simp,_,_,rfl,.inl ⟨rfl,by simp only [go_sem],hs.symm⟩⟩
   ·by_cases h2:57<s[i]
    ·right
     have e:yF s[i] 57=false:=by
      cases hb:yF s[i] 57 with
      | false=>rfl
      | true=>have:=yA hb;omega
     rw [e,Bool.and_false,xO] at hs;simp only [go_sem,ya,BU,show (i:Int)<s.length by omega,pH hi,show ¬((s[i]:Nat):Int)<48 by omega,yv,show (57:Int)<((s[i]:Nat):Int) by omega];exact ⟨_,_,rfl,by simp,_,_,rfl,.inl ⟨rfl,by simp only [go_sem],hs.symm⟩⟩
    ·left
     rw [yt (show 48<=s[i] by omega),yt (show s[i]<=57 by omega),xH,xH] at hs;simp only [go_sem,ya,BU,show (i:Int)<s.length by omega,pH hi,show ¬((s[i]:Nat):Int)<48 by omega,yv,show ¬(57:Int)<((s[i]:Nat):Int) by omega];refine ⟨_,k-1,rfl,by omega,i+1,?_,by omega,hs⟩;rw [wrap64 (by omega) (by omega)];simp only [go_sem,ya,av]<;>rfl
  ·right
   simp only [go_sem,ya,BU,show ¬(i:Int)<s.length by omega];refine ⟨_,_,rfl,by simp,_,_,rfl,.inr ⟨rfl,?_⟩⟩;rw [<-hs,xj (by omega)];rfl
def Oi (h:Has P L 273 Cr) (E2:Has P L 287 IV) {s:List Nat} (hl:s.length<9223372036854775808):ak P L 273 [.str s] (.bool (dw s)):=by
 have e:=aBl E2 hl;unfold ak at e ⊢;rw [aI h]
 match s,hl,e with
 | [],_,_=>
  simp only [go_sem,ya,Cr,yO,show ((0:Nat):Int)=0 from rfl,yu];rfl
 | [b],_,e=>
  have:dw [b]=cZ [b]:=by simp [dw]
  rw [this];simp only [go_sem,ya,Cr,yG,yO,yg,show ¬((1:Nat):Int)=0 by decide,show ¬(1:Int)<((1:Nat):Int) by decide,yv,e]
 | b::c::r,hl,e=>
  have hd:dw (b::c::r)=(cZ (b::c::r)&& !(yx b 48)):=by simp [dw]
  rw [hd];have A3:r.length+2<9223372036854775808:=by simpa using hl
  by_cases hb:b=48
  ·subst hb;simp only [go_sem,ya,Cr,yG,show ¬((r.length+1+1:Nat):Int)=0 by omega,yv,show (1:Int)<((r.length+1+1:Nat):Int) by omega,show mz 0 (.str (48::c::r))=some (.int .u8 48) from rfl,yu]
   simp
  ·have:yx b 48=false:=fY hb
   rw [this,yR,ue];simp only [go_sem,ya,Cr,yG,show ¬((r.length+1+1:Nat):Int)=0 by omega,yv,show (1:Int)<((r.length+1+1:Nat):Int) by omega,show mz 0 (.str (b::c::r))=some (.int .u8 (b:Nat)) from rfl,show ¬((b:Nat):Int)=48 by omega,e]
def acB {s:List Nat} {k:Nat} (h:k<=s.length):ic s (some 0) (some k)=some (.str (s.take k)):=by
 rw [lF (by omega) h,yH]
def Lu {s:List Nat} {k:Nat} (h:k<=s.length):ic s (some k) (some s.length)=some (.str (s.drop k)):=by
 rw [lF h (yo _),xx]
def axB (h:Rm P L) {t:List Nat} {k:Nat} (hk:k=bU t) (hl:t.length<9223372036854775808) (hp:dw (t.take k)=true) {tm:Env} (t3:aj tm 3= .str t) (t4:aj tm 4=ab k):
  fR [.t 2] (D P L (aA (aA (aA (aA (aA dd.body))))) ⟨tm,[],0,0⟩)=some (ab (
   if k<t.length/\(dw (t.drop (k+1))=false\/t.drop (k+1)=[48]\/t.drop (k+1)=[49]) then 1
   else if 600<k\/600<t.length-k-1 then 4
   else if k<t.length/\wz (fc (t.take k)) (fc (t.drop (k+1)))≠1 then 1
   else 0)):=by
 have Zg:k<=t.length:=by rw [hk];exact G8 t
 have e3:=Oi h.Oh h.E2 (s:=t.drop (k+1)) (by rw [xT];omega);unfold ak at e3;have Bo:(k:Int)+1=((k+1:Nat):Int):=rfl;by_cases hs:k<t.length
 ·have c2:=Lu (s:=t) (k:=k+1) (by omega);have ju:=ZO t (by omega);rw [<-hk] at ju;have Kr:(t.drop (k+1)).length=t.length-k-1:=by rw [xT];omega
  have hlp:(t.take k).length=k:=by rw [yI];omega
  generalize hqe:t.drop (k+1)=q at*
  generalize hpe:t.take k=p at*
  cases hd:dw q with
  | false=>
   rw [yE ⟨hs,.inl rfl⟩];rw [hd] at e3
   simp only [go_sem,ya,dd,aA,t3,t4,show (k:Int)<(t.length:Int) by omega,yu,Bo,wrapN (n:=k+1) (by omega),eG,eU,dD,c2,e3,yR]
  | true=>
   rw [hd] at e3;by_cases jb:q=[48]
   ·rw [yE ⟨hs,.inr (.inl jb)⟩]
    simp only [go_sem,ya,dd,aA,t3,t4,show (k:Int)<(t.length:Int) by omega,yu,Bo,wrapN (n:=k+1) (by omega),eG,eU,dD,c2,e3,yQ,jN,RI jb]
   ·by_cases nQ:q=[49]
    ·rw [yE ⟨hs,.inr (.inr nQ)⟩]
     simp only [go_sem,ya,dd,aA,t3,t4,show (k:Int)<(t.length:Int) by omega,yu,Bo,wrapN (n:=k+1) (by omega),eG,eU,dD,c2,e3,yQ,jN,nl jb,RI nQ]
    ·rw [yr (by simp only [hs,uX,yag,ybv];exact fun e=>e.elim jb nQ)]
     by_cases zm:600<k
     ·rw [yE (.inl zm)]
      simp only [go_sem,ya,dd,aA,t3,t4,show (k:Int)<(t.length:Int) by omega,yu,Bo,wrapN (n:=k+1) (by omega),eG,eU,dD,c2,e3,yQ,jN,nl jb,nl nQ,show (600:Int)<(k:Int) by omega]
     ·by_cases aBm:600<t.length-k-1
      ·rw [yE (.inr aBm)]
       simp only [go_sem,ya,dd,aA,t3,t4,show (k:Int)<(t.length:Int) by omega,yu,Bo,wrapN (n:=k+1) (by omega),eG,eU,dD,c2,e3,yQ,jN,nl jb,nl nQ,show ¬(600:Int)<(k:Int) by omega,yv,show (t.length:Int)-(k:Int)=((t.length-k:Nat):Int) by omega,wrapN (n:=t.length-k) (by omega),show ((t.length-k:Nat):Int)-1=((t.length-k-1:Nat):Int) by omega,wrapN (n:=t.length-k-1) (by omega),show (600:Int)<((t.length-k-1:Nat):Int) by omega]
      ·rw [yr (by omega)];have p7:=Dv _ rfl hp;have nR:=Dv _ rfl hd;have fX:fc q≠0:=fun e=>jb (by rw [<-nR,e];rfl)
       have iC:fc q≠1:=fun e=>nQ (by rw [<-nR,e];rfl)
       generalize fc p=n at*
       generalize fc q=d at*
       have hT:TT (n:Int) d=t:=by
        unfold TT;rw [jL,yr iC,p7,nR];exact ju.symm
       obtain ⟨x,y,e4,hx,hy⟩:=aj1 h.toRb (n:=(n:Int)) (d:=d) (by rw [xY,p7];omega) (by rw [nR];omega);rw [hT] at e4;obtain ⟨xw,xl,rfl,eQ,dx,nx,vx⟩:=hx;obtain ⟨yw,yl,rfl,eR,dy,ny,vy⟩:=hy;rw [xY] at vx vy;have oY:n<10^p.length:=by rw [<-p7];exact Hy n
       have hdb:d<10^q.length:=by rw [<-nR];exact Hy d
       obtain ⟨K,hK⟩:∃K:Nat,K=600:=⟨_,rfl⟩;have OX:∀{m j:Nat},m<10^j->j<=K->m<1000000000^K:=fun {m j} h1 h2=>
        yV h1 (xf (xb (by decide) h2) (Nat.pow_le_pow_left (by decide) K))
       have lxl:=iP dx nx (by rw [vx];exact OX oY (by omega))
       have lyl:=iP dy ny (by rw [vy];exact OX hdb (by omega))
       obtain ⟨g,lg,e5,hg,dgg,ngg,vg⟩:=ahF h.ajS h.Jx h.jZ h.nD h.oM h.cR h.pU eQ eR dx dy nx ny (by omega) (by omega);rw [vx,vy] at vg;have JR:0<wz n d:=Nat.gcd_pos_of_pos_right _ (by omega);unfold ak at e4 e5;by_cases XL:lg.length=1
       ·obtain ⟨z,rfl⟩:∃z,lg=[z]:=by
         cases lg with
         | nil=>simp at XL
         | cons z r=>cases r with
          | nil=>exact ⟨z,rfl⟩
          | cons y r=>simp at XL
        have gz:=kK.1 dgg;have Kw:z=(wz n d:Nat):=by simp [dv] at vg;omega
        have e8:=hg.aM (i:=0) (by simp);simp only [List.getElem_cons_zero] at e8;by_cases gT:wz n d=1
        ·rw [yr (by simp [gT])]
         simp only [go_sem,ya,yb,dd,aA,t3,t4,show (k:Int)<(t.length:Int) by omega,yu,Bo,wrapN (n:=k+1) (by omega),eG,eU,dD,c2,e3,yQ,jN,nl jb,nl nQ,show ¬(600:Int)<(k:Int) by omega,yv,show (t.length:Int)-(k:Int)=((t.length-k:Nat):Int) by omega,wrapN (n:=t.length-k) (by omega),show ((t.length-k:Nat):Int)-1=((t.length-k-1:Nat):Int) by omega,wrapN (n:=t.length-k-1) (by omega),show ¬(600:Int)<((t.length-k-1:Nat):Int) by omega,e4,bg,eQ.pu,eQ.ao,eQ.one,eR.pu,eR.ao,eR.one,gj,bY,yg,cX,e5,hg.len,hg.shut,yG,yO,show ((1:Nat):Int)=(1:Int) from rfl,yQ,e8,Kw,gT]
        ·rw [yE ⟨hs,gT⟩]
         simp only [go_sem,ya,yb,dd,aA,t3,t4,show (k:Int)<(t.length:Int) by omega,yu,Bo,wrapN (n:=k+1) (by omega),eG,eU,dD,c2,e3,yQ,jN,nl jb,nl nQ,show ¬(600:Int)<(k:Int) by omega,yv,show (t.length:Int)-(k:Int)=((t.length-k:Nat):Int) by omega,wrapN (n:=t.length-k) (by omega),show ((t.length-k:Nat):Int)-1=((t.length-k-1:Nat):Int) by omega,wrapN (n:=t.length-k-1) (by omega),show ¬(600:Int)<((t.length-k-1:Nat):Int) by omega,e4,bg,eQ.pu,eQ.ao,eQ.one,eR.pu,eR.ao,eR.one,gj,bY,yg,cX,e5,hg.len,hg.shut,yG,yO,show ((1:Nat):Int)=(1:Int) from rfl,yQ,e8,Kw,show ¬((wz n d:Nat):Int)=1 by omega,yR]
       ·have gT:wz n d≠1:=fun e=>XL (by
         have h1:lg.length<=1:=afI dgg ngg (by omega);have h2:0<lg.length:=by
          rcases Nat.eq_zero_or_pos lg.length with h0 | h0
          ·rw [yC h0] at vg;simp [dv] at vg;omega
          ·exact h0
         omega)
        rw [yE ⟨hs,gT⟩]
        simp only [go_sem,ya,yb,dd,aA,t3,t4,show (k:Int)<(t.length:Int) by omega,yu,Bo,wrapN (n:=k+1) (by omega),eG,eU,dD,c2,e3,yQ,jN,nl jb,nl nQ,show ¬(600:Int)<(k:Int) by omega,yv,show (t.length:Int)-(k:Int)=((t.length-k:Nat):Int) by omega,wrapN (n:=t.length-k) (by omega),show ((t.length-k:Nat):Int)-1=((t.length-k-1:Nat):Int) by omega,wrapN (n:=t.length-k-1) (by omega),show ¬(600:Int)<((t.length-k-1:Nat):Int) by omega,e4,bg,eQ.pu,eQ.ao,eQ.one,eR.pu,eR.ao,eR.one,gj,bY,yg,cX,e5,hg.len,hg.shut,show ¬(lg.length:Int)=1 by omega,yR]
 ·have hkt:k=t.length:=by omega
  rw [yr (by omega)];by_cases zm:600<k
  ·rw [yE (.inl zm)];simp only [go_sem,ya,dd,aA,t3,t4,show ¬(k:Int)<(t.length:Int) by omega,yv,show (600:Int)<(k:Int) by omega,yu]
  ·rw [yr (by omega),yr (by omega)]
   simp only [go_sem,ya,dd,aA,t3,t4,show ¬(k:Int)<(t.length:Int) by omega,yv,show ¬(600:Int)<(k:Int) by omega,show (t.length:Int)-(k:Int)=((t.length-k:Nat):Int) by omega,wrapN (n:=t.length-k) (by omega),show ((t.length-k:Nat):Int)-1= -1 by omega,show IntKind.wrap .i64 (-1)= -1 by rfl,show ¬(600:Int)<(-1:Int) by omega]
def agZ (h:Rm P L) {b:Nat} {r:List Nat} {t:List Nat} {neg:Bool} (gC:decide (((b:Nat):Int)=45)=neg) (hl:t.length<9223372036854775808) {tm:Env} (t0:aj tm 0= .str (b::r)) (t3:aj tm 3= .str t):
  fR [.t 2] (D P L (aA (aA (aA dd.body))) ⟨tm,[],0,0⟩)=some (ab (mb neg t)):=by
 obtain ⟨k,hk⟩:∃k,k=bU t:=⟨_,rfl⟩;have Zg:k<=t.length:=by rw [hk];exact G8 t
 have e1:=EU h.AF (s:=t) (by omega);have e2:=Oi h.Oh h.E2 (s:=t.take k) (by rw [yI];omega);have e3:=Oi h.Oh h.E2 (s:=t.drop (k+1)) (by rw [xT];omega);unfold mb;rw [<-hk] at e1 ⊢;have c1:=acB Zg;have hI:mz 0 (.str (b::r))=some (.int .u8 (b:Nat)):=rfl;unfold ak at e1 e2 e3;generalize hp:t.take k=p at*
 generalize hq:t.drop (k+1)=q at*
 cases hd:dw p with
 | false=>
  rw [yE (.inl rfl)];rw [hd] at e2;simp only [go_sem,ya,dd,aA,t3,e1,eG,eU,dD,c1,e2,yR]
 | true=>
  rw [hd] at e2;by_cases hz:neg=true/\p=[48]
  ·rw [yE (.inr hz)];obtain ⟨z1,z2⟩:=hz;rw [z1] at gC;have hb:=of_decide_eq_true gC;subst z2;simp only [go_sem,ya,dd,aA,t0,t3,e1,eG,eU,dD,c1,e2,yQ,hI,hb,yu,jN,show cU [48] [48]=true from rfl]
  ·rw [yr (by simp only [yag,ybv];exact hz)]
   have fin:∀cg,aj cg 3= .str t->aj cg 4=ab k->D P L (.seq (bB (aA (aA (aA dd.body)))) (bB (aA (aA (aA (aA dd.body)))))) ⟨tm,[],0,0⟩=some (.normal,⟨cg,[],0,0⟩)->fR [.t 2] (D P L (aA (aA (aA dd.body))) ⟨tm,[],0,0⟩)=some (ab (
     if k<t.length/\(dw q=false\/q=[48]\/q=[49]) then 1
     else if 600<k\/600<t.length-k-1 then 4
     else if k<t.length/\wz (fc p) (fc q)≠1 then 1
     else 0)):=fun cg f3 f4 e=>by
    show fR [.t 2] (D P L (.seq (bB (aA (aA (aA dd.body)))) (.seq (bB (aA (aA (aA (aA dd.body))))) (aA (aA (aA (aA (aA dd.body))))))) ⟨tm,[],0,0⟩)=_
    rw [BC,e,fD,<-hp,<-hq];exact axB h hk hl (by rw [hp];exact hd) f3 f4
   by_cases hb:((b:Nat):Int)=45
   ·have aBn:p≠[48]:=fun e=>hz ⟨by rw [<-gC];exact xi hb,e⟩
    refine fin _ ?_ ?_ (by simp only [go_sem,ya,dd,bB,aA,t0,t3,e1,eG,eU,dD,c1,e2,yQ,hI,hb,yu,jN,nl aBn]<;>rfl)<;>simp only [go_sem,ya,t3]
   ·refine fin _ ?_ ?_ (by simp only [go_sem,ya,dd,bB,aA,t0,t3,e1,eG,eU,dD,c1,e2,yQ,hI,hb,yv]<;>rfl)<;>simp only [go_sem,ya,t3]
def aj3 (h:Rm P L) {s:List Nat} (hl:s.length<9223372036854775808):ak P L 263 [.str s] (ab (cu s)):=by
 unfold ak;rw [aI h.aBf]
 cases s with
 | nil=>
  have e1:=EU h.AF (s:=[]) (by simp);have e2:=Oi h.Oh h.E2 (s:=[]) (by simp);unfold ak at e1 e2;have hc:ic [] (some 0) (some 0)=some (.str []):=rfl;simp only [go_sem,ya,dd,yO,show ¬(0:Int)<((0:Nat):Int) by decide,yv,e1,bU,eG,eU,dD,hc,e2,show dw []=false from rfl,yR];rfl
 | cons b t=>
  have A3:t.length+1<9223372036854775808:=by simpa using hl
  have hI:mz 0 (.str (b::t))=some (.int .u8 (b:Nat)):=rfl;by_cases hb:b=45
  ·subst hb;have fin:∀cg,aj cg 0= .str (45::t)->aj cg 3= .str t->D P L (.seq (bB dd.body) (.seq (bB (aA dd.body)) (bB (aA (aA dd.body))))) ⟨[(0,.str (45::t))],[],0,0⟩=some (.normal,⟨cg,[],0,0⟩)->fR [.t 2] (D P L dd.body ⟨[(0,.str (45::t))],[],0,0⟩)=some (ab (cu (45::t))):=fun cg f0 f3 e=>by
    show fR [.t 2] (D P L (.seq (bB dd.body) (.seq (bB (aA dd.body)) (.seq (bB (aA (aA dd.body))) (aA (aA (aA dd.body)))))) ⟨[(0,.str (45::t))],[],0,0⟩)=_
    rw [abB,e,fD]
    exact agZ h (b:=45) rfl (by omega) f0 f3
   have hc:ic (45::t) (some 1) (some (t.length+1))=some (.str t):=by
    have:=Lu (s:=45::t) (k:=1) (by simp)
    simpa using this
   refine fin _ ?_ ?_ (by simp only [go_sem,ya,dd,bB,aA,yG,show (0:Int)<((t.length+1:Nat):Int) by omega,yu,Cz,eG,eU,dD,hc]<;>rfl)<;>simp only [go_sem,ya]
  ·have fin:∀cg,aj cg 0= .str (b::t)->aj cg 3= .str (b::t)->D P L (.seq (bB dd.body) (.seq (bB (aA dd.body)) (bB (aA (aA dd.body))))) ⟨[(0,.str (b::t))],[],0,0⟩=some (.normal,⟨cg,[],0,0⟩)->fR [.t 2] (D P L dd.body ⟨[(0,.str (b::t))],[],0,0⟩)=some (ab (cu (b::t))):=fun cg f0 f3 e=>by
    show fR [.t 2] (D P L (.seq (bB dd.body) (.seq (bB (aA dd.body)) (.seq (bB (aA (aA dd.body))) (aA (aA (aA dd.body)))))) ⟨[(0,.str (b::t))],[],0,0⟩)=_
    rw [abB,e,fD]
    have:=agZ h (b:=b) (neg:=false) (y7 (by omega)) (by simpa using hl) f0 f3
    rw [this];simp only [cu,yr hb]
   refine fin _ ?_ ?_ (by simp only [go_sem,ya,dd,bB,aA,yG,show (0:Int)<((t.length+1:Nat):Int) by omega,yu,hI,show ¬((b:Nat):Int)=45 by omega]<;>rfl)<;>simp only [go_sem,ya]
end
end
section
open Go (IntKind)
def b6 (v:AV) (l:List (List Nat)):Prop:=cT v (l.map AV.str)
section
variable {v:AV} {l:List (List Nat)}
def b6.len (h:b6 v l) {hp:Hp}:fp hp 1 v=some (.int .i64 (l.length:Nat)):=by
 have:=cT.len (hp:=hp) h
 grind
def b6.pu (h:b6 v l):aZ v=true:=cT.pu h
def b6.ao (h:b6 v l) (n:Nat) {hp:Hp}:freeze (n+1) hp v=some (v,hp):=cT.ao h n
def b6.one (h:b6 v l):dc v=true:=cT.one h
def b6.cells (h:b6 v l):cellsOf v=[v]:=cT.cells h
def b6.aM (h:b6 v l) {i:Nat} (hi:i<l.length):jv 1 i v=some (.bZ (.str l[i]::(l.map AV.str).drop (i+1))):=by
 have:=cT.aM h (i:=i) (by simpa using hi)
 grind
def LW (e:Bool) (l:List (List Nat)):b6 (.ai e l.length (l.map AV.str)) l:=by
 have:=Hx e (l.map AV.str)
 rwa [yk] at this
end
section
variable {P:aH} {L:Lib}
def atE (h:Rm P L) {a:Rat} {K:Nat} (ka:Hq K a) (hK:K<=4000000000):bH P L (D P L) 284 [.str (RT a)]=some (.str (aU a.num))/\bH P L (D P L) 285 [.str (aU a.num)]=some (.str (aw a.num.natAbs))/\bH P L (D P L) 286 [.str (RT a)]=some (.str (aw a.den)):=by
 have hl:=Mf ka;have e0:=EU h.AF (s:=RT a) (by omega);have kV:bU (RT a)=(aU a.num).length/\(RT a).take (aU a.num).length=aU a.num:=by
  unfold RT;by_cases hd:a.den=1
  ·rw [yE hd,wA]
   have:=KM a.num []
   rw [wA] at this;exact ⟨by rw [this];simp [bU],xx⟩
  ·rw [yr hd];exact ⟨by rw [KM];simp [bU],uM⟩
 obtain ⟨dW,rI⟩:=kV;rw [dW] at e0;have hlen:(aU a.num).length<=(RT a).length:=by unfold RT;simp
 have e1:bH P L (D P L) 284 [.str (RT a)]=some (.str (aU a.num)):=by
  rw [aI h.aBg]
  have:=acB (s:=RT a) hlen
  simp only [go_sem,ya,Sz,e0,eG,eU,dD,this,rI]
 have hT:aU a.num=TT a.num 1:=by unfold TT;simp
 have e2:bH P L (D P L) 285 [.str (aU a.num)]=some (.str (aw a.num.natAbs)):=by
  have e:=azj h (n:=a.num) (d:=1) (by rw [<-hT];omega) (fun _=>rfl);rw [<-hT] at e;rw [aI h.aBh];by_cases h0:a.num<0
  ·have es:db a.num= -1:=by unfold db;rw [yE h0]
   rw [es] at e;rw [lC h0] at e ⊢;have hc:=Lu (s:=45::aw a.num.natAbs) (k:=1) (by simp);simp only [List.drop_succ_cons,yH,yG] at hc;simp only [go_sem,ya,M3,e,show (-1:Int)<0 by decide,eG,eU,dD,hc]
  ·have es:¬db a.num<0:=by unfold db;rw [yr h0];split<;>decide
   have hi:aU a.num=aw a.num.natAbs:=by
    obtain ⟨m,hm⟩:∃m:Nat,a.num=m:=⟨a.num.toNat,by omega⟩;rw [hm,jL,xY]
   simp only [go_sem,ya,M3,e,es];rw [hi]
 have e3:bH P L (D P L) 286 [.str (RT a)]=some (.str (aw a.den)):=by
  rw [aI h.aBi];by_cases hd:a.den=1
  ·have hR:(RT a).length=(aU a.num).length:=by unfold RT;rw [yE hd];simp
   rw [hd,show aw 1=[49] by decide];simp only [go_sem,ya,M4,e0,show ((aU a.num).length:Int)=((RT a).length:Int) by omega,yu]
  ·have hR:RT a=(aU a.num++[47])++aw a.den:=by unfold RT;rw [yr hd];simp
   have hRl:(RT a).length=(aU a.num).length+1+(aw a.den).length:=by rw [hR];simp;omega
   have hc:=Lu (s:=RT a) (k:=(aU a.num).length+1) (by omega);have gV:(RT a).drop ((aU a.num).length+1)=aw a.den:=by
    rw [hR,show (aU a.num).length+1=(aU a.num++[47]).length by simp,uN]
   rw [gV] at hc
   simp only [go_sem,ya,M4,e0,show ¬((aU a.num).length:Int)=((RT a).length:Int) by omega,show ((aU a.num).length:Int)+1=(((aU a.num).length+1:Nat):Int) from rfl,wrapN (n:=(aU a.num).length+1) (by omega),eG,eU,dD,hc]
 exact ⟨e1,e2,e3⟩
def abC {l:List (List Nat)} {i:Nat} (h:i<l.length):b9 ((l.drop i).map cu)=if cu l[i]=0 then b9 ((l.drop (i+1)).map cu) else cu l[i]:=by
 rw [yX h];rfl
def ahO (h:Rm P L) (rq:Has P L 261 Cq) {v:AV} {l:List (List Nat)} (hv:b6 v l) (hl:l.length<=1000000) (hs:∀s,s∈l->s.length<9223372036854775808):ak P L 261 [v] (ab (b9 (l.map cu))):=by
 have key:=fN (P:=P) (L:=L) (live:=[0,3]) (a:=DY)
  (I:=fun k st=>∃i:Nat,st=⟨[(0,v),(3,ab i)],[],0,0⟩/\i+k=l.length/\b9 ((l.drop i).map cu)=b9 (l.map cu))
  (Q:=fun ex st=>∃tm ct,st=⟨tm,[],ct,0⟩/\((ex= .ret/\aj tm 2=ab (b9 (l.map cu)))\/(ex= .exit 0/\b9 (l.map cu)=0))) ?_
 ·unfold ak;rw [aI rq];simp only [go_sem,Cq];generalize hq:D P L (.loop [0,3] DY) _=q;obtain ⟨ex,st,rfl,tm,ct,rfl,h2⟩:=bI hq (key l.length) ⟨0,by simp only [go_sem,ya,av,au hv.pu,ax _ hv.pu]<;>rfl,by omega,by simp⟩
  rcases h2 with ⟨rfl,h2⟩ | ⟨rfl,h3⟩
  ·simp only [go_sem,h2]
  ·simp only [go_sem,av,h3]
 ·rintro k st ⟨i,rfl,hk,hd⟩;by_cases hi:i<l.length
  ·rw [abC hi] at hd;have e1:=aj3 h (hs l[i] (yp hi));have ev:=hv.aM hi;unfold ak at e1;by_cases h1:cu l[i]=0
   ·left
    rw [yE h1] at hd;rw [h1] at e1;simp only [go_sem,ya,DY,hv.len,show (i:Int)<l.length by omega,ev,e1,yu,yQ];refine ⟨_,k-1,rfl,by omega,i+1,?_,by omega,hd⟩;rw [wrap64 (by omega) (by omega)];simp only [go_sem,ya,av,au hv.pu,ax _ hv.pu]<;>rfl
   ·right
    rw [yr h1] at hd;simp only [go_sem,ya,DY,hv.len,show (i:Int)<l.length by omega,ev,e1,h1,yv,yR];refine ⟨_,_,rfl,by simp,_,_,rfl,.inl ⟨rfl,?_⟩⟩;rw [<-hd];simp only [go_sem]
  ·right
   simp only [go_sem,ya,DY,hv.len,show ¬(i:Int)<l.length by omega];refine ⟨_,_,rfl,by simp,_,_,rfl,.inr ⟨rfl,?_⟩⟩;rw [<-hd,xj (by omega)];rfl
def azk (h:Rm P L) (rq:Has P L 261 Cq) {v:AV} {l:List (List Nat)} (hv:b6 v l) (hl:l.length<=1000000) (hs:∀s,s∈l->s.length<=1000000000):ak P L 261 [v] (ab (b9 (l.map cu))):=ahO h rq hv hl (fun s h=>by have:=hs s h;omega)
end
end
section
open Go (IntKind)
open Classical in
noncomputable def dB (s:List Nat):Rat:=if h:cu s=0 then Classical.choose (axl h) else 0
def DA {s:List Nat} (h:cu s=0):s=RT (dB s)/\(aw (dB s).num.natAbs).length<=600/\(aw (dB s).den).length<=600:=by
 unfold dB
 grind
def Dw {z:Int} {k M:Nat} (h:(aw z.natAbs).length<=k) (hM:4*k<=M):Bd M z:=by
 have h1:=Hy z.natAbs;have h2:=Hz (aw z.natAbs).length;have h3:(2:Nat)^(4*(aw z.natAbs).length)<=2^M:=xb (by decide) (by omega);exact yV h1 (xf h2 h3)
def afL {s:List Nat} (h:cu s=0) {M:Nat} (hM:2400<=M):Hq M (dB s):=by
 obtain ⟨_,h1,h2⟩:=DA h
 exact ⟨Dw h1 (by omega),Dw (z:=((dB s).den:Int)) (by rw [xY];exact h2) (by omega)⟩
noncomputable def aj4 (s:List Nat) (least:Int):Int:=if cu s=0 then (if db (dB s).num<least then 3 else 0) else cu s
instance (k:Nat) (z:Int):Decidable (Bd k z):=inferInstanceAs (Decidable (z.natAbs<2^k))
def XM:RT 0=[48]:=by decide
def aBo:RT 1=[49]:=by decide
def E4:Hq 2 0:=⟨by decide,by decide⟩
def XN:Hq 2 1:=⟨by decide,by decide⟩
def atF {a:Rat} (h:RT a=[48]):a=0:=by
 unfold RT at h;have hp:=qB a.den;by_cases hd:a.den=1
 ·rw [yE hd,wA] at h;by_cases h0:a.num<0
  ·rw [lC h0] at h;simp at h
  ·obtain ⟨m,hm⟩:∃m:Nat,a.num=m:=⟨a.num.toNat,by omega⟩;rw [hm,jL] at h;have hv:=qj m;rw [h] at hv;have hv:some 0=some m:=hv
   have:m=0:=by simp_all
   simp_all
 ·rw [yr hd] at h;have hl:=congrArg List.length h
  grind
def ag0 (a:Rat):cU (RT a) [48]=decide (a=0):=by
 by_cases h:a=0
 ·subst h;exact RI XM
 ·rw [y7 h];exact nl (fun e=>h (atF e))
end
section
open Go (IntKind)
def axC (hs h:Rat):Bool:=decide (hs=0)||decide (h<hs)
end
section
open Go (IntKind)
section
variable {s1 s2 s3 s4:Int} {w1 w2 w3 w4:AV} {l1 l2 l3 l4:List Nat}
def qM (a b c d:AV) (r:List AV):gP 4 true (a::b::c::d::r)=some (.agg [a,b,c,d]):=rfl
end
end
section
open Go (IntKind)
structure F4 (c1 c2 c3 c4:AV):Prop where
 ao:∀(n:Nat) (hp:Hp),freeze (n+20) hp (.agg [c1,c2,c3,c4])=some (.agg [c1,c2,c3,c4],hp)
 fT:∀hp:Hp,result hp (.agg [c1,c2,c3,c4])=some (.agg [c1,c2,c3,c4])
 st:∀(hp:Hp) (ct id:Nat) (a b c d:AV),gU hp ct id 0 4 [c1,c2,c3,c4] (some (.cells true true true 4 [a,b,c,d]))=some (.ae [],bc hp id (.cells true true true 4 [c1,c2,c3,c4]),ct)
 bx:∀ct:Nat,ET ct 4 [c1,c2,c3,c4]=some (.ptr ct 0,.cells true true true 4 [c1,c2,c3,c4])
 o1:dc c1=true
 o2:dc c2=true
 o3:dc c3=true
 o4:dc c4=true
 pu:aZ (.agg [c1,c2,c3,c4])=true
 z1:∀(n:Nat) (hp:Hp),freeze (n+1) hp c1=some (c1,hp)
 z2:∀(n:Nat) (hp:Hp),freeze (n+1) hp c2=some (c2,hp)
 z3:∀(n:Nat) (hp:Hp),freeze (n+1) hp c3=some (c3,hp)
 z4:∀(n:Nat) (hp:Hp),freeze (n+1) hp c4=some (c4,hp)
def dX.gen {v:AV} {a:Rat} (h:dX v a):∃c1 c2 c3 c4,v= .agg [c1,c2,c3,c4]/\F4 c1 c2 c3 c4:=by
 obtain ⟨s1,w1,s2,w2,rfl,h1,h2⟩:=h;obtain ⟨l1,u1⟩:=h1.aV;obtain ⟨l2,u2⟩:=h2.aV;refine ⟨_,_,_,_,rfl,fun n hp=>?_,mF u1 u2,fun hp ct id a b c d=>mE u1 u2 hp ct id a b c d,fun ct=>by simp only [go_sem,yb,bg,u1.pu,u1.one,u2.pu,u2.one],rfl,u1.one,rfl,u2.one,by simp [aZ,aG,u1.pu,u2.pu],fun _ _=>rfl,fun n _=>u1.ao n,fun _ _=>rfl,fun n _=>u2.ao n⟩;exact cG _ _ (by simp only [go_sem,u1.ao,u2.ao])
end
section
open Go (IntKind)
def QL:List AV->List Rat->Prop
 | [],[]=>True
 | a::b::c::d::r,x::l=>dX (.agg [a,b,c,d]) x/\QL r l
 | _,_=>False
def QL.inv {cs:List AV} {x:Rat} {l:List Rat} (h:QL cs (x::l)):∃a b c d r,cs=a::b::c::d::r/\dX (.agg [a,b,c,d]) x/\QL r l:=by
 match cs,h with
 | a::b::c::d::r,h=>exact ⟨a,b,c,d,r,rfl,h.1,h.2⟩
def QL.aj5 {cs:List AV} (h:QL cs []):cs=[]:=by
 match cs,h with
 | [],_=>rfl
 | [_],h=>exact h.elim
 | [_,_],h=>exact h.elim
 | [_,_,_],h=>exact h.elim
 | _::_::_::_::_,h=>exact h.elim
def QL.len:∀{l:List Rat} {cs:List AV},QL cs l->cs.length=l.length*4
 | [],_,h=>by rw [h.aj5];rfl
 | x::l,cs,h=>by
  obtain ⟨a,b,c,d,r,rfl,_,h2⟩:=h.inv
  have:=h2.len
  grind
def F4.Pe {c1 c2 c3 c4:AV} (g:F4 c1 c2 c3 c4):aZ c1=true/\aZ c2=true/\aZ c3=true/\aZ c4=true:=by
 have:=g.pu
 simpa only [aZ,aG,ue,Bool.and_eq_true] using this
def dX.f4 {a b c d:AV} {x:Rat} (h:dX (.agg [a,b,c,d]) x):F4 a b c d:=by
 obtain ⟨_,_,_,_,e,g⟩:=h.gen
 grind
def QL.aR:∀{l m:List Rat} {cs ds:List AV},QL cs l->QL ds m->QL (cs++ds) (l++m)
 | [],m,cs,ds,h,k=>by rw [h.aj5];exact k
 | x::l,m,cs,ds,h,k=>by
  obtain ⟨a,b,c,d,r,rfl,h1,h2⟩:=h.inv;exact ⟨h1,h2.aR k⟩
def QL.snoc {l:List Rat} {x:Rat} {cs:List AV} {a b c d:AV} (h:QL cs l) (k:dX (.agg [a,b,c,d]) x):QL (cs++[a,b,c,d]) (l++[x]):=h.aR ⟨k,trivial⟩
def QL.get:∀{l:List Rat} {cs:List AV} {i:Nat},QL cs l->∀(hi:i<l.length),∃a b c d r,cs.drop (i*4)=a::b::c::d::r/\dX (.agg [a,b,c,d]) l[i]
 | [],_,i,_,hi=>absurd hi (yaK i)
 | x::l,cs,0,h,hi=>by
  obtain ⟨a,b,c,d,r,rfl,h1,_⟩:=h.inv
  grind
 | x::l,cs,i+1,h,hi=>by
  obtain ⟨a,b,c,d,r,rfl,_,h2⟩:=h.inv;obtain ⟨a',b',c',d',r',e,k⟩:=h2.get (i:=i) (by simpa using hi)
  grind
def da (v:AV) (l:List Rat):Prop:=(v= .aa/\l=[])\/∃e cs,v= .ai e l.length cs/\QL cs l
section
variable {v:AV} {l:List Rat} {hp:Hp}
def da.len (h:da v l) {hp:Hp}:fp hp 1 v=some (.int .i64 (l.length:Nat)):=by
 rcases h with ⟨rfl,rfl⟩ | ⟨e,cs,rfl,h⟩<;>rfl
def da.pu (h:da v l):aZ v=true:=by
 rcases h with ⟨rfl,rfl⟩ | ⟨e,cs,rfl,h⟩<;>rfl
def da.ao (h:da v l) (n:Nat) {hp:Hp}:freeze (n+1) hp v=some (v,hp):=by
 rcases h with ⟨rfl,rfl⟩ | ⟨e,cs,rfl,h⟩<;>rfl
def da.one (h:da v l):dc v=true:=by
 rcases h with ⟨rfl,rfl⟩ | ⟨e,cs,rfl,h⟩<;>rfl
def da.cells (h:da v l):cellsOf v=[v]:=by
 rcases h with ⟨rfl,rfl⟩ | ⟨e,cs,rfl,h⟩<;>rfl
def da.aM (h:da v l) {i:Nat} (hi:i<l.length):∃a b c d r,jv 4 i v=some (.bZ (a::b::c::d::r))/\dX (.agg [a,b,c,d]) l[i]:=by
 rcases h with ⟨rfl,rfl⟩ | ⟨e,cs,rfl,h⟩
 ·grind
 ·obtain ⟨a,b,c,d,r,e1,e2⟩:=h.get hi;refine ⟨a,b,c,d,r,?_,e2⟩;rw [QT e _ hi,e1]
def api:da .aa []:= .inl ⟨rfl,rfl⟩
def QE {cs:List AV} (e:Bool) (h:QL cs l):da (.ai e l.length cs) l:= .inr ⟨e,cs,rfl,h⟩
end
def axD {tm:Env} {a b c d x0 x1 x2 x3:AV} {r:List (Nat×Nat×X)} (h1:dc a=true) (h2:dc b=true) (h3:dc c=true) (h4:dc d=true):qR tm [x0,x1,x2,x3] 0 4 [a,b,c,d] r=fill tm [a,b,c,d] r:=by
 rw [QU (by rfl) (by simp) (by simp [cm,h1,h2,h3,h4])];rfl
def ahP (rw' pu ex:Bool) (a b c d:AV):YL 0 1 4 (some (.cells rw' pu ex 4 [a,b,c,d]))=some (1,[a,b,c,d]):=rfl
def oN (hp:Hp) (cs:List AV):iA hp 4 true (.bZ cs)=gP 4 true cs:=rfl
end
section
abbrev Mx:=List (List Rat)
def lj (a b:List Rat) (x y:Rat):List Rat:=List.zipWith (fun p q=>p*x+q*y) a b
def DJ {a b:List Rat} {x y:Rat} (h:a.length=b.length):(lj a b x y).length=a.length:=by
 simp [lj,h]
def LX {a b:List Rat} {x y:Rat} {i:Nat} (ha:i<a.length) (hb:i<b.length) (h:i<(lj a b x y).length):(lj a b x y)[i]=a[i]*x+b[i]*y:=by
 simp [lj]
def gR (m:Mx) (i:Nat):List Rat:=m.getD i []
def cF (r:List Rat) (c:Nat):Rat:=r.getD c 0
def dS {m:Mx} {i:Nat} (h:i<m.length):gR m i=m[i]:=by
 simp [gR,yz,yK h]
def fE {r:List Rat} {i:Nat} (h:i<r.length):cF r i=r[i]:=by
 simp [cF,yz,yK h]
def pL (m:Mx) (i j:Nat) (r:List Rat):gR (m.set i r) j=if i=j/\j<m.length then r else gR m j:=by
 simp only [gR,yz,List.getElem?_set]
 grind
def mo (m:Mx) (c:Nat):Nat->Nat->Nat
 | 0,p=>p
 | d+1,p=>if cF (gR m p) c=0 then mo m c d (p+1) else p
def RJ (m:Mx) (c:Nat):∀d p,p<=mo m c d p/\mo m c d p<=p+d
 | 0,p=>⟨yo _,yo _⟩
 | d+1,p=>by
  have:=RJ m c d (p+1)
  simp only [mo];split<;>omega
def LY (m:Mx) (c:Nat):∀d p,mo m c d p<p+d->cF (gR m (mo m c d p)) c≠0
 | 0,p,h=>by simp only [mo] at h;omega
 | d+1,p,h=>by
  simp only [mo] at h ⊢
  split
  ·rename_i h0;rw [yE h0] at h;exact LY m c d (p+1) (by omega)
  ·grind
def cP (m:Mx) (i j:Nat):Mx:=(m.set i (gR m j)).set j (gR m i)
def rT (m:Mx) (a c:Nat):Mx:=m.set a (lj (gR m a) (gR m a) (cF (gR m a) c)⁻¹ 0)
def rU (m:Mx) (a c i:Nat):Mx:=if i≠a/\cF (gR m i) c≠0 then m.set i (lj (gR m i) (gR m a) 1 (-(cF (gR m i) c))) else m
def fg (m:Mx) (a c:Nat):Nat->Mx
 | 0=>m
 | i+1=>rU (fg m a c i) a c i
def bm (s:Mx×List Nat) (c:Nat):Nat:=mo s.1 c (s.1.length-s.2.length) s.2.length
def eS (s:Mx×List Nat) (c:Nat):Mx:=rT (cP s.1 s.2.length (bm s c)) s.2.length c
def gW (s:Mx×List Nat) (c:Nat):Mx×List Nat:=
 if bm s c<s.1.length then (fg (eS s c) s.2.length c s.1.length,s.2++[c]) else s
def ay (m:Mx):Nat->Mx×List Nat
 | 0=>(m,[])
 | c+1=>gW (ay m c) c
def zX (m:Mx) (i j:Nat):(cP m i j).length=m.length:=by simp [cP]
def atG (m:Mx) (a c:Nat):(rT m a c).length=m.length:=by simp [rT]
def atH (m:Mx) (a c i:Nat):(rU m a c i).length=m.length:=by unfold rU;split<;>simp
def z7 (m:Mx) (a c:Nat):∀i,(fg m a c i).length=m.length
 | 0=>rfl
 | i+1=>by rw [fg,atH,z7 m a c i]
def sn (s:Mx×List Nat) (c:Nat):(eS s c).length=s.1.length:=by rw [eS,atG,zX]
def atI (s:Mx×List Nat) (c:Nat):(gW s c).1.length=s.1.length:=by
 unfold gW;split
 ·simp only [z7,sn]
 ·rfl
def BJ (m:Mx):∀c,(ay m c).1.length=m.length
 | 0=>rfl
 | c+1=>by rw [ay,atI,BJ m c]
def wid (w:Nat) (m:Mx):Prop:=∀i,i<m.length->(gR m i).length=w
def wid.set {w:Nat} {m:Mx} {r:List Rat} (h:wid w m) (i:Nat) (hr:r.length=w):wid w (m.set i r):=fun j hj=>by
 rw [tF] at hj;rw [pL];split
 ·grind
 ·exact h j hj
def wid.cP {w:Nat} {m:Mx} (h:wid w m) {i j:Nat} (hi:i<m.length) (hj:j<m.length):wid w (cP m i j):=(h.set i (h j hj)).set j (h i hi)
def wid.rT {w:Nat} {m:Mx} (h:wid w m) {a:Nat} (ha:a<m.length) (c:Nat):wid w (rT m a c):=h.set a (by rw [DJ rfl];exact h a ha)
def wid.rU {w:Nat} {m:Mx} (h:wid w m) {a i:Nat} (ha:a<m.length) (hi:i<m.length) (c:Nat):wid w (rU m a c i):=by
 unfold VE.rU;split
 ·exact h.set i (by rw [DJ ((h i hi).trans (h a ha).symm)];exact h i hi)
 ·exact h
def wid.fg {w:Nat} {m:Mx} (h:wid w m) {a:Nat} (ha:a<m.length) (c:Nat):∀i,i<=m.length->wid w (fg m a c i)
 | 0,_=>h
 | i+1,hi=>by
  have ih:=wid.fg h ha c i (by omega);exact ih.rU (by rw [z7];exact ha) (by rw [z7];omega) c
structure Pv (m:Mx) (w c:Nat) (s:Mx×List Nat):Prop where
 len:s.1.length=m.length
 wid:wid w s.1
 pv:s.2.length<=m.length
 lt:∀p,p∈s.2->p<c
def Pv.bm {m:Mx} {w c:Nat} {s:Mx×List Nat} (h:Pv m w c s) (c':Nat):s.2.length<=bm s c'/\bm s c'<=m.length:=by
 have:=RJ s.1 c' (s.1.length-s.2.length) s.2.length
 have h1:=h.len;have h2:=h.pv;unfold VE.bm;omega
def Pv.eS {m:Mx} {w c:Nat} {s:Mx×List Nat} (h:Pv m w c s) {c':Nat} (hp:VE.bm s c'<s.1.length):VE.wid w (eS s c'):=by
 have h1:=(h.bm c').1;exact (h.wid.cP (by omega) hp).rT (by rw [zX];omega) c'
def Pv.step {m:Mx} {w c:Nat} {s:Mx×List Nat} (h:Pv m w c s):Pv m w (c+1) (gW s c):=by
 have h1:=(h.bm c).1;have h2:=h.len;unfold gW;split
 ·rename_i hp;refine ⟨by simp only [z7,sn,h2],(h.eS hp).fg (by rw [sn];omega) c _ (by rw [sn];omega),by simp only [yL,yG,yO];omega,fun p hp=>?_⟩;rcases List.mem_append.1 hp with hp | hp
  ·have:=h.lt p hp;omega
  ·grind
 ·exact ⟨h2,h.wid,h.pv,fun p hp=>by have:=h.lt p hp;omega⟩
def pM {m:Mx} {w:Nat} (h:wid w m):∀c,Pv m w c (ay m c)
 | 0=>⟨rfl,h,uG _,fun p hp=>by cases hp⟩
 | c+1=>(pM h c).step
def Q7 {m:Mx} {a c:Nat}:∀{n:Nat},n<=m.length->∀j,gR (fg m a c n) j=if j<n/\j≠a/\cF (gR m j) c≠0 then lj (gR m j) (gR m a) 1 (-(cF (gR m j) c)) else gR m j
 | 0,_,j=>by rw [yr (by omega)];rfl
 | n+1,hn,j=>by
  have ih:=Q7 (m:=m) (a:=a) (c:=c) (n:=n) (by omega);have en:gR (fg m a c n) n=gR m n:=by simp_all
  have ea:gR (fg m a c n) a=gR m a:=by simp_all
  rw [fg];unfold rU;rw [en,ea];by_cases h:n≠a/\cF (gR m n) c≠0
  ·rw [yE h,pL];by_cases hj:n=j
   ·subst hj;rw [yE ⟨rfl,by rw [z7];omega⟩,yE ⟨by omega,h⟩]
   ·grind
  ·grind
def ep (K:Nat) (m:Mx):Prop:=∀i,i<m.length->∀x,x∈gR m i->Hq K x
def ep.mono {K J:Nat} {m:Mx} (h:ep K m) (hK:K<=J):ep J m:=fun i hi x hx=>(h i hi x hx).mono hK
def ep.set {K:Nat} {m:Mx} {r:List Rat} (h:ep K m) (i:Nat) (hr:∀x,x∈r->Hq K x):ep K (m.set i r):=fun j hj x hx=>by
 rw [tF] at hj;rw [pL] at hx;split at hx
 ·grind
 ·exact h j hj x hx
def afM {r:List Rat} {c:Nat} (h:c<r.length):cF r c∈r:=by rw [fE h];exact yp h
def afN {a b:List Rat} {x y:Rat} (h:a.length=b.length) {z:Rat} (hz:z∈lj a b x y):∃p q,p∈a/\q∈b/\z=p*x+q*y:=by
 obtain ⟨i,hi,rfl⟩:=List.mem_iff_getElem.1 hz;have cS:=hi;rw [DJ h] at cS;exact ⟨_,_,yp cS,yp (h▸cS),LX cS (h▸cS) hi⟩
def apj {r:List Rat} {t:Rat} {k:Nat} (hr:∀x,x∈r->Hq k x) (ht:Hq k t):∀z,z∈lj r r t 0->Hq (2*k) z:=fun z hz=>by
 obtain ⟨p,q,hp,_,rfl⟩:=afN rfl hz;rw [show p*t+q*0=p*t by grind];exact ((hr p hp).mul ht).mono (by omega)
def aro {r p:List Rat} {t:Rat} {k:Nat} (hl:r.length=p.length) (hr:∀x,x∈r->Hq k x) (hp:∀x,x∈p->Hq (2*k) x) (ht:Hq k t):∀z,z∈lj r p 1 (-t)->Hq (4*k+1) z:=fun z hz=>by
 obtain ⟨x,y,hx,hy,rfl⟩:=afN hl hz;rw [show x*1+y* -t=x+y* -t by grind];exact ((hr x hx).add ((hp y hy).mul ht.neg)).mono (by omega)
def ep.cP {K:Nat} {m:Mx} (h:ep K m) {i j:Nat} (hi:i<m.length) (hj:j<m.length):ep K (cP m i j):=(h.set i (h j hj)).set j (h i hi)
def ep.eS {m:Mx} {w c:Nat} {s:Mx×List Nat} (h:Pv m w c s) {k:Nat} (hk:ep k s.1) (hc:c<w) (hp:bm s c<s.1.length):(∀x,x∈gR (eS s c) s.2.length->Hq (2*k) x)/\∀i,i<s.1.length->i≠s.2.length->∀x,x∈gR (VE.eS s c) i->Hq k x:=by
 have h1:=(h.bm c).1;have hs:=hk.cP (i:=s.2.length) (by omega) hp;have hw:=h.wid.cP (i:=s.2.length) (by omega) hp;unfold VE.eS rT;refine ⟨fun x hx=>?_,fun i hi bN x hx=>?_⟩
 ·rw [pL,yE ⟨rfl,by rw [zX];omega⟩] at hx;have hr:=hs s.2.length (by rw [zX];omega);refine apj hr (hr _ (afM ?_)).inv x hx;rw [hw _ (by rw [zX];omega)];exact hc
 ·rw [pL,yr (fun q=>bN q.1.symm)] at hx;exact hs i (by rw [zX];exact hi) x hx
def afO {m:Mx} {w c a k:Nat} (hw:wid w m) (hc:c<w) (ha:a<m.length) (g1:∀x,x∈gR m a->Hq (2*k) x) (g2:∀i,i<m.length->i≠a->∀x,x∈gR m i->Hq k x) {n:Nat} (hn:n<=m.length):ep (4*k+1) (fg m a c n):=fun i hi x hx=>by
 rw [z7] at hi;rw [Q7 hn] at hx;have wi:=hw i hi;have wa:=hw a ha
 split at hx
 ·rename_i q;exact aro (wi.trans wa.symm) (g2 i hi q.2.1) g1 (g2 i hi q.2.1 _ (afM (by rw [wi];exact hc))) x hx
 ·by_cases jc:i=a
  ·subst jc;exact (g1 x hx).mono (by omega)
  ·exact (g2 i hi jc x hx).mono (by omega)
def ep.step {m:Mx} {w c:Nat} {s:Mx×List Nat} (h:Pv m w c s) {k:Nat} (hk:ep k s.1) (hc:c<w) (AY:1<=k):ep (4*k+1) (gW s c).1:=by
 unfold gW;split
 ·rename_i hp;have h1:=(h.bm c).1;obtain ⟨g1,g2⟩:=hk.eS h hc hp;exact afO (h.eS hp) hc (by rw [sn];omega) g1 (fun i hi=>g2 i (by rw [sn] at hi;exact hi)) (by rw [sn];omega)
 ·exact hk.mono (by omega)
def Lv {s:Mx×List Nat} {c:Nat} (h:¬bm s c<s.1.length):gW s c=s:=yr h
def Eh {m:Mx} {w K:Nat} (hw:wid w m) (hk:ep K m) (hK:1<=K):∀c,c<=w->∃k,1<=k/\k+1<=4^(ay m c).2.length*(K+1)/\ep k (ay m c).1
 | 0,_=>⟨K,hK,by simp [ay],hk⟩
 | c+1,hc=>by
  obtain ⟨k,k0,k1,k2⟩:=Eh hw hk hK c (by omega);have hP:=pM hw c;rw [ay];by_cases hp:bm (ay m c) c<(ay m c).1.length
  ·refine ⟨4*k+1,by omega,?_,k2.step hP (by omega) k0⟩
   have:(gW (ay m c) c).2.length=(ay m c).2.length+1:=by unfold gW;rw [yE hp];simp
   rw [this,Nat.pow_succ,Nat.mul_right_comm];omega
  ·rw [Lv hp];exact ⟨k,k0,k1,k2⟩
end
section
open Go (IntKind)
def QF {a b:Nat} (h:aw a=aw b):a=b:=by
 have h1:=qj a;rw [h,qj b] at h1;exact (uD h1).symm
def afP:∀(k n:Nat),n<k->n≠0->∃b r,aw n=b::r/\b≠48
 | 0,n,h,_=>absurd h (yaK n)
 | k+1,n,h,h0=>by
  by_cases h1:n<10
  ·exact ⟨48+n,[],mX h1,by omega⟩
  ·obtain ⟨b,r,e,hb⟩:=afP k (n/10) (by omega) (by omega);exact ⟨b,r++[48+n%10],by rw [nX (by omega),e];rfl,hb⟩
def acC (n:Nat):dw (aw n)=true:=by
 unfold dw;rw [zR,xH];by_cases h0:n=0
 ·subst h0;decide
 ·obtain ⟨b,r,e,hb⟩:=afP (n+1) n (by omega) h0;rw [e]
  have:yx b 48=false:=by
   cases hq:yx b 48 with
   | false=>rfl
   | true=>exact absurd (Nat.eq_of_beq_eq_true hq) hb
  simp [this]
def acD (n:Nat):fc (aw n)=n:=by unfold fc;rw [qj];rfl
def arp {z:Int} (h:¬z<0):aU z=aw z.natAbs:=by
 obtain ⟨m,rfl⟩:∃m:Nat,z=m:=⟨z.toNat,by omega⟩;rw [jL,xY]
def azl (r:Rat):RT r=aU r.num++iU r.den:=rfl
def axE {r:Rat} (h1:(aw r.num.natAbs).length<=600) (h2:(aw r.den).length<=600):cu (RT r)=0:=by
 have key:∀neg:Bool,(neg=true->r.num.natAbs≠0)->mb neg (aw r.num.natAbs++iU r.den)=0:=by
  intro neg gC;have hco:wz r.num.natAbs r.den=1:=r.reduced;have fX:r.den≠0:=r.den_nz;generalize r.num.natAbs=m at*
  generalize r.den=d at*
  have hs:bU (aw m++iU d)=(aw m).length:=by rw [GQ _ (zR m),aaH];rfl
  have c1:¬((true=false)\/(neg=true/\aw m=[48])):=by
   rintro (h | ⟨h,h'⟩)
   ·cases h
   ·exact gC h (QF (h'.trans (by decide)))
  unfold mb;rw [hs,uM,acC,yr c1];by_cases hd:d=1
  ·have hr:iU d=[]:=yE hd;rw [hr,wA,yr (by omega),yr (by omega),yr (by omega)]
  ·have hr:iU d=47::aw d:=yr hd;have gV:(aw m++iU d).drop ((aw m).length+1)=aw d:=by
    rw [hr,show aw m++47::aw d=(aw m++[47])++aw d by simp,show (aw m).length+1=(aw m++[47]).length by simp,uN]
   have hl:(aw m++iU d).length=(aw m).length+1+(aw d).length:=by rw [hr];simp;omega
   rw [gV,hl,acC,acD,acD];have n0:aw d≠[48]:=fun e=>fX (QF (e.trans (by decide)))
   have n1:aw d≠[49]:=fun e=>hd (QF (e.trans (by decide)))
   rw [yr (by simp [n0,n1]),yr (by omega),yr (by simp [hco])]
 rw [azl];by_cases h0:r.num<0
 ·rw [lC h0];show (if 45=45 then mb true (aw r.num.natAbs++iU r.den) else mb false (45::(aw r.num.natAbs++iU r.den)))=0
  rw [yE rfl];exact key true (fun _=>by omega)
 ·rw [arp h0];have k:=key false (fun h=>by cases h);have hp:=qB r.num.natAbs;have kF:=zR r.num.natAbs
  cases hq:aw r.num.natAbs with
  | nil=>rw [hq] at hp;simp at hp
  | cons b t=>
   rw [hq] at k kF
   have:=aby kF
   show (if b=45 then mb true (t++iU r.den) else mb false (b::(t++iU r.den)))=0
   rw [yr (by omega)];exact k
def RL {r:Rat} {K:Nat} (h:Hq K r) (hK:K<=1800):(aw r.num.natAbs).length<=600/\(aw r.den).length<=600:=by
 refine ⟨PT (B:=K) hK (by decide) h.1,PT (B:=K) hK (by decide) ?_⟩
 have:=h.2
 unfold Bd at this
 rwa [xY] at this
def axF {r:Rat} {K:Nat} (h:Hq K r) (hK:K<=1800):cu (RT r)=0:=axE (RL h hK).1 (RL h hK).2
def azm {r:Rat} {K:Nat} (h:Hq K r) (hK:K<=1800):LG r=false:=by
 obtain ⟨h1,h2⟩:=RL h hK;unfold LG LN;rw [xY,y7 (by omega),y7 (by omega)];rfl
noncomputable def kW (k:Nat) (s:List Nat):Bool:=decide (s.length<=2*k+2)&&(decide (cu s=0)&&(decide ((aw (dB s).num.natAbs).length<=k)&&decide ((aw (dB s).den).length<=k)))
section
variable {P:aH} {L:Lib}
def azn (h:Rm P L) (AO:Has P L 359 q8) {k:Nat} (hk:k<=1000) {s:List Nat} (hs:s.length<9223372036854775808):ak P L 359 [.str s,ab k] (.bool (kW k s)):=by
 unfold ak kW;rw [aI AO];by_cases h1:s.length<=2*k+2
 ·have e1:=aj3 h (s:=s) (by omega);unfold ak at e1;rw [xi (show s.length<=2*k+2 from h1),xH];by_cases h2:cu s=0
  ·rw [h2] at e1;obtain ⟨hR,_⟩:=DA h2;have kr:=afL h2 (yo 2400);obtain ⟨e2,e3,e4⟩:=atE h kr (by omega);rw [<-hR] at e2 e4;have l1:=LV kr.1;have l2:=LV kr.2;rw [xY] at l2;rw [xi h2,xH];by_cases h3:(aw (dB s).num.natAbs).length<=k
   ·rw [xi h3,xH];by_cases h4:(aw (dB s).den).length<=k
    ·rw [xi h4]
     simp only [go_sem,ya,q8,wrap64 (n:=2*(k:Int)) (by omega) (by omega),wrap64 (n:=2*(k:Int)+2) (by omega) (by omega),yu,show (s.length:Int)<=2*(k:Int)+2 by omega,e1,e2,e3,e4,show ((aw (dB s).num.natAbs).length:Int)<=(k:Int) by omega,show ((aw (dB s).den).length:Int)<=(k:Int) by omega]
    ·rw [y7 h4]
     simp only [go_sem,ya,q8,wrap64 (n:=2*(k:Int)) (by omega) (by omega),wrap64 (n:=2*(k:Int)+2) (by omega) (by omega),yu,show (s.length:Int)<=2*(k:Int)+2 by omega,e1,e2,e3,e4,show ((aw (dB s).num.natAbs).length:Int)<=(k:Int) by omega,show ¬((aw (dB s).den).length:Int)<=(k:Int) by omega,yv]
   ·rw [y7 h3,xO]
    simp only [go_sem,ya,q8,wrap64 (n:=2*(k:Int)) (by omega) (by omega),wrap64 (n:=2*(k:Int)+2) (by omega) (by omega),yu,show (s.length:Int)<=2*(k:Int)+2 by omega,e1,e2,e3,show ¬((aw (dB s).num.natAbs).length:Int)<=(k:Int) by omega,yv]
  ·rw [y7 h2,xO];have Yc:¬cu s=0:=h2
   simp only [go_sem,ya,q8,wrap64 (n:=2*(k:Int)) (by omega) (by omega),wrap64 (n:=2*(k:Int)+2) (by omega) (by omega),yu,show (s.length:Int)<=2*(k:Int)+2 by omega,e1,Yc,yv]
 ·rw [y7 (show ¬s.length<=2*k+2 from h1),xO]
  simp only [go_sem,ya,q8,wrap64 (n:=2*(k:Int)) (by omega) (by omega),wrap64 (n:=2*(k:Int)+2) (by omega) (by omega),show ¬(s.length:Int)<=2*(k:Int)+2 by omega,yv]
end
end
section
open Go (IntKind)
section
variable {P:aH} {L:Lib}
def aBp (h:Ck P L) {s:List Nat} (h0:cu s=0):∃r,ak P L 62 [.str s] r/\dX r (dB s):=by
 obtain ⟨hR,_⟩:=DA h0;have kr:=afL h0 (yo 2400);have hl:=Mf kr;obtain ⟨r,e,hr⟩:=m62 h.toTx (a:=dB s) (by omega);rw [<-hR] at e;exact ⟨r,e,hr⟩
end
end
section
open Go (IntKind)
def mU:dl (.int .i64 0)=some 0:=rfl
def AS:dl (.int .i64 1)=some 1:=rfl
def abD:∀{ps:List (List AV)},(∀p,p∈ps->p.length=4)->ps.flatten.length=ps.length*4
 | [],_=>by simp
 | p::ps,h=>by
  have:=abD (ps:=ps) (fun q hq=>h q (List.mem_cons_of_mem _ hq))
  rw [wX,yL,this,h p List.mem_cons_self,yG,Nat.add_mul];omega
def CG (v:AV) (l:List Rat):Prop:=∃cs,v= .ai true l.length cs/\QL cs l
def CG.fs {v:AV} {l:List Rat} (h:CG v l):da v l:=by
 obtain ⟨cs,rfl,h⟩:=h;exact QE true h
section
variable {P:aH} {L:Lib}
def aBq (h:Ck P L) (AP:Has P L 161 Es) {v:AV} {l:List (List Nat)} (hv:b6 v l) (hl:l.length<=1000000) (hs:∀s,s∈l->s.length<=1000000000):ak P L 161 [v] (ab (b9 (l.map cu))):=by
 unfold ak;rw [aI AP];simp only [go_sem,ya,Es,hv.len];have key:=fN (P:=P) (L:=L) (live:=[6,7,8]) (a:=L6)
  (I:=fun k s=>∃i:Nat,s=⟨[(6,v),(7,ab l.length),(8,ab i)],[],0,0⟩/\i+k=l.length/\b9 ((l.drop i).map cu)=b9 (l.map cu))
  (Q:=fun ex s=>∃tm ct,s=⟨tm,[],ct,0⟩/\((ex= .ret/\aj tm 2=ab (b9 (l.map cu)))\/(ex= .exit 0/\b9 (l.map cu)=0))) ?_
 ·generalize hq:D P L (.loop [6,7,8] L6) _=q;obtain ⟨ex,s,rfl,tm,ct,rfl,h2⟩:=bI hq (key l.length) ⟨0,by simp only [go_sem,ya,av,au hv.pu,ax _ hv.pu]<;>rfl,by omega,by simp⟩
  rcases h2 with ⟨rfl,h2⟩ | ⟨rfl,h2⟩
  ·simp only [go_sem,h2]
  ·rw [h2];simp only [go_sem,av]
 ·rintro k s ⟨i,rfl,hk,hf⟩;simp only [go_sem,ya,L6];by_cases hi:i<l.length
  ·have cS:(i:Int)<l.length:=by omega
   have e1:=m86 h (hs l[i] (yp hi));unfold ak at e1;rw [abC hi] at hf;by_cases hz:cu l[i]=0
   ·left
    rw [hz] at e1;simp only [go_sem,ya,cS,hv.aM hi,e1];refine ⟨_,k-1,rfl,by omega,i+1,?_,by omega,by rw [yE hz] at hf;exact hf⟩
    rw [wrap64 (by omega) (by omega)];simp only [go_sem,ya,av,au hv.pu,ax _ hv.pu]<;>rfl
   ·right
    simp only [go_sem,ya,cS,hv.aM hi,e1,hz];rw [yr hz] at hf;refine ⟨_,_,rfl,by simp,_,_,rfl,.inl ⟨rfl,?_⟩⟩;simp only [go_sem,hf]
  ·right
   have cS:¬(i:Int)<l.length:=by omega
   simp only [go_sem,cS];refine ⟨_,_,rfl,by simp,_,_,rfl,.inr ⟨rfl,?_⟩⟩;rw [<-hf,xj (by omega)];rfl
def aBr (h:Ck P L) (Bp:Has P L 88 iE) {v:AV} {l:List (List Nat)} (hv:b6 v l) (hl:l.length<=1000000) (hc:∀s,s∈l->cu s=0):∃r,ak P L 88 [v] r/\CG (shut r) (l.map dB):=by
 have zf:∀n,(yq (n+1) [AV.int .i64 0,.aa,.int .i64 0,.aa]).flatten= .int .i64 0:: .aa:: .int .i64 0:: .aa::(yq n [AV.int .i64 0,.aa,.int .i64 0,.aa]).flatten:=fun n=>by rw [wH,wX];rfl
 have zl:∀n,(yq n [AV.int .i64 0,.aa,.int .i64 0,.aa]).flatten.length=n*4:=fun n=>by
  rw [abD (fun p hp=>by rw [List.eq_of_mem_replicate hp];rfl),List.length_replicate]
 have key:=fN (P:=P) (L:=L) (live:=[3,9,10,11]) (a:=Ir)
  (I:=fun k st=>∃(i:Nat) (qs:List AV),i+k=l.length/\QL qs ((l.take i).map dB)/\st=⟨[(3,.aC 0 0 l.length),(9,v),(10,ab l.length),(11,ab i)],[(0,.cells true true true 4 (qs++(yq (l.length-i) [AV.int .i64 0,.aa,.int .i64 0,.aa]).flatten))],1,0⟩)
  (Q:=fun ex st=>∃tm hp ct qs,QL qs (l.map dB)/\st=⟨tm,hp,ct,0⟩/\ex= .exit 0/\aj tm 3= .aC 0 0 l.length/\aB hp 0=some (.cells true true true 4 qs)) ?_
 ·unfold ak;rw [aI Bp];have mk:oI 0 4 64 [AV.int .i64 0,.aa,.int .i64 0,.aa] (some l.length) (some l.length)=some (.aC 0 0 l.length,.cells true true true 4 (yq l.length [AV.int .i64 0,.aa,.int .i64 0,.aa]).flatten):=Ag (by omega) (by omega) (by rfl) (by rfl);simp only [go_sem,ya,yb,iE,hv.len,Lb (show (0:Int)<=l.length by omega),xZ,mk];generalize hq:D P L (.loop [3,9,10,11] Ir) _=q;obtain ⟨ex,st,rfl,tm,hp,ct,qs,kH,rfl,rfl,t3,g0⟩:=bI hq (key l.length) ⟨0,[],by omega,trivial,by simp only [go_sem,ya,yb,av,au hv.pu,ax _ hv.pu]<;>rfl⟩
  have nE:=kH.len;rw [yk] at nE;refine ⟨.bt true 4 l.length qs,?_,?_⟩
  ·simp only [go_sem,yb,av,t3,g0];exact By (qt _ _ _) nE (by decide)
  ·exact ⟨qs,by rw [yk];rfl,kH⟩
 ·rintro k st ⟨i,qs,nF,kH,rfl⟩;by_cases hi:i<l.length
  ·left
   obtain ⟨r,e2,hr⟩:=aBp h (hc _ (yp hi));have bR:=hr;obtain ⟨r1,r2,r3,r4,rfl,gr⟩:=hr.gen;have lq:qs.length=i*4:=by rw [kH.len,yk,yI,xE (by omega)]
   have pr:=gr.Pe;have aP:∀(hp:Hp) (ct:Nat),gU hp ct 0 (i*4) 4 [r1,r2,r3,r4] (some (.cells true true true 4 (qs++(yq (l.length-i) [AV.int .i64 0,.aa,.int .i64 0,.aa]).flatten)))=some (.ae [],bc hp 0 (.cells true true true 4 ((qs++[r1,r2,r3,r4])++(yq (l.length-(i+1)) [AV.int .i64 0,.aa,.int .i64 0,.aa]).flatten)),ct):=fun hp ct=>by
    rw [qQ (by rfl) (by rw [yL,lq,zl];omega) (by simp [cm,gr.o1,gr.o2,gr.o3,gr.o4])];have Zq:over (i*4) [r1,r2,r3,r4] (qs++(yq (l.length-i) [AV.int .i64 0,.aa,.int .i64 0,.aa]).flatten)=(qs++[r1,r2,r3,r4])++(yq (l.length-(i+1)) [AV.int .i64 0,.aa,.int .i64 0,.aa]).flatten:=by
     rw [show l.length-i=(l.length-(i+1))+1 by omega,zf];unfold over;rw [<-lq,uM,show qs.length+[r1,r2,r3,r4].length=qs.length+4 from rfl,<-List.drop_drop,uN];rfl
    rw [Zq];simp [aG,pr.1,pr.2.1,pr.2.2.1,pr.2.2.2]
   unfold ak at e2;simp only [go_sem,ya,Ir,show (i:Int)<l.length by omega,hv.aM hi,e2,bW,Lb (show (0:Int)<=i by omega),xZ,cp 0 0 hi,yg,aP];refine ⟨_,k-1,rfl,by omega,i+1,qs++[r1,r2,r3,r4],by omega,?_,?_⟩
   ·rw [xa hi,xy];exact kH.snoc bR
   ·rw [wrap64 (by omega) (by omega)];simp only [go_sem,ya,yb,av,au hv.pu,ax _ hv.pu]<;>rfl
  ·right
   have:i=l.length:=by omega
   subst this;rw [yN (yo _)] at kH;simp only [go_sem,ya,Ir,show ¬(l.length:Int)<l.length by omega,Nat.sub_self];exact ⟨_,_,rfl,by simp,_,_,_,qs,kH,rfl,rfl,by simp only [go_sem,ya],by simp only [go_sem];simp⟩
end
end
section
open Go (IntKind)
def lyT (w:AV) (hh sc st ox oy wx wy:List Nat):AV:= .agg [w,.str hh,.str sc,.str st,.str ox,.str oy,.str wx,.str wy]
noncomputable def aBs (s:List (List Int)) (hh sc st ox oy wx wy:List Nat):Int:=b9 [aoh s,aj4 hh 0,aj4 sc 1,cu st,b9 [cu ox,cu oy],b9 [cu wx,cu wy]]
def GS {a:Int} {l:List Int}:b9 (a::l)=0↔a=0/\b9 l=0:=by
 simp only [b9]
 grind
end
section
open Go (IntKind)
structure Lay where
 w:AV
 s:List (List Int)
 hh:List Nat
 sc:List Nat
 st:List Nat
 ox:List Nat
 oy:List Nat
 wx:List Nat
 wy:List Nat
def Lay.cs (a:Lay):List AV:=[a.w,.str a.hh,.str a.sc,.str a.st,.str a.ox,.str a.oy,.str a.wx,.str a.wy]
def Lay.T (a:Lay):AV:=lyT a.w a.hh a.sc a.st a.ox a.oy a.wx a.wy
noncomputable def Lay.E (a:Lay):Int:=aBs a.s a.hh a.sc a.st a.ox a.oy a.wx a.wy
end
section
open Go (IntKind)
def take_set {α:Type} {l:List α} {i:Nat} {a:α} (h:i<l.length):(l.set i a).take (i+1)=l.take i++[a]:=by
 rw [xa (by simpa using h),List.getElem_set_self,List.take_set_of_le (yo i)]
def stS {hp:Hp} {ct id o:Nat} {v:List Nat} {ex:Bool} {l:List (List Nat)} (h:o<l.length):gU hp ct id o 1 [.str v] (some (.cells true true ex 1 (l.map .str)))=some (.ae [],bc hp id (.cells true true ex 1 ((l.set o v).map .str)),ct):=by
 rw [qQ (by rfl) (by simp;omega) (by rfl)]
 have:over o [.str v] (l.map .str)=(l.set o v).map .str:=by
  simp only [over,yG,yO,yg];rw [List.map_set,vz,yE (by simpa using h)]
  simp
 rw [this];rfl
def aBt (ct:Nat) {n:Nat} (h:n<=10000000000):oI ct 1 16 [.str []] (some n) (some n)=some (.aC ct 0 n,.cells true true true 1 ((yq n []).map .str)):=by
 rw [Ag (sz:=1) (by omega) (by omega) (by rfl) (by rfl)]
 have:∀n,(yq n [AV.str []]).flatten=(yq n []).map .str:=fun n=>by
  induction n with
  | zero=>rfl
  | succ n ih=>rw [wH,wX,ih,wH,xe];rfl
 rw [this];rfl
def atJ (l:List (List Nat)):b6 (.ai true l.length (l.map .str)) l:=LW true l
section
variable {P:aH} {L:Lib}
def aBu (h:Has P L 123 IE) (hT:Tx P L) {v:AV} {l:List Rat} {K:Nat} (hv:da v l) (hl:l.length<=1000000) (hk:∀x,x∈l->Hq K x) (hK:K<=4000000000):∃r,ak P L 123 [v] r/\b6 (shut r) (l.map RT):=by
 have key:=fN (P:=P) (L:=L) (live:=[3,9,10,11]) (a:=HJ)
  (I:=fun k st=>∃(i:Nat) (out:List (List Nat)),i+k=l.length/\out.length=l.length/\out.take i=(l.take i).map RT/\st=⟨[(3,.aC 0 0 l.length),(9,v),(10,ab l.length),(11,ab i)],[(0,.cells true true true 1 (out.map .str))],1,0⟩)
  (Q:=fun ex st=>∃tm hp ct,st=⟨tm,hp,ct,0⟩/\ex= .exit 0/\aj tm 3= .aC 0 0 l.length/\aB hp 0=some (.cells true true true 1 ((l.map RT).map .str))) ?_
 ·unfold ak;rw [aI h];simp only [go_sem,ya,yb,IE,hv.len,Lb (show (0:Int)<=l.length by omega),xZ,aBt 0 (show l.length<=10000000000 by omega)];generalize hq:D P L (.loop [3,9,10,11] HJ) _=q;obtain ⟨ex,st,rfl,tm,hp,ct,rfl,rfl,t3,g0⟩:=bI hq (key l.length) ⟨0,yq l.length [],by omega,by simp,by simp,by simp only [go_sem,ya,yb,av,au hv.pu,ax _ hv.pu]<;>rfl⟩
  refine ⟨.bt true 1 l.length ((l.map RT).map .str),?_,?_⟩
  ·simp only [go_sem,yb,av,t3,g0];exact By (qt _ _ _) (by simp) (by decide)
  ·have:=atJ (l.map RT)
   rwa [yk] at this
 ·rintro k st ⟨i,out,nF,hlen,El,rfl⟩;by_cases hi:i<l.length
  ·left
   obtain ⟨a,b,c,d,r,e1,hx⟩:=hv.aM hi;have e2:=m46 hT hx (hk _ (yp hi)) hK;have gx:=hx.f4;unfold ak at e2
   simp only [go_sem,ya,yb,yi,HJ,show (i:Int)<l.length by omega,e1,oN,bg,gx.st,qM,gx.ao,yH,e2,Lb (show (0:Int)<=i by omega),xZ,cp 0 0 hi,yg,stS (l:=out) (o:=i) (by omega)];refine ⟨_,k-1,rfl,by omega,i+1,out.set i (RT l[i]),by omega,by simpa using hlen,?_,?_⟩
   ·rw [take_set (by omega),El,xa hi,xy];rfl
   ·rw [wrap64 (by omega) (by omega)];simp only [go_sem,ya,yb,av,au hv.pu,ax _ hv.pu]<;>rfl
  ·right
   have:i=l.length:=by omega
   subst this;rw [yN (by omega),yN (yo _)] at El;subst El;simp only [go_sem,ya,HJ,show ¬(l.length:Int)<l.length by omega];exact ⟨_,_,rfl,by simp,_,_,_,rfl,rfl,by simp only [go_sem,ya],by simp only [go_sem]⟩
end
end
section
open Go (IntKind)
noncomputable def Lay.low (sh:List Nat) (a:Lay):Bool:=axC (dB sh) (dB a.hh)
def PV {α:Type} {f:α->Int}:∀{l:List α},b9 (l.map f)=0->∀a,a∈l->f a=0
 | [],_,_,h=>by cases h
 | x::l,h,a,ha=>by
  rw [xe,GS] at h;rcases List.mem_cons.1 ha with rfl | ha
  ·grind
  ·exact PV h.2 a ha
end
section
open Go (IntKind)
def cz.snoc {α β:Type} {p:α->β->Prop}:∀{l:List α} {m:List β} {a:α} {b:β},cz p l m->p a b->cz p (l++[a]) (m++[b])
 | [],[],_,_,_,h=>⟨h,trivial⟩
 | _::_,_::_,_,_,h,k=>⟨h.1,cz.snoc h.2 k⟩
end
section
open Go (IntKind)
def cx {β:Type} (p:AV->β->Prop) (v:AV) (M:List β):Prop:=∃rows,cT v rows/\cz p rows M
section
variable {β:Type} {p:AV->β->Prop} {v:AV} {s:List β}
def cx.len (h:cx p v s) {hp:Hp}:fp hp 1 v=some (.int .i64 (s.length:Nat)):=by
 obtain ⟨rows,h1,h2⟩:=h;rw [<-h2.len];exact h1.len
def cx.pu (h:cx p v s):aZ v=true:=by obtain ⟨rows,h1,h2⟩:=h;exact h1.pu
def cx.ao (h:cx p v s) (n:Nat) {hp:Hp}:freeze (n+1) hp v=some (v,hp):=by obtain ⟨rows,h1,h2⟩:=h;exact h1.ao n
def cx.bT (h:cx p v s):VE.bT v=v:=by obtain ⟨rows,h1,h2⟩:=h;exact h1.bT
def cx.one (h:cx p v s):dc v=true:=by obtain ⟨rows,h1,h2⟩:=h;exact h1.one
def cx.cells (h:cx p v s):cellsOf v=[v]:=by obtain ⟨rows,h1,h2⟩:=h;exact h1.cells
def cx.aM (h:cx p v s) {i:Nat} (hi:i<s.length):∃r rest,p r s[i]/\jv 1 i v=some (.bZ (r::rest)):=by
 obtain ⟨rows,h1,h2⟩:=h;have cS:i<rows.length:=by rw [h2.len];exact hi
 exact ⟨_,_,h2.get cS hi,h1.aM cS⟩
def Hb:cx p .aa []:=⟨[],qu,trivial⟩
def DB (e:Bool) {rows:List AV} (h:cz p rows s):cx p (.ai e s.length rows) s:=by
 have:=Hx e rows
 rw [h.len] at this;exact ⟨rows,this,h⟩
end
noncomputable def ll (w:Nat) (r:List (List Nat)):Int:=b9 [if r.length=0 then 12 else 0,if 64<r.length then 5 else 0,if r.length=w then 0 else 2,b9 (r.map cu)]
noncomputable def jK (M:List (List (List Nat))):Int:=if M.length=0 then 12 else if 64<M.length then 5 else b9 (M.map (ll (M.getD 0 []).length))
def Ix {β:Type} {M:List (List β)} (h:0<M.length):M.getD 0 []=M[0]:=by
 simp [yz,yK h]
def oV (id:Nat):Nat->AV
 | 0=> .aa
 | n+1=> .aC id 0 (n+1)
def oH (id z:Nat) (cs:List AV) (r:Hp):Nat->Hp
 | 0=>r
 | _+1=>(id,.cells true true false z cs)::r
def oC (id:Nat):Nat->Nat
 | 0=>id
 | _+1=>id+1
section
variable {P:aH} {L:Lib}
def aBv (h:Ck P L) (AP:Has P L 161 Es) (E5:Has P L 126 IF) {v r:AV} {M:List (List (List Nat))} {l:List (List Nat)} (hv:cx b6 v M) (hM:0<M.length) (hr:b6 r l) (hl:l.length<=1000000) (hs:∀s,s∈l->s.length<=1000000000):ak P L 126 [r,.bZ [v]] (ab (ll (M.getD 0 []).length l)):=by
 obtain ⟨r0,rest,h0,e0⟩:=hv.aM (i:=0) hM;rw [Ix hM];have e1:=mM h.oL (decide ((l.length:Int)=0)) 12;have e2:=mM h.oL (decide ((64:Int)<l.length)) 5;have e3:=mM h.oL (!decide ((l.length:Int)=(M[0].length:Nat))) 2;have e4:=aBq h AP hr hl hs;have q1:(if decide ((l.length:Int)=0)=true then (12:Int) else 0)=if l.length=0 then 12 else 0:=by
  simp only [xK];split<;>split<;>omega
 have q2:(if decide ((64:Int)<l.length)=true then (5:Int) else 0)=if 64<l.length then 5 else 0:=by
  simp only [xK];split<;>split<;>omega
 have q3:(if (!decide ((l.length:Int)=(M[0].length:Nat)))=true then (2:Int) else 0)=if l.length=M[0].length then 0 else 2:=by
  simp only [Bool.not_eq_true',vD];split<;>split<;>omega
 rw [q1] at e1;rw [q2] at e2;rw [q3] at e3;have e5:ak P L 125 _ _:=Nd.XE h.XF (mv true [if l.length=0 then (12:Int) else 0,if 64<l.length then 5 else 0,if l.length=M[0].length then 0 else 2,b9 (l.map cu)]) (by simp);unfold ll;generalize (if l.length=0 then (12:Int) else 0)=x1 at*
 generalize (if 64<l.length then (5:Int) else 0)=x2 at*
 generalize (if l.length=M[0].length then (0:Int) else 2)=x3 at*
 simp only [yG,yO,xe,vE] at e5;unfold ak at e1 e2 e3 e4 e5 ⊢;rw [aI E5];simp only [go_sem,ya,yb,yM,yy,yi,IF,hr.len,hr.ao,e1,e2,mU,e0,h0.len,e3,e4,e5]
def aBw (E6:Has P L 127 IG) {v:AV} {M:List (List (List Nat))} (hv:cx b6 v M) (hl:M.length<=1000000) {g:Nat} {cap:List AV} (hc:aG cap=true) (hz:∀(n:Nat) (hp:Hp),cM (n+900) hp cap=some (cap,hp)) {f:List (List Nat)->Int} (hg:∀w a,a∈M->b6 w a->ak P L g (w::cap) (ab (f a))):ak P L 127 [v,.fn (.f g) [] cap] (ab (b9 (M.map f))):=by
 have pf:aZ (.fn (.f g) [] cap)=true:=by simp [aZ,aG,hc]
 have key:=fN (P:=P) (L:=L) (live:=[1,8,9,10]) (a:=L5)
  (I:=fun k s=>∃i:Nat,s=⟨[(1,.fn (.f g) [] cap),(8,v),(9,ab M.length),(10,ab i)],[],0,0⟩/\i+k=M.length/\b9 ((M.drop i).map f)=b9 (M.map f))
  (Q:=fun ex s=>∃tm ct,s=⟨tm,[],ct,0⟩/\((ex= .ret/\aj tm 4=ab (b9 (M.map f)))\/(ex= .exit 0/\b9 (M.map f)=0))) ?_
 ·unfold ak;rw [aI E6];simp only [go_sem,ya,IG,hv.len];generalize hq:D P L (.loop [1,8,9,10] L5) _=q;obtain ⟨ex,s,rfl,tm,ct,rfl,h2⟩:=bI hq (key M.length) ⟨0,by simp only [go_sem,ya,av,au hv.pu,ax _ hv.pu,au pf,ax _ pf]<;>rfl,by omega,by simp⟩
  rcases h2 with ⟨rfl,h2⟩ | ⟨rfl,h2⟩
  ·simp only [go_sem,h2]
  ·rw [h2];simp only [go_sem,av]
 ·rintro k s ⟨i,rfl,hk,hf⟩;simp only [go_sem,ya,L5];by_cases hi:i<M.length
  ·have cS:(i:Int)<M.length:=by omega
   obtain ⟨r,rest,hr,e0⟩:=hv.aM hi;have e1:=hg r _ (yp hi) hr;unfold ak at e1;rw [yX hi,xe] at hf;simp only [b9] at hf;by_cases fk:f M[i]=0
   ·left
    rw [fk] at e1;simp only [go_sem,ya,cS,e0,hr.ao,hz,e1];refine ⟨_,k-1,rfl,by omega,i+1,?_,by omega,by rw [yE fk] at hf;exact hf⟩
    rw [wrap64 (by omega) (by omega)];simp only [go_sem,ya,av,au hv.pu,ax _ hv.pu,au pf,ax _ pf]<;>rfl
   ·right
    simp only [go_sem,ya,cS,e0,hr.ao,hz,e1,fk];rw [yr fk] at hf;refine ⟨_,_,rfl,by simp,_,_,rfl,.inl ⟨rfl,?_⟩⟩;simp only [go_sem,hf]
  ·right
   have cS:¬(i:Int)<M.length:=by omega
   simp only [go_sem,cS];refine ⟨_,_,rfl,by simp,_,_,rfl,.inr ⟨rfl,?_⟩⟩;rw [<-hf,xj (by omega)];rfl
def m84 (h:Ck P L) (AP:Has P L 161 Es) (E5:Has P L 126 IF) (E6:Has P L 127 IG) (Pf:Has P L 84 oZ) {v:AV} {M:List (List (List Nat))} (hv:cx b6 v M) (hl:M.length<=1000000) (hr:∀r,r∈M->r.length<=1000000/\∀s,s∈r->s.length<=1000000000):ak P L 84 [v] (ab (jK M)):=by
 have e1:=mM h.oL (decide ((M.length:Int)=0)) 12;have e2:=mM h.oL (decide ((64:Int)<M.length)) 5;have e3:∀a b:Int,ak P L 125 _ _:=fun a b=>Nd.XE h.XF (mv true [a,b]) (by simp)
 simp only [yG,yO,xe,vE] at e3;unfold jK;unfold ak at e1 e2 e3 ⊢;rw [aI Pf];by_cases h0:M.length=0
 ·rw [yE h0];rw [show decide ((M.length:Int)=0)=true by simp only [xK];omega] at e1;rw [show decide ((64:Int)<M.length)=false by simp only [vD];omega] at e2;have e4:bH P L (D P L) 125 [.ai true 2 [ab 12,ab 0]]=some (ab 12):=e3 12 0;simp only [xA,yJ,xd] at e1 e2;simp only [go_sem,ya,yb,yM,yy,yi,oZ,hv.len,hv.pu,hv.one,hv.cells,Mv,show (M.length:Int)=0 by omega,yu,show ¬(64:Int)<0 by omega,yv,e1,e2,e4,uJ,yR]
 rw [yr h0];rw [show decide ((M.length:Int)=0)=false by simp only [vD];omega] at e1;by_cases C5:64<M.length
 ·rw [yE C5];rw [show decide ((64:Int)<M.length)=true by simp only [xK];omega] at e2;have e4:bH P L (D P L) 125 [.ai true 2 [ab 0,ab 5]]=some (ab 5):=e3 0 5;simp only [xA,yJ,xd] at e1 e2;simp only [go_sem,ya,yb,yM,yy,yi,oZ,hv.len,hv.pu,hv.one,hv.cells,Mv,show ¬(M.length:Int)=0 by omega,yu,show (64:Int)<(M.length:Int) by omega,yv,e1,e2,e4,uJ,yR]
 ·rw [yr C5];rw [show decide ((64:Int)<M.length)=false by simp only [vD];omega] at e2;have e4:bH P L (D P L) 125 [.ai true 2 [ab 0,ab 0]]=some (ab 0):=e3 0 0;have e5:=aBw E6 hv hl (g:=126) (cap:=[.bZ [v]]) rfl (fun _ _=>rfl) (fun w a ha hw=>aBv h AP E5 hv (by omega) hw (hr a ha).1 (hr a ha).2);unfold ak at e5;simp only [yJ,xd] at e1 e2;simp only [go_sem,ya,yb,yM,yy,yi,oZ,hv.len,hv.pu,hv.ao,hv.one,hv.cells,Mv,show ¬(M.length:Int)=0 by omega,show ¬(64:Int)<(M.length:Int) by omega,yv,e1,e2,e4,e5,yu,yQ]
end
end
section
open Go (IntKind)
def cz.take {α β:Type} {p:α->β->Prop}:∀{l:List α} {m:List β} (i:Nat),cz p l m->cz p (l.take i) (m.take i)
 | [],[],i,_=>by simp [cz]
 | _::_,_::_,0,_=>trivial
 | _::_,_::_,i+1,h=>⟨h.1,cz.take i h.2⟩
def cz.set {α β:Type} {p:α->β->Prop}:∀{l:List α} {m:List β} (i:Nat) {a:α} {b:β},cz p l m->p a b->cz p (l.set i a) (m.set i b)
 | [],[],i,_,_,_,_=>by simp [cz]
 | _::_,_::_,0,_,_,h,k=>⟨k,h.2⟩
 | _::_,_::_,i+1,_,_,h,k=>⟨h.1,cz.set i h.2 k⟩
section
variable {P:aH} {L:Lib}
def azo (h:Ck P L) (Bp:Has P L 88 iE) (E7:Has P L 225 IP) {v:AV} {M:List (List (List Nat))} (hv:cx b6 v M) (hl:M.length<=1000000) (hr:∀r,r∈M->r.length<=1000000/\∀s,s∈r->cu s=0):∃r,ak P L 225 [v] r/\cx CG (shut r) (M.map (wE dB)):=by
 have key:=fN (P:=P) (L:=L) (live:=[3,6,7,8]) (a:=DU)
  (I:=fun k st=>∃(i:Nat) (rows:List AV),i+k=M.length/\cz CG rows ((M.take i).map (wE dB))/\st=⟨[(3,oV 0 i),(6,v),(7,ab M.length),(8,ab i)],oH 0 1 rows [] i,oC 0 i,0⟩)
  (Q:=fun ex st=>∃tm ct rows,st=⟨tm,oH 0 1 rows [] M.length,ct,0⟩/\ex= .exit 0/\aj tm 3=oV 0 M.length/\cz CG rows (M.map (wE dB))) ?_
 ·unfold ak;rw [aI E7];simp only [go_sem,ya,IP,hv.len];generalize hq:D P L (.loop [3,6,7,8] DU) _=q;obtain ⟨ex,st,rfl,tm,ct,rows,rfl,rfl,t3,hR⟩:=bI hq (key M.length) ⟨0,[],by omega,trivial,by simp only [go_sem,ya,av,au hv.pu,ax _ hv.pu]<;>rfl⟩
  have hlen:=hR.len;rw [yk] at hlen
  cases hn:M.length with
  | zero=>
   rw [hn] at t3;refine ⟨.aa,by simp only [go_sem,av,t3,oV,oH],?_⟩;rw [yC hn];exact Hb
  | succ n=>
   rw [hn] at t3 hlen;refine ⟨.bt false 1 (n+1) rows,?_,?_⟩
   ·simp only [go_sem,yb,av,t3,oV,oH];exact By (qt _ _ _) (by rw [hlen,yi]) (by decide)
   ·have:=DB false hR
    rwa [yk,hn] at this
 ·rintro k st ⟨i,rows,hk,hR,rfl⟩;by_cases hi:i<M.length
  ·left
   obtain ⟨r,rest,eN,e0⟩:=hv.aM hi;have hm:=hr _ (yp hi);obtain ⟨q,e1,hq⟩:=aBr h Bp eN hm.1 hm.2;have kH:=hq.fs;unfold ak at e1;have Pg:cz CG (rows++[shut q]) ((M.take (i+1)).map (wE dB)):=by
    rw [xa hi,xy];exact hR.snoc hq
   have hlen:=hR.len;rw [yk,yI,xE (by omega)] at hlen
   cases i with
   | zero=>
    have:rows=[]:=yC hlen
    subst this;simp only [go_sem,ya,yb,xM,yM,yy,yi,DU,oV,oH,oC,show ((0:Nat):Int)<M.length by omega,e0,eN.ao,e1,kH.pu,kH.one,kH.cells,im];refine ⟨_,k-1,rfl,by omega,1,_,by omega,Pg,?_⟩;rw [wrap64 (by omega) (by omega)];simp only [go_sem,ya,yb,av,au hv.pu,ax _ hv.pu]<;>rfl
   | succ i=>
    simp only [go_sem,ya,yb,yy,yi,DU,oV,oH,oC,show ((i+1:Nat):Int)<M.length by omega,e0,eN.ao,e1,kH.pu,kH.one,kH.cells]
    rw [gY (ex:=false) (pu:=true) (cs:=rows) (by simp only [go_sem,ya]) (by rw [hlen,yi]) (by omega) (by omega) (by decide) (by simp only [go_sem,kH.one])];simp only [go_sem,ya,yb,kH.pu];refine ⟨_,k-1,rfl,by omega,i+1+1,_,by omega,Pg,?_⟩;rw [wrap64 (by omega) (by omega)];simp only [go_sem,ya,yb,av,au hv.pu,ax _ hv.pu]<;>rfl
  ·right
   have:i=M.length:=by omega
   subst this;rw [xx] at hR;simp only [go_sem,ya,DU,show ¬(M.length:Int)<M.length by omega];exact ⟨_,_,rfl,by simp,_,_,rows,rfl,rfl,by simp only [go_sem,ya],hR⟩
def cz.imp {α β:Type} {p q:α->β->Prop} (h:∀a b,p a b->q a b):∀{l:List α} {m:List β},cz p l m->cz q l m
 | [],[],_=>trivial
 | _::_,_::_,⟨h1,h2⟩=>⟨h _ _ h1,cz.imp h h2⟩
def cx.imp {β:Type} {p q:AV->β->Prop} (h:∀a b,p a b->q a b) {v:AV} {s:List β} (hv:cx p v s):cx q v s:=by
 obtain ⟨rows,h1,h2⟩:=hv;exact ⟨rows,h1,h2.imp h⟩
def aj6 (h:Ck P L) (Bp:Has P L 88 iE) (E7:Has P L 225 IP) {v:AV} {M:List (List (List Nat))} (hv:cx b6 v M) (hl:M.length<=1000000) (hr:∀r,r∈M->r.length<=1000000/\∀s,s∈r->cu s=0):∃r,ak P L 225 [v] r/\cx da (shut r) (M.map (wE dB)):=by
 obtain ⟨r,h1,h2⟩:=azo h Bp E7 hv hl hr;exact ⟨r,h1,h2.imp fun _ _ h=>h.fs⟩
def aj7 (h:Fr' P L) (oO:Has P L 240 Cp) {u v vx vy:AV} {a b:List Rat} {x y:Rat} {K:Nat} (hu:da u a) (hv:da v b) (hx:dX vx x) (hy:dX vy y) (hl:a.length=b.length) (hn:a.length<=1000000) (ka:∀z,z∈a->Hq K z) (kb:∀z,z∈b->Hq K z) (kx:Hq K x) (ky:Hq K y) (hK:K<=2000000000):∃r,ak P L 240 [u,v,vx,vy] r/\da (shut r) (lj a b x y):=by
 have lc:=DJ (x:=x) (y:=y) hl;obtain ⟨x1,x2,x3,x4,rfl,gx⟩:=hx.gen;obtain ⟨y1,y2,y3,y4,rfl,gy⟩:=hy.gen;have key:=fN (P:=P) (L:=L) (live:=[0,1,6,7,9,12,13]) (a:=DX)
  (I:=fun k st=>∃(i:Nat) (cs:List AV),i+k=a.length/\QL cs ((lj a b x y).take i)/\st=⟨[(0,u),(1,v),(6,.ptr 0 0),(7,.ptr 1 0),(9,oV 2 i),(12,ab a.length),(13,ab i)],oH 2 4 cs [(1,.cells true true true 4 [y1,y2,y3,y4]),(0,.cells true true true 4 [x1,x2,x3,x4])] i,oC 2 i,0⟩)
  (Q:=fun ex st=>∃tm ct cs,st=⟨tm,oH 2 4 cs [(1,.cells true true true 4 [y1,y2,y3,y4]),(0,.cells true true true 4 [x1,x2,x3,x4])] a.length,ct,0⟩/\ex= .exit 0/\aj tm 9=oV 2 a.length/\QL cs (lj a b x y)) ?_
 ·unfold ak;rw [aI oO];simp only [go_sem,ya,yb,Cp,hu.len,gx.bx,gy.bx];generalize hq:D P L (.loop [0,1,6,7,9,12,13] DX) _=q;obtain ⟨ex,st,rfl,tm,ct,cs,rfl,rfl,t9,hQ⟩:=bI hq (key a.length) ⟨0,[],by omega,trivial,by simp only [go_sem,ya,yb,av,au hu.pu,ax _ hu.pu,au hv.pu,ax _ hv.pu]<;>rfl⟩
  have hlen:=hQ.len;rw [lc] at hlen
  cases hn:a.length with
  | zero=>
   rw [hn] at t9;refine ⟨.aa,by simp only [go_sem,av,t9,oV,oH],?_⟩;rw [yC (lc.trans hn)];exact api
  | succ n=>
   rw [hn] at t9 hlen;refine ⟨.bt false 4 (n+1) cs,?_,?_⟩
   ·simp only [go_sem,yb,av,t9,oV,oH];exact By (qt _ _ _) hlen (by decide)
   ·have:=QE false hQ
    rwa [lc,hn] at this
 ·rintro k st ⟨i,cs,hk,hQ,rfl⟩;by_cases hi:i<a.length
  ·left
   obtain ⟨p1,p2,p3,p4,pr,e1,hp⟩:=hu.aM hi;obtain ⟨q1,q2,q3,q4,qr,e2,hq⟩:=hv.aM (i:=i) (by omega);have kp:=ka _ (yp hi);have kq:=kb _ (yp (show i<b.length by omega));obtain ⟨s,e3,hs⟩:=m49 h hp hx kp kx (by omega);obtain ⟨t,e4,ht⟩:=m49 h hq hy kq ky (by omega);obtain ⟨z,e5,hz⟩:=m74 h hs ht ((kp.mul kx).mono (show K+K<=2*K by omega)) ((kq.mul ky).mono (show K+K<=2*K by omega)) (by omega);have fk:=hz;obtain ⟨s1,s2,s3,s4,rfl,gs⟩:=hs.gen;obtain ⟨t1,t2,t3,t4,rfl,gt⟩:=ht.gen;obtain ⟨z1,z2,z3,z4,rfl,gz⟩:=hz.gen;have gp:=hp.f4;have gq:=hq.f4;have bz:∀q,qR q [AV.int .i64 0,.aa,.int .i64 0,.aa] 0 4 [z1,z2,z3,z4] []=fill q [z1,z2,z3,z4] []:=fun q=>axD gz.o1 gz.o2 gz.o3 gz.o4
   obtain ⟨Zr,Zs,Zt,Zu⟩:=gz.Pe;have pY:aG [z1,z2,z3,z4]=true:=by simp only [aG,Zr,Zs,Zt,Zu,wN]
   unfold ak at e3 e4 e5;have Dc:QL (cs++[z1,z2,z3,z4]) ((lj a b x y).take (i+1)):=by
    rw [xa (by omega),LX hi (by omega)];exact hQ.snoc fk
   have hlen:=hQ.len;rw [yI,lc,xE (by omega)] at hlen
   cases i with
   | zero=>
    have:cs=[]:=yC (by omega)
    subst this;simp only [go_sem,ya,yb,xM,yM,yy,DX,oV,oH,oC,show ((0:Nat):Int)<a.length by omega,e1,e2,oN,qM,gx.ao,gy.ao,gp.ao,gq.ao,e3,e4,bW,gs.ao,gt.ao,e5,bz,Zr,Zs,Zt,Zu,wN,ahP,im];refine ⟨_,k-1,rfl,by omega,1,_,by omega,Dc,?_⟩;rw [wrap64 (by omega) (by omega)];simp only [go_sem,ya,yb,av,au hu.pu,ax _ hu.pu,au hv.pu,ax _ hv.pu]<;>rfl
   | succ i=>
    simp only [go_sem,ya,yb,xM,DX,oV,oH,oC,show ((i+1:Nat):Int)<a.length by omega,e1,e2,oN,qM,gx.ao,gy.ao,gp.ao,gq.ao,e3,e4,bW,gs.ao,gt.ao,e5,bz,Zr,Zs,Zt,Zu,wN,ahP]
    rw [gY (ex:=false) (pu:=true) (cs:=cs) (by simp only [go_sem,ya]) hlen (by omega) (by omega) (by decide) (by simp only [go_sem,gz.o1,gz.o2,gz.o3,gz.o4])];simp only [go_sem,ya,yb,pY];refine ⟨_,k-1,rfl,by omega,i+1+1,_,by omega,Dc,?_⟩;rw [wrap64 (by omega) (by omega)];simp only [go_sem,ya,yb,av,au hu.pu,ax _ hu.pu,au hv.pu,ax _ hv.pu]<;>rfl
  ·right
   have:i=a.length:=by omega
   subst this;rw [yN (by omega)] at hQ;simp only [go_sem,ya,DX,show ¬(a.length:Int)<a.length by omega];exact ⟨_,_,rfl,by simp,_,_,cs,rfl,rfl,by simp only [go_sem,ya],hQ⟩
end
end
section
open Go (IntKind)
def aj8 (a:Rat):decide (db a.num=0)=decide (a=0):=by
 have:db a.num=0↔a=0:=by
  rw [<-Rat.num_eq_zero];unfold db
  grind
 grind
def At {rows:List AV} {p:Nat} (h:p<rows.length):vZ p rows=rows[p]::vZ (p+1) rows:=by simp_all
def MD {hp:Hp} {ct id at_:Nat} {ex:Bool} {r:AV} {rows:List AV} (h:at_<rows.length) (h1:dc r=true) (h2:aZ r=true):gU hp ct id at_ 1 [r] (some (.cells true true ex 1 rows))=some (.ae [],bc hp id (.cells true true ex 1 (rows.set at_ r)),ct):=by
 rw [qQ (by rfl) (by omega) (by simp [cm,h1])]
 have:over at_ [r] rows=rows.set at_ r:=by
  simp only [over,yG,yO,yg];rw [vz,yE h]
  simp
 rw [this];simp [aG,h2]
def apk {hp:Hp} {id n h:Nat} {rw' pu ex:Bool} {cs:List AV} {tm:Env} {y:X} (hg:aB hp id=some (.cells rw' pu ex 1 cs)) (hy:dl (aE tm y)=some h) (h2:h<=n):
  eV hp (.sl 1) (.aC id 0 n) tm none (some y)=some (.aC id 0 h):=by
 have e1:cW tm 0 none=some 0:=rfl;have e2:cW tm n (some y)=some h:=hy;have e3:(yx 0 h&& !true)=false:=by simp_all
 simp only [eV,hg,e1,e2,yt (uG h),yt h2,vd,wN,yB,e3,yS,Nat.zero_mul,Nat.add_zero,Nat.sub_zero]
def Oj (hp:Hp) (ct sz:Nat) (q:Option (Nat×List AV)) (d:AV):fJ:=
 match q,d with
 | some (m,new),.aC id o n=>
  match aB hp id with
  | some (.cells true pu ex z cs)=>
   bif yx z sz&&(yF (o+n*sz) cs.length&&cm new) then
    some (.int .i64 (min m n:Nat),bc hp id (.cells true (pu&&aG new) ex z (over o (new.take (min m n*sz)) cs)),ct)
   else none
  | _=>none
 | _,_=>none
def axG {P:aH} {L:Lib} {f:cy} {tm:Env} {hp:Hp} {ct:Nat} (sz:Nat) (d s:X):a8 P L f tm hp ct (.mf sz d s)=Oj hp ct sz (lE hp sz (aE tm s)) (aE tm d):=by
 show cI tm hp ct (.mf sz d s)=_
 simp only [cI,Oj]
 cases lE hp sz (aE tm s) with
 | none=>rfl
 | some q=>obtain ⟨m,new⟩:=q;cases aE tm d<;>rfl
def atK {hp:Hp} {ct id n:Nat} {ex:Bool} {cs new:List AV} (hg:aB hp id=some (.cells true true ex 1 cs)) (hl:cs.length=n) (hn:new.length=n) (ho:cm new=true) (ap:aG new=true):Oj hp ct 1 (some (n,new)) (.aC id 0 n)=some (.int .i64 n,bc hp id (.cells true true ex 1 new),ct):=by
 have e:over 0 (new.take (min n n*1)) cs=new:=by
  simp only [over,tO,List.nil_append,yg]
  grind
 simp only [Oj,hg,vd,yg,yi,hl,yt (yo n),ho,wN,yB,ap,Nat.min_self]
 grind
def apl {rows:List AV} {m:Mx} (h:cz da rows m):cm rows=true/\aG rows=true:=by
 induction rows generalizing m with
 | nil=>exact ⟨rfl,rfl⟩
 | cons a r ih=>
  cases m with
  | nil=>exact h.elim
  | cons b s=>
   obtain ⟨h1,h2⟩:=ih h.2;exact ⟨by simp [cm,h1,h.1.one],by simp [aG,h2,h.1.pu]⟩
def anE {rows GJ:List AV} {n k:Nat} (hl:rows.length=n) (hk:k<=n) (hp:GJ.length=k):result [(1,.cells true true false 1 GJ),(0,.cells true true true 1 rows)] (.ae [.aC 0 0 k,.aC 1 0 k])=some (.ae [.bt (yx k n) 1 k (rows.take k),.bt false 1 k GJ]):=by
 have h1:DK [.aC 0 0 k,.aC 1 0 k]=some [0,1]:=rfl;have e2:Nat.blt 0 1=true:=rfl;have g0:aB [(1,Obj.cells true true false 1 GJ),(0,.cells true true true 1 rows)] 0=some (.cells true true true 1 rows):=rfl;have g1:aB (dU [(1,Obj.cells true true false 1 GJ),(0,.cells true true true 1 rows)] 0) 1=some (.cells true true false 1 GJ):=rfl;simp only [result,h1,r9,od,g0,g1,yg,yi,hl,hp,yt hk,yt (yo k),yB,e2,ue,xH,xO,slice,yH]
 grind
def amT {rows:List AV} {n:Nat} (hl:rows.length=n) (hn:0<n):result [(0,.cells true true true 1 rows)] (.ae [.aC 0 0 0,.aa])=some (.ae [.bt false 1 0 [],.aa]):=by
 have h1:DK [.aC 0 0 0,.aa]=some [0]:=rfl;have e2:Nat.blt 0 1=true:=rfl;have g0:aB [(0,Obj.cells true true true 1 rows)] 0=some (.cells true true true 1 rows):=rfl;have e3:yx 0 n=false:=fY (by omega);have e4:∀ap,od deep ap AV.aa=some (.aa,ap):=fun _=>rfl
 simp only [result,h1,r9,e4];simp only [od,g0,yg,yi,hl,yt (uG n),yB,e2,ue,xH,slice,yH,e3,tO]
def b3 (rows o z:List AV):Hp:=[(2,.cells true true true 4 z),(1,.cells true true true 4 o),(0,.cells true true true 1 rows)]
section
variable {P:aH} {L:Lib}
def axH (h:Fr' P L) {rows o z pv:List AV} {m:Mx} (hR:cz da rows m) {w:Nat} (hw:wid w m) {c:Nat} (hc:c<w) {n:Nat} (hn:m.length=n) (ja:n<=1000) {k a W F:Nat}:
  ∀(d:Nat) (st:St),(∃p:Nat,aQ [4,5,6,7,8,9,10,11,24,25] st=⟨[(4,.aC 0 0 n),(5,.fn (.f 240) [] []),(6,.ptr 1 0),(7,.ptr 2 0),(8,oV 3 k),(9,ab c),(10,ab a),(11,ab p),(24,ab W),(25,ab c)],oH 3 1 pv (b3 rows o z) k,oC 3 k,0⟩/\p+d=n/\mo m c d p=F)->
   ∃ex s',D P L (.loop [4,5,6,7,8,9,10,11,24,25] BS) st=some (ex,s')/\∃tm ct,s'=⟨tm,oH 3 1 pv (b3 rows o z) k,ct,0⟩/\ex= .exit 2/\aj tm 4= .aC 0 0 n/\aj tm 5= .fn (.f 240) [] []/\aj tm 6= .ptr 1 0/\aj tm 7= .ptr 2 0/\aj tm 8=oV 3 k/\aj tm 9=ab c/\aj tm 10=ab a/\aj tm 11=ab F/\aj tm 24=ab W/\aj tm 25=ab c:=by
 intro dq sq;generalize bk:aQ [4,5,6,7,8,9,10,11,24,25] sq=s0;revert bk s0 sq dq;apply di;rintro d st ⟨p,rfl,hpd,hF⟩;have lr:=hR.len;by_cases hp:p<m.length
 ·have gF:p<rows.length:=by omega
  have rS:p<n:=by omega
  have h0:=hR.get gF hp;have wp:=hw p hp;rw [dS hp] at wp;obtain ⟨a1,a2,a3,a4,r,e1,hx⟩:=h0.aM (i:=c) (by omega);have e2:=ajA h hx;have gx:=hx.f4;obtain ⟨d,rfl⟩:∃d',d=d'+1:=⟨d-1,by omega⟩;simp only [mo,dS hp,fE (show c<m[p].length by omega)] at hF;have e3:=aj8 (m[p][c]'(by omega));unfold ak at e2;by_cases hz:m[p][c]'(by omega)=0
  ·left
   rw [yE hz] at hF;rw [xi hz] at e3;cases k
   all_goals
    simp only [oV,oH,oC,b3];simp only [go_sem,ya,yb,yi,BS,show (p:Int)<n by omega,yu,cp 0 0 rS,yg,At gF,Cb,e1,oN,qM,gx.ao,e2,e3];refine ⟨_,d,rfl,by omega,p+1,?_,by omega,hF⟩;rw [wrap64 (by omega) (by omega)];simp only [go_sem,ya,yb,av]<;>rfl
  ·right
   rw [yr hz] at hF;subst hF;rw [y7 hz] at e3;cases k
   all_goals
    simp only [oV,oH,oC,b3];simp only [go_sem,ya,yb,yi,BS,show (p:Int)<n by omega,yu,cp 0 0 rS,yg,At gF,Cb,e1,oN,qM,gx.ao,e2,e3];exact ⟨_,_,rfl,by simp,_,_,rfl,rfl,by simp only [go_sem,ya],by simp only [go_sem,ya],by simp only [go_sem,ya],by simp only [go_sem,ya],by simp only [go_sem,ya],by simp only [go_sem,ya],by simp only [go_sem,ya],by simp only [go_sem,ya],by simp only [go_sem,ya],by simp only [go_sem,ya]⟩
 ·right
  have:d=0:=by omega
  subst this;simp only [mo] at hF;subst hF;cases k
  all_goals
   simp only [oV,oH,oC,b3];simp only [go_sem,ya,yb,BS,show ¬(p:Int)<n by omega,yv];exact ⟨_,_,rfl,by simp,_,_,rfl,rfl,by simp only [go_sem,ya],by simp only [go_sem,ya],by simp only [go_sem,ya],by simp only [go_sem,ya],by simp only [go_sem,ya],by simp only [go_sem,ya],by simp only [go_sem,ya],by simp only [go_sem,ya],by simp only [go_sem,ya],by simp only [go_sem,ya]⟩
def axI (h:Fr' P L) (oO:Has P L 240 Cp) {o1 o2 o3 o4:AV} {z pv:List AV} {m:Mx} {w:Nat} (hw:wid w m) {c:Nat} (hc:c<w) (CV:w<=1000) {n:Nat} (hn:m.length=n) (ja:n<=1000) {a:Nat} (ha:a<m.length) {K:Nat} (hk:∀i,i<=m.length->ep K (fg m a c i)) (rV:2<=K) (hK:K<=2000000000) (ho:dX (.agg [o1,o2,o3,o4]) 1) {k W:Nat}:
  ∀(d:Nat) (st:St),(∃(i:Nat) (rows:List AV),aQ [4,5,6,7,8,9,10,24,25,89,90] st=⟨[(4,.aC 0 0 n),(5,.fn (.f 240) [] []),(6,.ptr 1 0),(7,.ptr 2 0),(8,oV 3 k),(9,ab c),(10,ab a),(24,ab W),(25,ab c),(89,ab n),(90,ab i)],oH 3 1 pv (b3 rows [o1,o2,o3,o4] z) k,oC 3 k,0⟩/\i+d=n/\cz da rows (fg m a c i))->
   ∃ex s',D P L (.loop [4,5,6,7,8,9,10,24,25,89,90] BT) st=some (ex,s')/\∃tm ct rows,s'=⟨tm,oH 3 1 pv (b3 rows [o1,o2,o3,o4] z) k,ct,0⟩/\ex= .exit 4/\aj tm 4= .aC 0 0 n/\aj tm 5= .fn (.f 240) [] []/\aj tm 6= .ptr 1 0/\aj tm 7= .ptr 2 0/\aj tm 8=oV 3 k/\aj tm 9=ab c/\aj tm 24=ab W/\aj tm 25=ab c/\cz da rows (fg m a c n):=by
 intro dq sq;generalize bk:aQ [4,5,6,7,8,9,10,24,25,89,90] sq=s0;revert bk s0 sq dq;apply di;rintro d st ⟨i,rows,rfl,hid,hR⟩;have lr:=hR.len;have le:=z7 m a c i;have go:=ho.f4;by_cases hi:i<m.length
 ·left
  have Ph:i<rows.length:=by omega
  have ej:i<n:=by omega
  have han:a<n:=by omega
  have Pj:i<(fg m a c i).length:=by omega
  have har:a<rows.length:=by omega
  have Pk:a<(fg m a c i).length:=by omega
  have h0:=hR.get Ph Pj;have hA:=hR.get har Pk;have wi:=hw.fg ha c i (by omega) i Pj;have wa:=hw.fg ha c i (by omega) a Pk;have ki:=hk i (by omega) i Pj;have kA:=hk i (by omega) a Pk;have rW:fg m a c (i+1)=rU (fg m a c i) a c i:=rfl;unfold rU at rW;rw [dS Pj] at wi ki rW;rw [dS Pk] at wa kA rW;obtain ⟨a1,a2,a3,a4,r,e1,hx⟩:=h0.aM (i:=c) (by omega);have e2:=ajA h hx;have gx:=hx.f4;have e3:=aj8 ((fg m a c i)[i][c]'(by omega));rw [fE (show c<(fg m a c i)[i].length by omega)] at rW;have kx:=ki _ (yp (show c<(fg m a c i)[i].length by omega));have Zv:IntKind.wrap .i64 ((i:Int)+1)=((i+1:Nat):Int):=wrap64 (by omega) (by omega);unfold ak at e2;by_cases jc:i=a
  ·subst jc;rw [yr (fun q=>q.1 rfl)] at rW;rw [<-rW] at hR;cases k
   all_goals
    simp only [oV,oH,oC,b3];simp only [go_sem,ya,yb,BT,show (i:Int)<n by omega,yu,yQ];refine ⟨_,d-1,rfl,by omega,i+1,rows,?_,by omega,hR⟩;rw [Zv];simp only [go_sem,ya,yb,av]<;>rfl
  ·by_cases hz:(fg m a c i)[i][c]'(by omega)=0
   ·rw [yr (fun q=>q.2 hz)] at rW;rw [<-rW] at hR;rw [xi hz] at e3;cases k
    all_goals
     simp only [oV,oH,oC,b3];simp only [go_sem,ya,yb,yi,BT,show (i:Int)<n by omega,yu,show ¬(i:Int)=a by omega,yv,yR,cp 0 0 ej,yg,At Ph,Cb,e1,oN,qM,gx.ao,e2,e3,yQ];refine ⟨_,d-1,rfl,by omega,i+1,rows,?_,by omega,hR⟩;rw [Zv];simp only [go_sem,ya,yb,av]<;>rfl
   ·rw [yE ⟨jc,hz⟩] at rW;rw [y7 hz] at e3;obtain ⟨ng,e4,hng⟩:=ajB h hx kx (by omega);obtain ⟨y,e5,hy⟩:=aj7 h oO h0 hA ho hng (by omega) (by omega) ki kA (XN.mono (by omega)) kx.neg hK;obtain ⟨n1,n2,n3,n4,rfl,gn⟩:=hng.gen;have Pg:cz da (rows.set i (shut y)) (fg m a c (i+1)):=by rw [rW];exact hR.set i hy
    unfold ak at e4 e5;cases k
    all_goals
     simp only [oV,oH,oC,b3];simp only [go_sem,ya,yb,yi,BT,show (i:Int)<n by omega,yu,show ¬(i:Int)=a by omega,yv,yR,cp 0 0 ej,cp 0 0 han,yg,At Ph,At har,Cb,e1,oN,iT,yH,gx.ao,e2,e3,e4,bW,h0.ao,hA.ao,go.ao,gn.ao,e5,hy.cells,MD Ph hy.one hy.pu];refine ⟨_,d-1,rfl,by omega,i+1,_,?_,by omega,Pg⟩;rw [Zv];simp only [go_sem,ya,yb,av]<;>rfl
 ·right
  have:i=n:=by omega
  subst this;cases k
  all_goals
   simp only [oV,oH,oC,b3];simp only [go_sem,ya,yb,BT,show ¬(i:Int)<i by omega,yv];exact ⟨_,_,rfl,by simp,_,_,rows,rfl,rfl,by simp only [go_sem,ya],by simp only [go_sem,ya],by simp only [go_sem,ya],by simp only [go_sem,ya],by simp only [go_sem,ya],by simp only [go_sem,ya],by simp only [go_sem,ya],by simp only [go_sem,ya],hR⟩
end
end
end VE
