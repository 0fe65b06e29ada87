import Derived.Test.YtlkgmaenobiooaaGreatDoorTaw
import Derived.Test.YtlkgmaenobiooaaGreatDoorTav
import Derived.Test.YtlkgmaenobiooaaGreatDoorTaq
import Derived.Test.YtlkgmaenobiooaaGreatDoorTai
set_option linter.all false
set_option maxRecDepth 100000
open Bool renaming and_eq_true→yg,and_self→we,and_true→tM,false_and→wg,false_eq_true→yE,not_false→yH,not_true→yI,or_self→ybI,or_true→ybH,true_and→xV,true_eq_false→yar,true_or→tA
open Int renaming natAbs_natCast→yQ,toNat_natCast→xC
open List renaming append_nil→wG,drop_eq_getElem_cons→yX,drop_eq_nil_of_le→xn,drop_left→uN,drop_zero→ye,flatten_cons→vH,foldl_append→yaC,foldl_cons→yaN,foldl_nil→yaY,getElem_cons_succ→vm,getElem_cons_zero→wF,getElem_map→uV,getElem_mem→wN,length_append→yU,length_cons→yx,length_drop→wm,length_map→xq,length_nil→yJ,length_take→yR,map_cons→xi,map_nil→wH,mem_cons→wb,mem_cons_of_mem→xg,mem_cons_self→xy,mem_of_mem_take→vI,not_mem_nil→wX,replicate→yF,take_left→uM,take_length→xW,take_of_length_le→yK,take_succ_eq_append_getElem→xH
open List.cons renaming injEq→vU
open Nat renaming beq→yu,ble→yG,ble_eq_true_of_le→yy,gcd→wu,le_of_ble_eq_true→yv,le_refl→yA,le_trans→yS,lt_of_lt_of_le→yO,mul_one→yj,not_lt_zero→yaU,pow_le_pow_right→xx,reduceAdd→yb,reduceEqDiff→ya,reduceLT→yr,reduceLeDiff→yi,zero_add→yd
open Option.some renaming inj→xQ
open Rat renaming add_zero→tq,divInt→xF,le_refl→uv,lt_irrefl→tN,neg_zero→uW,not_le→ycf,not_lt→yaD,num_eq_zero→yaX,sub_eq_add_neg→wE
namespace VE
section
open Go (IntKind)
def ajT (n:Int) (d:Nat):V3 true n d= .af [ab n,ab d,.bool true]:=rfl
def LK {a b:Int} (ha:a.natAbs<1000000000) (hb:b.natAbs<1000000000):(a*b).natAbs<1000000000000000000:=by
 rw [Int.natAbs_mul];exact yO (Nat.mul_lt_mul'' ha hb) (by decide)
section
variable {P:aJ} {L:Lib}
def WH (h:Rm P L) {a b:Int} (ha: -4000000000000000000<=a/\a<=4000000000000000000) (hb:0<b/\b<=4000000000000000000):ai P L 277 [ab a,ab b] (.str (RT (xF a b))):=by
 rw [ajS hb.1];exact aDP h.aEI h.abl h.p6 ha hb
def P3 (h:Rp P L) {a:Rat} {K:Nat} (ka:Hq K a) (hK:K<=8000000000):∃q:Bool,ai P L 276 [.str (RT a)] (V3 q a.num a.den)/\(q=true->a.num.natAbs<1000000000/\a.den<1000000000):=
 aDQ h.aEN h.AI h.AJ (n:=a.num) (d:=a.den) (by have:=pK ka;rw [LJ] at this;omega)
def gL (h:Rn P L) {a b:Rat} {K M:Nat} (ka:Hq K a) (kb:Hq M b) (hK:K+M<=8000000000):ai P L 267 [.str (RT a),.str (RT b)] (.str (RT (a*b))):=by
 obtain ⟨q1,e1,b1⟩:=P3 h.toRp ka (by omega);obtain ⟨q2,e2,b2⟩:=P3 h.toRp kb (by omega);have aEW:=FY a b;by_cases hq:(q1=true/\q2=true)
 ·obtain ⟨rfl,rfl⟩:=hq;obtain ⟨b11,b12⟩:=b1 rfl;obtain ⟨b21,b22⟩:=b2 rfl;have p1:=LK b11 b21;have p2:=LK (a:=(a.den:Int)) (b:=(b.den:Int)) (by omega) (by omega);have e3:=WH h.toRm (a:=a.num*b.num) (b:=(a.den:Int)*b.den) (by omega) (by omega);rw [<-mul_eq] at e3;rw [ajT] at e1 e2;unfold ai at e1 e2 e3 ⊢;rw [ax h.anV]
  simp only [go_sem,ya,LZ,e1,e2,wrap64 (n:=a.num*b.num) (by omega) (by omega),wrap64 (n:=(a.den:Int)*(b.den:Int)) (by omega) (by omega),e3]
 ·have cm:∃n1 d1 n2 d2,bZ P L (D P L) 276 [.str (RT a)]=some (.af [ab n1,ab d1,.bool q1])/\bZ P L (D P L) 276 [.str (RT b)]=some (.af [ab n2,ab d2,.bool q2]):=by
   cases q1<;>cases q2<;>exact ⟨_,_,_,_,e1,e2⟩
  obtain ⟨n1,d1,n2,d2,e1,e2⟩:=cm;obtain ⟨x,y,e3,hx,hy⟩:=G1 h.toRm ka (by omega);obtain ⟨z,w,e4,hz,hw⟩:=G1 h.toRm kb (by omega);have Ia:max K M<=8000000000:=by omega
  obtain ⟨r,e5,hr⟩:=MQ (K:=max K M) h.MS h.lC h.iL h.cZ Ia hx hz (ka.1.mono (by omega)).r (kb.1.mono (by omega)).r;obtain ⟨s,e6,hs⟩:=MQ (K:=max K M) h.MS h.lC h.iL h.cZ Ia hy hw (ka.2.mono (by omega)).r (kb.2.mono (by omega)).r;have e7:=WG h.toRm hK hr hs (ka.1.mul kb.1) (ka.2.mul kb.2) (by omega);rw [<-mul_eq] at e7;obtain ⟨xw,xl,rfl,dX,_,_,_⟩:=hx;obtain ⟨yw,yl,rfl,dY,_,_,_⟩:=hy;obtain ⟨zw,zl,rfl,pg,_,_,_⟩:=hz;obtain ⟨ww,wl,rfl,ph,_,_,_⟩:=hw;obtain ⟨fm,rl,rfl,oS,_,_,_⟩:=hr;obtain ⟨sw,sl,rfl,gE,_,_,_⟩:=hs;have hb:¬(q1=true/\q2=true):=hq;unfold ai at e3 e4 e5 e6 e7 ⊢;rw [ax h.anV]
  cases q1 with
  | false=>
   simp only [go_sem,ya,yb,LZ,az,e1,e2,e3,e4,dX.pu,dX.ao,dX.one,dY.pu,dY.ao,dY.one,pg.pu,pg.ao,pg.one,ph.pu,ph.ao,ph.one,oS.ao,gE.ao,aU,bq,mu,bP,cp,e5,e6,e7]
  | true=>
   cases q2 with
   | true=>exact absurd ⟨rfl,rfl⟩ hb
   | false=>
    simp only [go_sem,ya,yb,LZ,az,e1,e2,e3,e4,dX.pu,dX.ao,dX.one,dY.pu,dY.ao,dY.one,pg.pu,pg.ao,pg.one,ph.pu,ph.ao,ph.one,oS.ao,gE.ao,aU,bq,mu,bP,cp,e5,e6,e7]
def rC (h:Rp P L) {a b:Rat} {K M:Nat} (ka:Hq K a) (kb:Hq M b) (hK:K+M+1<=8000000000):ai P L 264 [.str (RT a),.str (RT b)] (.str (RT (a+b))):=by
 obtain ⟨q1,e1,b1⟩:=P3 h ka (by omega);obtain ⟨q2,e2,b2⟩:=P3 h kb (by omega);have aEW:=FY a b;by_cases hq:(q1=true/\q2=true)
 ·obtain ⟨rfl,rfl⟩:=hq;obtain ⟨b11,b12⟩:=b1 rfl;obtain ⟨b21,b22⟩:=b2 rfl;have p1:=LK (a:=a.num) (b:=(b.den:Int)) (by omega) (by omega);have p2:=LK (a:=b.num) (b:=(a.den:Int)) (by omega) (by omega);have p3:=LK (a:=(a.den:Int)) (b:=(b.den:Int)) (by omega) (by omega);have e3:=WH h.toRm (a:=a.num*b.den+b.num*a.den) (b:=(a.den:Int)*b.den) (by omega) (by omega);rw [<-add_eq] at e3;rw [ajT] at e1 e2;unfold ai at e1 e2 e3 ⊢;rw [ax h.anU]
  simp only [go_sem,ya,LY,e1,e2,wrap64 (n:=a.num*(b.den:Int)) (by omega) (by omega),wrap64 (n:=b.num*(a.den:Int)) (by omega) (by omega),wrap64 (n:=a.num*(b.den:Int)+b.num*(a.den:Int)) (by omega) (by omega),wrap64 (n:=(a.den:Int)*(b.den:Int)) (by omega) (by omega),e3]
 ·have cm:∃n1 d1 n2 d2,bZ P L (D P L) 276 [.str (RT a)]=some (.af [ab n1,ab d1,.bool q1])/\bZ P L (D P L) 276 [.str (RT b)]=some (.af [ab n2,ab d2,.bool q2]):=by
   cases q1<;>cases q2<;>exact ⟨_,_,_,_,e1,e2⟩
  obtain ⟨n1,d1,n2,d2,e1,e2⟩:=cm;obtain ⟨x,y,e3,hx,hy⟩:=G1 h.toRm ka (by omega);obtain ⟨z,w,e4,hz,hw⟩:=G1 h.toRm kb (by omega);have Ia:max K M<=8000000000:=by omega
  obtain ⟨r,e5,hr⟩:=MQ (K:=max K M) h.MS h.lC h.iL h.cZ Ia hx hw (ka.1.mono (by omega)).r (kb.2.mono (by omega)).r;obtain ⟨r2,e52,lH⟩:=MQ (K:=max K M) h.MS h.lC h.iL h.cZ Ia hz hy (kb.1.mono (by omega)).r (ka.2.mono (by omega)).r;obtain ⟨s,e6,hs⟩:=MQ (K:=max K M) h.MS h.lC h.iL h.cZ Ia hy hw (ka.2.mono (by omega)).r (kb.2.mono (by omega)).r;have k1:Bd (K+M) (a.num*b.den):=ka.1.mul kb.2;have k2:Bd (K+M) (b.num*a.den):=(kb.1.mul ka.2).mono (by omega);obtain ⟨t,e8,ht⟩:=aEz (K:=K+M) h.aEO h.Sk h.oN h.Sl h.mQ h.iL h.cZ (by omega) hr lH k1.r k2.r;have e7:=WG h.toRm hK ht hs (k1.ML k2) ((ka.2.mul kb.2).mono (by omega)) (by omega);rw [<-add_eq] at e7;obtain ⟨xw,xl,rfl,dX,_,_,_⟩:=hx;obtain ⟨yw,yl,rfl,dY,_,_,_⟩:=hy;obtain ⟨zw,zl,rfl,pg,_,_,_⟩:=hz;obtain ⟨ww,wl,rfl,ph,_,_,_⟩:=hw;obtain ⟨fm,rl,rfl,oS,_,_,_⟩:=hr
  obtain ⟨rw2,rl2,rfl,an1,_,_,_⟩:=lH;obtain ⟨tw,tl,rfl,htw,_,_,_⟩:=ht;obtain ⟨sw,sl,rfl,gE,_,_,_⟩:=hs;have hb:¬(q1=true/\q2=true):=hq;unfold ai at e3 e4 e5 e52 e6 e7 e8 ⊢;rw [ax h.anU]
  cases q1 with
  | false=>
   simp only [go_sem,ya,yb,LY,az,e1,e2,e3,e4,dX.pu,dX.ao,dX.one,dY.pu,dY.ao,dY.one,pg.pu,pg.ao,pg.one,ph.pu,ph.ao,ph.one,oS.ao,an1.ao,htw.ao,gE.ao,aU,bq,mu,bP,cp,e5,e52,e8,e6,e7]
  | true=>
   cases q2 with
   | true=>exact absurd ⟨rfl,rfl⟩ hb
   | false=>
    simp only [go_sem,ya,yb,LY,az,e1,e2,e3,e4,dX.pu,dX.ao,dX.one,dY.pu,dY.ao,dY.one,pg.pu,pg.ao,pg.one,ph.pu,ph.ao,ph.one,oS.ao,an1.ao,htw.ao,gE.ao,aU,bq,mu,bP,cp,e5,e52,e8,e6,e7]
def Cw (h:Rp P L) {a b:Rat} {K M:Nat} (ka:Hq K a) (kb:Hq M b) (hK:K+M+1<=8000000000):ai P L 271 [.str (RT a),.str (RT b)] (.str (RT (a-b))):=by
 have e1:=alV h kb (by omega);have e2:=rC h ka kb.neg hK;rw [<-wE] at e2;unfold ai at e1 e2 ⊢;rw [ax h.aEM];simp only [go_sem,ya,W7,e1,e2]
def inv_divInt (a:Rat) (h:a≠0):a⁻¹=xF (a.den:Int) a.num:=by
 rw [Rat.inv_def]
def alW (h:Rn P L) (mS:Has P L 283 Aw) {a:Rat} {K:Nat} (ka:Hq K a) (hK:K<=8000000000) (h0:a≠0):ai P L 283 [.str (RT a)] (.str (RT a⁻¹)):=by
 obtain ⟨x,y,e3,hx,hy⟩:=G1 h.toRm ka hK;have hn:a.num≠0:=fun e=>h0 (yaX.1 e)
 have e7:=WG h.toRm hK hy hx ka.2 ka.1 hn;rw [<-inv_divInt a h0] at e7;obtain ⟨xw,xl,rfl,dX,_,_,_⟩:=hx;obtain ⟨yw,yl,rfl,dY,_,_,_⟩:=hy;unfold ai at e3 e7 ⊢;rw [ax mS];simp only [go_sem,ya,yb,Aw,az,e3,dX.pu,dX.ao,dX.one,dY.pu,dY.ao,dY.one,aU,mu,bP,cp,e7]
def LL (h:Rn P L) (AP:Has P L 266 Hs) (mS:Has P L 283 Aw) {a b:Rat} {K M:Nat} (ka:Hq K a) (kb:Hq M b) (hK:K+M<=8000000000) (h0:b≠0):ai P L 266 [.str (RT a),.str (RT b)] (.str (RT (a/b))):=by
 have e1:=alW h mS kb (by omega) h0;have e2:=gL h ka kb.inv hK;rw [<-Rat.div_def] at e2;unfold ai at e1 e2 ⊢;rw [ax AP];simp only [go_sem,ya,Hs,e1,e2]
def P4 (h:Rx P L) {a b:Rat} {K M:Nat} (ka:Hq K a) (kb:Hq M b) (hK:K+M<=8000000000) (h0:b≠0):ai P L 266 [.str (RT a),.str (RT b)] (.str (RT (a/b))):=LL h.toRn h.AP h.mS ka kb hK h0
end
end
section
open Go (IntKind)
def afR {P:aJ} {L:Lib} (a b c d:VC) (s:St):D P L (.seq a (.seq b (.seq c d))) s=nF P L (D P L (.seq a (.seq b c)) s) d:=by
 have e:=DS (P:=P) (L:=L) b c d;rw [kA,kA]
 cases D P L a s with
 | none=>rfl
 | some q=>
  obtain ⟨ex,st⟩:=q
  cases ex with
  | normal=>rw [fY,fY];exact e st
  | ret=>rfl
  | exit id=>rfl
def pL {a b:List Nat} (h:a≠b):bQ a b=false:=by
 cases hb:bQ a b with
 | false=>rfl
 | true=>exact absurd (Ge hb) h
def sh:∀a:List Nat,bQ a a=true
 | []=>rfl
 | x::a=>by simp [bQ,sh a]
def ak7 {a b:List Nat} (h:a=b):bQ a b=true:=h▸sh a
def atp {s:List Nat} {i:Nat} (h:i<s.length):dG (s.drop i)=(yG 48 s[i]&&yG s[i] 57&&dG (s.drop (i+1))):=by
 rw [yX h];rfl
section
variable {P:aJ} {L:Lib}
def aEX (h:Has P L 287 L5) {s:List Nat} (hl:s.length<=1000000000000):ai P L 287 [.str s] (.bool (dG s)):=by
 have key:=cR (P:=P) (L:=L) (live:=[0,3]) (a:=D9)
  (I:=fun k st=>∃i:Nat,st=⟨[(0,.str s),(3,ab i)],[],0,0⟩/\i+k=s.length/\dG (s.drop i)=dG s)
  (Q:=fun ex st=>∃tm ct,st=⟨tm,[],ct,0⟩/\((ex= .ret/\ak tm 2= .bool false/\dG s=false)\/(ex= .exit 0/\dG s=true))) ?_
 ·unfold ai;rw [ax h];simp only [go_sem,L5];generalize hq:D P L (.loop [0,3] D9) _=q;obtain ⟨ex,st,rfl,tm,ct,rfl,h2⟩:=cG hq (key s.length) ⟨0,by simp only [go_sem,ya,aH]<;>rfl,by omega,by simp⟩
  rcases h2 with ⟨rfl,h2,h3⟩ | ⟨rfl,h3⟩
  ·simp only [go_sem,h2,h3]
  ·simp only [go_sem,aH,h3]
 ·rintro k st ⟨i,rfl,hk,hs⟩;by_cases hi:i<s.length
  ·rw [atp hi] at hs;by_cases h1:s[i]<48
   ·right
    have e:yG 48 s[i]=false:=by
     cases hb:yG 48 s[i] with
     | false=>rfl
     | true=>have:=yv hb;omega
    rw [e,wg,wg] at hs;simp only [go_sem,ya,D9,show (i:Int)<s.length by omega,re hi,show ((s[i]:Nat):Int)<48 by omega,ym];exact ⟨_,_,rfl,by simp,_,_,rfl,.inl ⟨rfl,by simp only [go_sem],hs.symm⟩⟩
   ·by_cases h2:57<s[i]
    ·right
     have e:yG s[i] 57=false:=by
      cases hb:yG s[i] 57 with
      | false=>rfl
      | true=>have:=yv hb;omega
     rw [e,Bool.and_false,wg] at hs;simp only [go_sem,ya,D9,show (i:Int)<s.length by omega,re hi,show ¬((s[i]:Nat):Int)<48 by omega,yk,show (57:Int)<((s[i]:Nat):Int) by omega];exact ⟨_,_,rfl,by simp,_,_,rfl,.inl ⟨rfl,by simp only [go_sem],hs.symm⟩⟩
    ·left
     rw [yy (show 48<=s[i] by omega),yy (show s[i]<=57 by omega),xV,xV] at hs;simp only [go_sem,ya,D9,show (i:Int)<s.length by omega,re hi,show ¬((s[i]:Nat):Int)<48 by omega,yk,show ¬(57:Int)<((s[i]:Nat):Int) by omega];refine ⟨_,k-1,rfl,by omega,i+1,?_,by omega,hs⟩;rw [wrap64 (by omega) (by omega)];simp only [go_sem,ya,aH]<;>rfl
  ·right
   simp only [go_sem,ya,D9,show ¬(i:Int)<s.length by omega];refine ⟨_,_,rfl,by simp,_,_,rfl,.inr ⟨rfl,?_⟩⟩;rw [<-hs,xn (by omega)];rfl
def abQ (h:Has P L 273 EJ) (MT:Has P L 287 L5) {s:List Nat} (hl:s.length<=1000000000000):ai P L 273 [.str s] (.bool (dQ s)):=by
 have e:=aEX MT hl;unfold ai at e ⊢;rw [ax h]
 match s,hl,e with
 | [],_,_=>
  simp only [go_sem,ya,EJ,yJ,show ((0:Nat):Int)=0 from rfl,ym];rfl
 | [b],_,e=>
  have:dQ [b]=dG [b]:=by simp [dQ]
  rw [this];simp only [go_sem,ya,EJ,yx,yJ,yd,show ¬((1:Nat):Int)=0 by decide,show ¬(1:Int)<((1:Nat):Int) by decide,yk,e]
 | b::c::r,hl,e=>
  have hd:dQ (b::c::r)=(dG (b::c::r)&& !(yu b 48)):=by simp [dQ]
  rw [hd];by_cases hb:b=48
  ·subst hb;simp only [go_sem,ya,EJ,yx,show ¬((r.length+1+1:Nat):Int)=0 by omega,yk,show (1:Int)<((r.length+1+1:Nat):Int) by omega,show nC 0 (.str (48::c::r))=some (.int .u8 48) from rfl,ym]
   simp
  ·have:yu b 48=false:=ig hb
   rw [this,yH,tM];simp only [go_sem,ya,EJ,yx,show ¬((r.length+1+1:Nat):Int)=0 by omega,yk,show (1:Int)<((r.length+1+1:Nat):Int) by omega,show nC 0 (.str (b::c::r))=some (.int .u8 (b:Nat)) from rfl,show ¬((b:Nat):Int)=48 by omega,e]
def agK {s:List Nat} {k:Nat} (h:k<=s.length):iw s (some 0) (some k)=some (.str (s.take k)):=by
 rw [lQ (by omega) h,ye]
def Ku {s:List Nat} {k:Nat} (h:k<=s.length):iw s (some k) (some s.length)=some (.str (s.drop k)):=by
 rw [lQ h (yA _),xW]
def aBx (h:Rm P L) {t:List Nat} {k:Nat} (hk:k=bX t) (hl:t.length<=1000000000) (hp:dQ (t.take k)=true) {tm:Env} (t3:ak tm 3= .str t) (t4:ak tm 4=ab k):
  fV [.t 2] (D P L (aD (aD (aD (aD (aD dH.body))))) ⟨tm,[],0,0⟩)=some (ab (
   if k<t.length/\(dQ (t.drop (k+1))=false\/t.drop (k+1)=[48]\/t.drop (k+1)=[49]) then 1
   else if 600<k\/600<t.length-k-1 then 4
   else if k<t.length/\wu (fw (t.take k)) (fw (t.drop (k+1)))≠1 then 1
   else 0)):=by
 have hkl:k<=t.length:=by rw [hk];exact Kh t
 have e3:=abQ h.abP h.MT (s:=t.drop (k+1)) (by rw [wm];omega);unfold ai at e3;have DC:(k:Int)+1=((k+1:Nat):Int):=rfl;by_cases hs:k<t.length
 ·have c2:=Ku (s:=t) (k:=k+1) (by omega);have j9:=ad2 t (by omega);rw [<-hk] at j9;have IQ:(t.drop (k+1)).length=t.length-k-1:=by rw [wm];omega
  have hlp:(t.take k).length=k:=by rw [yR];omega
  generalize hqe:t.drop (k+1)=q at*
  generalize hpe:t.take k=p at*
  cases hd:dQ q with
  | false=>
   rw [yz ⟨hs,.inl rfl⟩];rw [hd] at e3
   simp only [go_sem,ya,dH,aD,t3,t4,show (k:Int)<(t.length:Int) by omega,ym,DC,wrapN (n:=k+1) (by omega),eR,eZ,dO,c2,e3,yH]
  | true=>
   rw [hd] at e3;by_cases jK:q=[48]
   ·rw [yz ⟨hs,.inr (.inl jK)⟩]
    simp only [go_sem,ya,dH,aD,t3,t4,show (k:Int)<(t.length:Int) by omega,ym,DC,wrapN (n:=k+1) (by omega),eR,eZ,dO,c2,e3,yI,iZ,ak7 jK]
   ·by_cases pc:q=[49]
    ·rw [yz ⟨hs,.inr (.inr pc)⟩]
     simp only [go_sem,ya,dH,aD,t3,t4,show (k:Int)<(t.length:Int) by omega,ym,DC,wrapN (n:=k+1) (by omega),eR,eZ,dO,c2,e3,yI,iZ,pL jK,ak7 pc]
    ·rw [yp (by simp only [hs,uU,yar,ybF];exact fun e=>e.elim jK pc)]
     by_cases Fk:600<k
     ·rw [yz (.inl Fk)]
      simp only [go_sem,ya,dH,aD,t3,t4,show (k:Int)<(t.length:Int) by omega,ym,DC,wrapN (n:=k+1) (by omega),eR,eZ,dO,c2,e3,yI,iZ,pL jK,pL pc,show (600:Int)<(k:Int) by omega]
     ·by_cases aEY:600<t.length-k-1
      ·rw [yz (.inr aEY)]
       simp only [go_sem,ya,dH,aD,t3,t4,show (k:Int)<(t.length:Int) by omega,ym,DC,wrapN (n:=k+1) (by omega),eR,eZ,dO,c2,e3,yI,iZ,pL jK,pL pc,show ¬(600:Int)<(k:Int) by omega,yk,show (t.length:Int)-(k:Int)=((t.length-k:Nat):Int) by omega,wrapN (n:=t.length-k) (by omega),show ((t.length-k:Nat):Int)-1=((t.length-k-1:Nat):Int) by omega,wrapN (n:=t.length-k-1) (by omega),show (600:Int)<((t.length-k-1:Nat):Int) by omega]
      ·rw [yp (by omega)];have rS:=F7 _ rfl hp;have pf:=F7 _ rfl hd;have gS:fw q≠0:=fun e=>jK (by rw [<-pf,e];rfl)
       have kP:fw q≠1:=fun e=>pc (by rw [<-pf,e];rfl)
       generalize fw p=n at*
       generalize fw q=d at*
       have hT:TT (n:Int) d=t:=by
        unfold TT;rw [jY,yp kP,rS,pf];exact j9.symm
       obtain ⟨x,y,e4,hx,hy⟩:=anZ h.toRb (n:=(n:Int)) (d:=d) (by rw [yQ,rS];omega) (by rw [pf];omega);rw [hT] at e4;obtain ⟨xw,xl,rfl,dX,dx,nx,vx⟩:=hx;obtain ⟨yw,yl,rfl,dY,dy,ny,vy⟩:=hy;rw [yQ] at vx vy;have qI:n<10^p.length:=by rw [<-rS];exact KH n
       have hdb:d<10^q.length:=by rw [<-pf];exact KH d
       obtain ⟨K,hK⟩:∃K:Nat,K=600:=⟨_,rfl⟩;have Tf:∀{m j:Nat},m<10^j->j<=K->m<1000000000^K:=fun {m j} h1 h2=>
        yO h1 (yS (xx (by decide) h2) (Nat.pow_le_pow_left (by decide) K))
       have lxl:=ik dx nx (by rw [vx];exact Tf qI (by omega))
       have lyl:=ik dy ny (by rw [vy];exact Tf hdb (by omega))
       obtain ⟨g,lg,e5,hg,dgg,ngg,vg⟩:=alR h.anR h.MR h.lC h.oN h.p9 h.cZ h.rJ dX dY dx dy nx ny (by omega) (by omega);rw [vx,vy] at vg;have Nn:0<wu n d:=Nat.gcd_pos_of_pos_right _ (by omega);unfold ai at e4 e5;by_cases abR:lg.length=1
       ·obtain ⟨z,rfl⟩:∃z,lg=[z]:=by
         cases lg with
         | nil=>simp at abR
         | cons z r=>cases r with
          | nil=>exact ⟨z,rfl⟩
          | cons y r=>simp at abR
        have gz:=kZ.1 dgg;have NW:z=(wu n d:Nat):=by simp [dv] at vg;omega
        have e8:=hg.bz (i:=0) (by simp);simp only [wF] at e8;by_cases iC:wu n d=1
        ·rw [yp (by simp [iC])]
         simp only [go_sem,ya,yb,dH,aD,t3,t4,show (k:Int)<(t.length:Int) by omega,ym,DC,wrapN (n:=k+1) (by omega),eR,eZ,dO,c2,e3,yI,iZ,pL jK,pL pc,show ¬(600:Int)<(k:Int) by omega,yk,show (t.length:Int)-(k:Int)=((t.length-k:Nat):Int) by omega,wrapN (n:=t.length-k) (by omega),show ((t.length-k:Nat):Int)-1=((t.length-k-1:Nat):Int) by omega,wrapN (n:=t.length-k-1) (by omega),show ¬(600:Int)<((t.length-k-1:Nat):Int) by omega,e4,az,dX.pu,dX.ao,dX.one,dY.pu,dY.ao,dY.one,bP,aP,yd,bj,e5,hg.len,hg.shut,yx,yJ,show ((1:Nat):Int)=(1:Int) from rfl,yI,e8,NW,iC]
        ·rw [yz ⟨hs,iC⟩]
         simp only [go_sem,ya,yb,dH,aD,t3,t4,show (k:Int)<(t.length:Int) by omega,ym,DC,wrapN (n:=k+1) (by omega),eR,eZ,dO,c2,e3,yI,iZ,pL jK,pL pc,show ¬(600:Int)<(k:Int) by omega,yk,show (t.length:Int)-(k:Int)=((t.length-k:Nat):Int) by omega,wrapN (n:=t.length-k) (by omega),show ((t.length-k:Nat):Int)-1=((t.length-k-1:Nat):Int) by omega,wrapN (n:=t.length-k-1) (by omega),show ¬(600:Int)<((t.length-k-1:Nat):Int) by omega,e4,az,dX.pu,dX.ao,dX.one,dY.pu,dY.ao,dY.one,bP,aP,yd,bj,e5,hg.len,hg.shut,yx,yJ,show ((1:Nat):Int)=(1:Int) from rfl,yI,e8,NW,show ¬((wu n d:Nat):Int)=1 by omega,yH]
       ·have iC:wu n d≠1:=fun e=>abR (by
         have h1:lg.length<=1:=ajR dgg ngg (by omega);have h2:0<lg.length:=by
          rcases Nat.eq_zero_or_pos lg.length with h0 | h0
          ·rw [List.eq_nil_of_length_eq_zero h0] at vg;simp [dv] at vg;omega
          ·exact h0
         omega)
        rw [yz ⟨hs,iC⟩]
        simp only [go_sem,ya,yb,dH,aD,t3,t4,show (k:Int)<(t.length:Int) by omega,ym,DC,wrapN (n:=k+1) (by omega),eR,eZ,dO,c2,e3,yI,iZ,pL jK,pL pc,show ¬(600:Int)<(k:Int) by omega,yk,show (t.length:Int)-(k:Int)=((t.length-k:Nat):Int) by omega,wrapN (n:=t.length-k) (by omega),show ((t.length-k:Nat):Int)-1=((t.length-k-1:Nat):Int) by omega,wrapN (n:=t.length-k-1) (by omega),show ¬(600:Int)<((t.length-k-1:Nat):Int) by omega,e4,az,dX.pu,dX.ao,dX.one,dY.pu,dY.ao,dY.one,bP,aP,yd,bj,e5,hg.len,hg.shut,show ¬(lg.length:Int)=1 by omega,yH]
 ·have hkt:k=t.length:=by omega
  rw [yp (by omega)];by_cases Fk:600<k
  ·rw [yz (.inl Fk)];simp only [go_sem,ya,dH,aD,t3,t4,show ¬(k:Int)<(t.length:Int) by omega,yk,show (600:Int)<(k:Int) by omega,ym]
  ·rw [yp (by omega),yp (by omega)]
   simp only [go_sem,ya,dH,aD,t3,t4,show ¬(k:Int)<(t.length:Int) by omega,yk,show ¬(600:Int)<(k:Int) by omega,show (t.length:Int)-(k:Int)=((t.length-k:Nat):Int) by omega,wrapN (n:=t.length-k) (by omega),show ((t.length-k:Nat):Int)-1= -1 by omega,show IntKind.wrap .i64 (-1)= -1 by rfl,show ¬(600:Int)<(-1:Int) by omega]
def ak8 (h:Rm P L) {b:Nat} {r:List Nat} {t:List Nat} {neg:Bool} (hO:decide (((b:Nat):Int)=45)=neg) (hl:t.length<=1000000000) {tm:Env} (t0:ak tm 0= .str (b::r)) (t3:ak tm 3= .str t):
  fV [.t 2] (D P L (aD (aD (aD dH.body))) ⟨tm,[],0,0⟩)=some (ab (mP neg t)):=by
 obtain ⟨k,hk⟩:∃k,k=bX t:=⟨_,rfl⟩;have hkl:k<=t.length:=by rw [hk];exact Kh t
 have e1:=EW h.AI (s:=t) (by omega);have e2:=abQ h.abP h.MT (s:=t.take k) (by rw [yR];omega);unfold mP;rw [<-hk] at e1 ⊢;have c1:=agK hkl;have hI:nC 0 (.str (b::r))=some (.int .u8 (b:Nat)):=rfl;generalize hp:t.take k=p at*
 generalize hq:t.drop (k+1)=q at*
 cases hd:dQ p with
 | false=>
  rw [yz (.inl rfl)];rw [hd] at e2;simp only [go_sem,ya,dH,aD,t3,e1,eR,eZ,dO,c1,e2,yH]
 | true=>
  rw [hd] at e2;by_cases hz:neg=true/\p=[48]
  ·rw [yz (.inr hz)];obtain ⟨z1,z2⟩:=hz;rw [z1] at hO;have hb:=of_decide_eq_true hO;subst z2;simp only [go_sem,ya,dH,aD,t0,t3,e1,eR,eZ,dO,c1,e2,yI,hI,hb,ym,iZ,show bQ [48] [48]=true from rfl]
  ·rw [yp (by simp only [yar,ybF];exact hz)]
   have fin:∀cE,ak cE 3= .str t->ak cE 4=ab k->D P L (.seq (bC (aD (aD (aD dH.body)))) (bC (aD (aD (aD (aD dH.body)))))) ⟨tm,[],0,0⟩=some (.normal,⟨cE,[],0,0⟩)->fV [.t 2] (D P L (aD (aD (aD dH.body))) ⟨tm,[],0,0⟩)=some (ab (
     if k<t.length/\(dQ q=false\/q=[48]\/q=[49]) then 1
     else if 600<k\/600<t.length-k-1 then 4
     else if k<t.length/\wu (fw p) (fw q)≠1 then 1
     else 0)):=fun cE f3 f4 e=>by
    show fV [.t 2] (D P L (.seq (bC (aD (aD (aD dH.body)))) (.seq (bC (aD (aD (aD (aD dH.body))))) (aD (aD (aD (aD (aD dH.body))))))) ⟨tm,[],0,0⟩)=_
    rw [DS,e,fY,<-hp,<-hq];exact aBx h hk hl (by rw [hp];exact hd) f3 f4
   by_cases hb:((b:Nat):Int)=45
   ·have aEZ:p≠[48]:=fun e=>hz ⟨by rw [<-hO];exact yD hb,e⟩
    refine fin _ ?_ ?_ (by simp only [go_sem,ya,dH,bC,aD,t0,t3,e1,eR,eZ,dO,c1,e2,yI,hI,hb,ym,iZ,pL aEZ]<;>rfl)<;>simp only [go_sem,ya,t3]
   ·refine fin _ ?_ ?_ (by simp only [go_sem,ya,dH,bC,aD,t0,t3,e1,eR,eZ,dO,c1,e2,yI,hI,hb,yk]<;>rfl)<;>simp only [go_sem,ya,t3]
def abS (h:Rm P L) {s:List Nat} (hl:s.length<=1000000000):ai P L 263 [.str s] (ab (bE s)):=by
 unfold ai;rw [ax h.aES]
 cases s with
 | nil=>
  have e1:=EW h.AI (s:=[]) (by simp);have e2:=abQ h.abP h.MT (s:=[]) (by simp);have hc:iw [] (some 0) (some 0)=some (.str []):=rfl;simp only [go_sem,ya,dH,yJ,show ¬(0:Int)<((0:Nat):Int) by decide,yk,e1,bX,eR,eZ,dO,hc,e2,show dQ []=false from rfl,yH];rfl
 | cons b t=>
  have hl':t.length+1<=1000000000:=by simpa using hl
  have hI:nC 0 (.str (b::t))=some (.int .u8 (b:Nat)):=rfl;by_cases hb:b=45
  ·subst hb;have fin:∀cE,ak cE 0= .str (45::t)->ak cE 3= .str t->D P L (.seq (bC dH.body) (.seq (bC (aD dH.body)) (bC (aD (aD dH.body))))) ⟨[(0,.str (45::t))],[],0,0⟩=some (.normal,⟨cE,[],0,0⟩)->fV [.t 2] (D P L dH.body ⟨[(0,.str (45::t))],[],0,0⟩)=some (ab (bE (45::t))):=fun cE f0 f3 e=>by
    show fV [.t 2] (D P L (.seq (bC dH.body) (.seq (bC (aD dH.body)) (.seq (bC (aD (aD dH.body))) (aD (aD (aD dH.body)))))) ⟨[(0,.str (45::t))],[],0,0⟩)=_
    rw [afR,e,fY]
    exact ak8 h (b:=45) rfl (by omega) f0 f3
   have hc:iw (45::t) (some 1) (some (t.length+1))=some (.str t):=by
    have:=Ku (s:=45::t) (k:=1) (by simp)
    simpa using this
   refine fin _ ?_ ?_ (by simp only [go_sem,ya,dH,bC,aD,yx,show (0:Int)<((t.length+1:Nat):Int) by omega,ym,EX,eR,eZ,dO,hc]<;>rfl)<;>simp only [go_sem,ya]
  ·have fin:∀cE,ak cE 0= .str (b::t)->ak cE 3= .str (b::t)->D P L (.seq (bC dH.body) (.seq (bC (aD dH.body)) (bC (aD (aD dH.body))))) ⟨[(0,.str (b::t))],[],0,0⟩=some (.normal,⟨cE,[],0,0⟩)->fV [.t 2] (D P L dH.body ⟨[(0,.str (b::t))],[],0,0⟩)=some (ab (bE (b::t))):=fun cE f0 f3 e=>by
    show fV [.t 2] (D P L (.seq (bC dH.body) (.seq (bC (aD dH.body)) (.seq (bC (aD (aD dH.body))) (aD (aD (aD dH.body)))))) ⟨[(0,.str (b::t))],[],0,0⟩)=_
    rw [afR,e,fY]
    have:=ak8 h (b:=b) (neg:=false) (yC (by omega)) (by simpa using hl) f0 f3
    rw [this];simp only [bE,yp hb]
   refine fin _ ?_ ?_ (by simp only [go_sem,ya,dH,bC,aD,yx,show (0:Int)<((t.length+1:Nat):Int) by omega,ym,hI,show ¬((b:Nat):Int)=45 by omega]<;>rfl)<;>simp only [go_sem,ya]
end
end
section
open Go (IntKind)
def gU (v:AV) (l:List (List Nat)):Prop:=db v (l.map AV.str)
section
variable {v:AV} {l:List (List Nat)}
def gU.len (h:gU v l) {hp:Hp}:jb hp 1 v=some (.int .i64 (l.length:Nat)):=by
 have:=db.len (hp:=hp) h
 grind
def gU.pu (h:gU v l):bg v=true:=db.pu h
def gU.ao (h:gU v l) (n:Nat) {hp:Hp}:freeze (n+1) hp v=some (v,hp):=db.ao h n
def gU.shut (h:gU v l):VE.shut v=v:=db.shut h
def gU.b6 (h:gU v l):VE.b6 v=v:=db.b6 h
def gU.dU (h:gU v l) {hp:Hp}:result hp v=some v:=db.dU h
def gU.one (h:gU v l):cP v=true:=db.one h
def gU.cells (h:gU v l):cellsOf v=[v]:=db.cells h
def gU.bz (h:gU v l) {i:Nat} (hi:i<l.length):kw 1 i v=some (.cz (.str l[i]::(l.map AV.str).drop (i+1))):=by
 have:=db.bz h (i:=i) (by simpa using hi)
 grind
def rh (e:Bool) (l:List (List Nat)):gU (.ap e l.length (l.map AV.str)) l:=by
 have:=VA e (l.map AV.str)
 rwa [xq] at this
end
section
variable {P:aJ} {L:Lib}
def VO (h:Rm P L) {a:Rat} {K:Nat} (ka:Hq K a) (hK:K<=4000000000):bZ P L (D P L) 284 [.str (RT a)]=some (.str (aV a.num))/\bZ P L (D P L) 285 [.str (aV a.num)]=some (.str (au a.num.natAbs))/\bZ P L (D P L) 286 [.str (RT a)]=some (.str (au a.den)):=by
 have hl:=pK ka;have e0:=EW h.AI (s:=RT a) (by omega);have mc:bX (RT a)=(aV a.num).length/\(RT a).take (aV a.num).length=aV a.num:=by
  unfold RT;by_cases hd:a.den=1
  ·rw [yz hd,wG]
   have:=DK a.num []
   rw [wG] at this;exact ⟨by rw [this];simp [bX],xW⟩
  ·rw [yp hd];exact ⟨by rw [DK];simp [bX],uM⟩
 obtain ⟨eN,zj⟩:=mc;rw [eN] at e0;have hlen:(aV a.num).length<=(RT a).length:=by unfold RT;simp
 have e1:bZ P L (D P L) 284 [.str (RT a)]=some (.str (aV a.num)):=by
  rw [ax h.aET]
  have:=agK (s:=RT a) hlen
  simp only [go_sem,ya,W9,e0,eR,eZ,dO,this,zj]
 have hT:aV a.num=TT a.num 1:=by unfold TT;simp
 have e2:bZ P L (D P L) 285 [.str (aV a.num)]=some (.str (au a.num.natAbs)):=by
  have e:=alU h (n:=a.num) (d:=1) (by rw [<-hT];omega) (fun _=>rfl);rw [<-hT] at e;rw [ax h.an0];by_cases h0:a.num<0
  ·have es:bG a.num= -1:=by unfold bG;rw [yz h0]
   rw [es] at e;rw [jZ h0] at e ⊢;have hc:=Ku (s:=45::au a.num.natAbs) (k:=1) (by simp);simp only [List.drop_succ_cons,ye,yx] at hc;simp only [go_sem,ya,Hv,e,show (-1:Int)<0 by decide,eR,eZ,dO,hc]
  ·have es:¬bG a.num<0:=by unfold bG;rw [yp h0];split<;>decide
   have hi:aV a.num=au a.num.natAbs:=by
    obtain ⟨m,hm⟩:∃m:Nat,a.num=m:=⟨a.num.toNat,by omega⟩;rw [hm,jY,yQ]
   simp only [go_sem,ya,Hv,e,es];rw [hi]
 have e3:bZ P L (D P L) 286 [.str (RT a)]=some (.str (au a.den)):=by
  rw [ax h.aEU];by_cases hd:a.den=1
  ·have hR:(RT a).length=(aV a.num).length:=by unfold RT;rw [yz hd];simp
   rw [hd,show au 1=[49] by decide];simp only [go_sem,ya,QB,e0,show ((aV a.num).length:Int)=((RT a).length:Int) by omega,ym]
  ·have hR:RT a=(aV a.num++[47])++au a.den:=by unfold RT;rw [yp hd];simp
   have hRl:(RT a).length=(aV a.num).length+1+(au a.den).length:=by rw [hR];simp;omega
   have hc:=Ku (s:=RT a) (k:=(aV a.num).length+1) (by omega);have iE:(RT a).drop ((aV a.num).length+1)=au a.den:=by
    rw [hR,show (aV a.num).length+1=(aV a.num++[47]).length by simp,uN]
   rw [iE] at hc
   simp only [go_sem,ya,QB,e0,show ¬((aV a.num).length:Int)=((RT a).length:Int) by omega,show ((aV a.num).length:Int)+1=(((aV a.num).length+1:Nat):Int) from rfl,wrapN (n:=(aV a.num).length+1) (by omega),eR,eZ,dO,hc]
 exact ⟨e1,e2,e3⟩
def aC0 (h:Rl P L) {a:Rat} {K:Nat} (ka:Hq K a) (hK:K<=4000000000):ai P L 269 [.str (RT a)] (ab (if LG a=true then 4 else 0)):=by
 obtain ⟨e1,e2,e3⟩:=VO h.toRm ka hK;unfold ai;rw [ax h.Sm];unfold LG LN;rw [yQ];by_cases h1:600<(au a.num.natAbs).length
 ·rw [yD h1,tA,yz rfl];simp only [go_sem,ya,Ht,e1,e2,show (600:Int)<((au a.num.natAbs).length:Int) by omega,ym]
 ·by_cases h2:600<(au a.den).length
  ·rw [yD h2,ybH,yz rfl];simp only [go_sem,ya,Ht,e1,e2,show ¬(600:Int)<((au a.num.natAbs).length:Int) by omega,yk,e3,show (600:Int)<((au a.den).length:Int) by omega]
  ·rw [yC h1,yC h2,ybI,yp (by decide)];simp only [go_sem,ya,Ht,e1,e2,show ¬(600:Int)<((au a.num.natAbs).length:Int) by omega,yk,e3,show ¬(600:Int)<((au a.den).length:Int) by omega]
def afS {l:List (List Nat)} {i:Nat} (h:i<l.length):cX ((l.drop i).map bE)=if bE l[i]=0 then cX ((l.drop (i+1)).map bE) else bE l[i]:=by
 rw [yX h];rfl
def aC1 (h:Rm P L) (eE:Has P L 261 nJ) {v:AV} {l:List (List Nat)} (hv:gU v l) (hl:l.length<=1000000) (hs:∀s,s∈l->s.length<=1000000000):ai P L 261 [v] (ab (cX (l.map bE))):=by
 have key:=cR (P:=P) (L:=L) (live:=[0,3]) (a:=GC)
  (I:=fun k st=>∃i:Nat,st=⟨[(0,v),(3,ab i)],[],0,0⟩/\i+k=l.length/\cX ((l.drop i).map bE)=cX (l.map bE))
  (Q:=fun ex st=>∃tm ct,st=⟨tm,[],ct,0⟩/\((ex= .ret/\ak tm 2=ab (cX (l.map bE)))\/(ex= .exit 0/\cX (l.map bE)=0))) ?_
 ·unfold ai;rw [ax eE];simp only [go_sem,nJ];generalize hq:D P L (.loop [0,3] GC) _=q;obtain ⟨ex,st,rfl,tm,ct,rfl,h2⟩:=cG hq (key l.length) ⟨0,by simp only [go_sem,ya,aH,aR hv.pu,aW _ hv.pu]<;>rfl,by omega,by simp⟩
  rcases h2 with ⟨rfl,h2⟩ | ⟨rfl,h3⟩
  ·simp only [go_sem,h2]
  ·simp only [go_sem,aH,h3]
 ·rintro k st ⟨i,rfl,hk,hd⟩;by_cases hi:i<l.length
  ·rw [afS hi] at hd;have e1:=abS h (hs l[i] (wN hi));have ev:=hv.bz hi;by_cases h1:bE l[i]=0
   ·left
    rw [yz h1] at hd;rw [h1] at e1;simp only [go_sem,ya,GC,hv.len,show (i:Int)<l.length by omega,ev,e1,ym,yI];refine ⟨_,k-1,rfl,by omega,i+1,?_,by omega,hd⟩;rw [wrap64 (by omega) (by omega)];simp only [go_sem,ya,aH,aR hv.pu,aW _ hv.pu]<;>rfl
   ·right
    rw [yp h1] at hd;simp only [go_sem,ya,GC,hv.len,show (i:Int)<l.length by omega,ev,e1,h1,yk,yH];refine ⟨_,_,rfl,by simp,_,_,rfl,.inl ⟨rfl,?_⟩⟩;rw [<-hd];simp only [go_sem]
  ·right
   simp only [go_sem,ya,GC,hv.len,show ¬(i:Int)<l.length by omega];refine ⟨_,_,rfl,by simp,_,_,rfl,.inr ⟨rfl,?_⟩⟩;rw [<-hd,xn (by omega)];rfl
def arI {l:List Rat} {i:Nat} (h:i<l.length):(l.drop i).any LG=(LG l[i]||(l.drop (i+1)).any LG):=by
 rw [yX h];rfl
def alX (h:Rl P L) (jh:Has P L 316 Az) {v:AV} {l:List Rat} (hv:gU v (l.map RT)) (hl:l.length<=1000000) {K:Nat} (hs:∀r,r∈l->Hq K r) (hK:K<=4000000000):ai P L 316 [v] (ab (if l.any LG=true then 4 else 0)):=by
 have hlen:(l.map RT).length=l.length:=by simp
 have key:=cR (P:=P) (L:=L) (live:=[0,3]) (a:=GG)
  (I:=fun k st=>∃i:Nat,st=⟨[(0,v),(3,ab i)],[],0,0⟩/\i+k=l.length/\(l.drop i).any LG=l.any LG)
  (Q:=fun ex st=>∃tm ct,st=⟨tm,[],ct,0⟩/\((ex= .ret/\ak tm 2=ab 4/\l.any LG=true)\/(ex= .exit 0/\l.any LG=false))) ?_
 ·unfold ai;rw [ax jh];simp only [go_sem,Az];generalize hq:D P L (.loop [0,3] GG) _=q;obtain ⟨ex,st,rfl,tm,ct,rfl,h2⟩:=cG hq (key l.length) ⟨0,by simp only [go_sem,ya,aH,aR hv.pu,aW _ hv.pu]<;>rfl,by omega,by simp⟩
  rcases h2 with ⟨rfl,h2,h3⟩ | ⟨rfl,h3⟩
  ·simp only [go_sem,h2,h3,xm]
  ·simp only [go_sem,aH,h3];rfl
 ·rintro k st ⟨i,rfl,hk,hd⟩;by_cases hi:i<l.length
  ·rw [arI hi] at hd;have e1:=aC0 h (hs l[i] (wN hi)) hK;have ev:=hv.bz (i:=i) (by simpa using hi);rw [uV] at ev
   cases hb:LG l[i] with
   | false=>
    left
    rw [hb,Bool.false_or] at hd;rw [hb] at e1;simp only [yE,y9] at e1;simp only [go_sem,ya,GG,hv.len,hlen,show (i:Int)<l.length by omega,ev,e1,ym,yI];refine ⟨_,k-1,rfl,by omega,i+1,?_,by omega,hd⟩;rw [wrap64 (by omega) (by omega)];simp only [go_sem,ya,aH,aR hv.pu,aW _ hv.pu]<;>rfl
   | true=>
    right
    rw [hb,tA] at hd;rw [hb] at e1;simp only [xm] at e1;simp only [go_sem,ya,GG,hv.len,hlen,show (i:Int)<l.length by omega,ev,e1,show ¬(4:Int)=0 by decide,yk,yH];exact ⟨_,_,rfl,by simp,_,_,rfl,.inl ⟨rfl,by simp only [go_sem],hd.symm⟩⟩
  ·right
   simp only [go_sem,ya,GG,hv.len,hlen,show ¬(i:Int)<l.length by omega];refine ⟨_,_,rfl,by simp,_,_,rfl,.inr ⟨rfl,?_⟩⟩;rw [<-hd,xn (by omega)];rfl
end
end
section
open Go (IntKind)
open Classical in
noncomputable def ae (s:List Nat):Rat:=if h:bE s=0 then Classical.choose (aBi h) else 0
def dZ {s:List Nat} (h:bE s=0):s=RT (ae s)/\(au (ae s).num.natAbs).length<=600/\(au (ae s).den).length<=600:=by
 unfold ae
 grind
def F9 {z:Int} {k M:Nat} (h:(au z.natAbs).length<=k) (hM:4*k<=M):Bd M z:=by
 have h1:=KH z.natAbs;have h2:=KI (au z.natAbs).length;have h3:(2:Nat)^(4*(au z.natAbs).length)<=2^M:=xx (by decide) (by omega);exact yO h1 (yS h2 h3)
def jx {s:List Nat} (h:bE s=0) {M:Nat} (hM:2400<=M):Hq M (ae s):=by
 obtain ⟨_,h1,h2⟩:=dZ h
 exact ⟨F9 h1 (by omega),F9 (z:=((ae s).den:Int)) (by rw [yQ];exact h2) (by omega)⟩
abbrev bF (x y:List Nat):AV:= .agg [.str x,.str y]
abbrev cF (a b:Rat):AV:= .agg [.str (RT a),.str (RT b)]
instance (k:Nat) (z:Int):Decidable (Bd k z):=inferInstanceAs (Decidable (z.natAbs<2^k))
def Ib:RT 0=[48]:=by decide
def Sn:RT 1=[49]:=by decide
def aE0:RT 2=[50]:=by decide
def Es:Rat:=⟨1,2,by decide,by decide⟩
def aE1:RT Es=[49,47,50]:=by decide
def aE2:Hq 2 1:=⟨by decide,by decide⟩
def an2:Hq 2 Es:=⟨by decide,by decide⟩
section
variable {P:aJ} {L:Lib}
def aE3 (h:Rp P L) (bD:Has P L 315 fU) {a b:Rat} {K M:Nat} (ka:Hq K a) (kb:Hq M b) (hK:K+M+1<=8000000000):ai P L 315 [.str (RT a),.str (RT b)] (ab (bG (a-b).num)):=by
 have e1:=Cw h ka kb hK;have e2:=Cv h.toRm (ka.sub kb) hK;unfold ai at e1 e2 ⊢;rw [ax bD];simp only [go_sem,ya,fU,e1,e2]
def aE4 (h:Rn P L) (AQ:Has P L 319 Hx) {a:Rat} {K:Nat} (ka:Hq K a) (hK:K+2<=8000000000):ai P L 319 [.str (RT a)] (.str (RT (a*Es))):=by
 have e1:=gL h ka an2 hK;rw [aE1] at e1;unfold ai at e1 ⊢;rw [ax AQ];simp only [go_sem,ya,Hx,e1]
end
end
section
open Go (IntKind)
def aev (q:Rat):q.num<0↔q<0:=by
 have h:=@Rat.num_nonneg q
 grind
def zT (a b:Rat):bG (a-b).num=kE a b:=by
 unfold bG kE;by_cases h1:a<b
 ·rw [yz ((aev _).2 (by grind)),yz h1]
 ·rw [yp (fun e=>h1 (by have:=(aev _).1 e;grind)),yp h1]
  by_cases h2:a=b
  ·subst h2;rw [yz (by rw [Rat.sub_self];rfl),yz rfl]
  ·rw [yp (fun e=>h2 (by have:=yaX.1 e;grind)),yp h2]
section
variable {P:aJ} {L:Lib}
end
end
section
open Go (IntKind)
def fR (v:AV) (a b:Rat):Prop:=∃s1 w1 s2 w2 s3 w3 s4 w4,v= .agg [ab s1,w1,ab s2,w2,ab s3,w3,ab s4,w4]/\cx s1 w1 a.num/\cx s2 w2 (a.den:Int)/\cx s3 w3 b.num/\cx s4 w4 (b.den:Int)
section
variable {s1 s2 s3 s4:Int} {w1 w2 w3 w4:AV} {l1 l2 l3 l4:List Nat}
def aC2 (h1:bO w1 l1) (h2:bO w2 l2) (h3:bO w3 l3) (h4:bO w4 l4) (hp:Hp) (ct id:Nat) (a b c d e f g h:AV):gC hp ct id 0 8 [.int .i64 s1,w1,.int .i64 s2,w2,.int .i64 s3,w3,.int .i64 s4,w4] (some (.cells true true true 8 [a,b,c,d,e,f,g,h]))=some (.af [],bf hp id (.cells true true true 8 [.int .i64 s1,w1,.int .i64 s2,w2,.int .i64 s3,w3,.int .i64 s4,w4]),ct):=by
 rw [rq (by rfl) (by simp) (by simp [cr,h1.one,h2.one,h3.one,h4.one,VB])];simp [aO,h1.pu,h2.pu,h3.pu,h4.pu,over,V1]
def aC3 (h1:bO w1 l1) (h2:bO w2 l2) (h3:bO w3 l3) (h4:bO w4 l4) (hp:Hp):result hp (.agg [ab s1,w1,ab s2,w2,ab s3,w3,ab s4,w4])=some (.agg [ab s1,w1,ab s2,w2,ab s3,w3,ab s4,w4]):=by
 rcases h1 with ⟨rfl,_⟩ | ⟨e,rfl⟩<;>rcases h2 with ⟨rfl,_⟩ | ⟨e',rfl⟩<;>rcases h3 with ⟨rfl,_⟩ | ⟨e,rfl⟩<;>rcases h4 with ⟨rfl,_⟩ | ⟨e',rfl⟩<;>rfl
def Gq {tm:Env} {a b c d x y z w:AV} {x' y' z' w':AV} {r:List (Nat×Nat×X)} (h1:cP a=true) (h2:cP b=true) (h3:cP c=true) (h4:cP d=true):lj tm [x',y',z',w',x,y,z,w] 0 4 [a,b,c,d] r=fill tm [a,b,c,d,x,y,z,w] r:=by
 rw [zS (by rfl) (by simp) (by simp [cr,h1,h2,h3,h4])];rfl
def Gr {tm:Env} {a b c d x y z w:AV} {x' y' z' w':AV} {r:List (Nat×Nat×X)} (h1:cP a=true) (h2:cP b=true) (h3:cP c=true) (h4:cP d=true):lj tm [x,y,z,w,x',y',z',w'] 4 4 [a,b,c,d] r=fill tm [x,y,z,w,a,b,c,d] r:=by
 rw [zS (by rfl) (by simp) (by simp [cr,h1,h2,h3,h4])];rfl
def Cx (a b c d e f g h:AV):hX 8 true [a,b,c,d,e,f,g,h]=some (.agg [a,b,c,d,e,f,g,h]):=rfl
def eL (a b c d:AV) (r:List AV):hX 4 true (a::b::c::d::r)=some (.agg [a,b,c,d]):=rfl
def zU (a b c d e f g h:AV):List.drop 4 [a,b,c,d,e,f,g,h]=[e,f,g,h]:=rfl
end
section
variable {P:aJ} {L:Lib}
end
end
section
open Go (IntKind)
structure F4 (c1 c2 c3 c4:AV):Prop where
 ao:∀(n:Nat) (hp:Hp),freeze (n+20) hp (.agg [c1,c2,c3,c4])=some (.agg [c1,c2,c3,c4],hp)
 dU:∀hp:Hp,result hp (.agg [c1,c2,c3,c4])=some (.agg [c1,c2,c3,c4])
 st:∀(hp:Hp) (ct id:Nat) (a b c d:AV),gC hp ct id 0 4 [c1,c2,c3,c4] (some (.cells true true true 4 [a,b,c,d]))=some (.af [],bf hp id (.cells true true true 4 [c1,c2,c3,c4]),ct)
 bx:∀ct:Nat,EU ct 4 [c1,c2,c3,c4]=some (.ptr ct 0,.cells true true true 4 [c1,c2,c3,c4])
 o1:cP c1=true
 o2:cP c2=true
 o3:cP c3=true
 o4:cP c4=true
 pu:bg (.agg [c1,c2,c3,c4])=true
 z1:∀(n:Nat) (hp:Hp),freeze (n+1) hp c1=some (c1,hp)
 z2:∀(n:Nat) (hp:Hp),freeze (n+1) hp c2=some (c2,hp)
 z3:∀(n:Nat) (hp:Hp),freeze (n+1) hp c3=some (c3,hp)
 z4:∀(n:Nat) (hp:Hp),freeze (n+1) hp c4=some (c4,hp)
structure F8 (c1 c2 c3 c4 c5 c6 c7 c8:AV):Prop where
 ao:∀(n:Nat) (hp:Hp),freeze (n+20) hp (.agg [c1,c2,c3,c4,c5,c6,c7,c8])=some (.agg [c1,c2,c3,c4,c5,c6,c7,c8],hp)
 dU:∀hp:Hp,result hp (.agg [c1,c2,c3,c4,c5,c6,c7,c8])=some (.agg [c1,c2,c3,c4,c5,c6,c7,c8])
 st:∀(hp:Hp) (ct id:Nat) (a b c d e f g h:AV),gC hp ct id 0 8 [c1,c2,c3,c4,c5,c6,c7,c8] (some (.cells true true true 8 [a,b,c,d,e,f,g,h]))=some (.af [],bf hp id (.cells true true true 8 [c1,c2,c3,c4,c5,c6,c7,c8]),ct)
 bx:∀ct:Nat,EU ct 8 [c1,c2,c3,c4,c5,c6,c7,c8]=some (.ptr ct 0,.cells true true true 8 [c1,c2,c3,c4,c5,c6,c7,c8])
def b9.gen {v:AV} {a:Rat} (h:b9 v a):∃c1 c2 c3 c4,v= .agg [c1,c2,c3,c4]/\F4 c1 c2 c3 c4:=by
 obtain ⟨s1,w1,s2,w2,rfl,h1,h2⟩:=h;obtain ⟨l1,u1⟩:=h1.aK;obtain ⟨l2,u2⟩:=h2.aK;refine ⟨_,_,_,_,rfl,fun n hp=>?_,lU u1 u2,fun hp ct id a b c d=>jP u1 u2 hp ct id a b c d,fun ct=>by simp only [go_sem,yb,az,u1.pu,u1.one,u2.pu,u2.one],rfl,u1.one,rfl,u2.one,by simp [bg,aO,u1.pu,u2.pu],fun _ _=>rfl,fun n _=>u1.ao n,fun _ _=>rfl,fun n _=>u2.ao n⟩;exact aU _ _ (by simp only [go_sem,u1.ao,u2.ao])
def fR.gen {v:AV} {a b:Rat} (h:fR v a b):∃c1 c2 c3 c4 c5 c6 c7 c8,v= .agg [c1,c2,c3,c4,c5,c6,c7,c8]/\F8 c1 c2 c3 c4 c5 c6 c7 c8:=by
 obtain ⟨s1,w1,s2,w2,s3,w3,s4,w4,rfl,h1,h2,h3,h4⟩:=h;obtain ⟨l1,u1⟩:=h1.aK;obtain ⟨l2,u2⟩:=h2.aK;obtain ⟨l3,u3⟩:=h3.aK;obtain ⟨l4,u4⟩:=h4.aK;refine ⟨_,_,_,_,_,_,_,_,rfl,fun n hp=>?_,aC3 u1 u2 u3 u4,fun hp ct id a b c d e f g h=>aC2 u1 u2 u3 u4 hp ct id a b c d e f g h,fun ct=>by simp only [go_sem,yb,az,u1.pu,u1.one,u2.pu,u2.one,u3.pu,u3.one,u4.pu,u4.one]⟩;exact aU _ _ (by simp only [go_sem,u1.ao,u2.ao,u3.ao,u4.ao])
def nt {a b:Int}:cX [a,b]=0↔a=0/\b=0:=by
 simp only [cX]
 grind
section
variable {P:aJ} {L:Lib}
end
end
section
open Go (IntKind)
def QL:List AV->List Rat->Prop
 | [],[]=>True
 | a::b::c::d::r,x::l=>b9 (.agg [a,b,c,d]) x/\QL r l
 | _,_=>False
def QL.nil:QL [] []:=trivial
def QL.cons {a b c d:AV} {r:List AV} {x:Rat} {l:List Rat} (h1:b9 (.agg [a,b,c,d]) x) (h2:QL r l):QL (a::b::c::d::r) (x::l):=⟨h1,h2⟩
def QL.inv {cs:List AV} {x:Rat} {l:List Rat} (h:QL cs (x::l)):∃a b c d r,cs=a::b::c::d::r/\b9 (.agg [a,b,c,d]) x/\QL r l:=by
 match cs,h with
 | a::b::c::d::r,h=>exact ⟨a,b,c,d,r,rfl,h.1,h.2⟩
def QL.So {cs:List AV} (h:QL cs []):cs=[]:=by
 match cs,h with
 | [],_=>rfl
 | [_],h=>exact h.elim
 | [_,_],h=>exact h.elim
 | [_,_,_],h=>exact h.elim
 | _::_::_::_::_,h=>exact h.elim
def QL.len:∀{l:List Rat} {cs:List AV},QL cs l->cs.length=l.length*4
 | [],_,h=>by rw [h.So];rfl
 | x::l,cs,h=>by
  obtain ⟨a,b,c,d,r,rfl,_,h2⟩:=h.inv
  have:=h2.len
  grind
def F4.pk {c1 c2 c3 c4:AV} (g:F4 c1 c2 c3 c4):bg c1=true/\bg c2=true/\bg c3=true/\bg c4=true:=by
 have:=g.pu
 simpa only [bg,aO,tM,yg] using this
def b9.f4 {a b c d:AV} {x:Rat} (h:b9 (.agg [a,b,c,d]) x):F4 a b c d:=by
 obtain ⟨_,_,_,_,e,g⟩:=h.gen
 grind
def QL.pu:∀{l:List Rat} {cs:List AV},QL cs l->aO cs=true
 | [],_,h=>by rw [h.So];rfl
 | x::l,cs,h=>by
  obtain ⟨a,b,c,d,r,rfl,h1,h2⟩:=h.inv;obtain ⟨p1,p2,p3,p4⟩:=h1.f4.pk;simp only [aO,p1,p2,p3,p4,h2.pu,we]
def QL.one:∀{l:List Rat} {cs:List AV},QL cs l->cr cs=true
 | [],_,h=>by rw [h.So];rfl
 | x::l,cs,h=>by
  obtain ⟨a,b,c,d,r,rfl,h1,h2⟩:=h.inv;have g:=h1.f4;simp only [cr,g.o1,g.o2,g.o3,g.o4,h2.one,we]
def QL.a7:∀{l m:List Rat} {cs ds:List AV},QL cs l->QL ds m->QL (cs++ds) (l++m)
 | [],m,cs,ds,h,k=>by rw [h.So];exact k
 | x::l,m,cs,ds,h,k=>by
  obtain ⟨a,b,c,d,r,rfl,h1,h2⟩:=h.inv;exact ⟨h1,h2.a7 k⟩
def QL.snoc {l:List Rat} {x:Rat} {cs:List AV} {a b c d:AV} (h:QL cs l) (k:b9 (.agg [a,b,c,d]) x):QL (cs++[a,b,c,d]) (l++[x]):=h.a7 ⟨k,trivial⟩
def QL.get:∀{l:List Rat} {cs:List AV} {i:Nat},QL cs l->∀(hi:i<l.length),∃a b c d r,cs.drop (i*4)=a::b::c::d::r/\b9 (.agg [a,b,c,d]) l[i]
 | [],_,i,_,hi=>absurd hi (yaU i)
 | x::l,cs,0,h,hi=>by
  obtain ⟨a,b,c,d,r,rfl,h1,_⟩:=h.inv
  grind
 | x::l,cs,i+1,h,hi=>by
  obtain ⟨a,b,c,d,r,rfl,_,h2⟩:=h.inv;obtain ⟨a',b',c',d',r',e,k⟩:=h2.get (i:=i) (by simpa using hi)
  grind
def iM (v:AV) (l:List Rat):Prop:=(v= .aa/\l=[])\/∃e cs,v= .ap e l.length cs/\QL cs l
section
variable {v:AV} {l:List Rat} {hp:Hp}
def iM.len (h:iM v l) {hp:Hp}:jb hp 1 v=some (.int .i64 (l.length:Nat)):=by
 rcases h with ⟨rfl,rfl⟩ | ⟨e,cs,rfl,h⟩<;>rfl
def iM.pu (h:iM v l):bg v=true:=by
 rcases h with ⟨rfl,rfl⟩ | ⟨e,cs,rfl,h⟩<;>rfl
def iM.ao (h:iM v l) (n:Nat) {hp:Hp}:freeze (n+1) hp v=some (v,hp):=by
 rcases h with ⟨rfl,rfl⟩ | ⟨e,cs,rfl,h⟩<;>rfl
def iM.shut (h:iM v l):shut v=v:=by
 rcases h with ⟨rfl,rfl⟩ | ⟨e,cs,rfl,h⟩<;>rfl
def iM.b6 (h:iM v l):b6 v=v:=by
 rcases h with ⟨rfl,rfl⟩ | ⟨e,cs,rfl,h⟩<;>rfl
def iM.dU (h:iM v l) {hp:Hp}:result hp v=some v:=by
 rcases h with ⟨rfl,rfl⟩ | ⟨e,cs,rfl,h⟩<;>rfl
def iM.one (h:iM v l):cP v=true:=by
 rcases h with ⟨rfl,rfl⟩ | ⟨e,cs,rfl,h⟩<;>rfl
def iM.cells (h:iM v l):cellsOf v=[v]:=by
 rcases h with ⟨rfl,rfl⟩ | ⟨e,cs,rfl,h⟩<;>rfl
def iM.bz (h:iM v l) {i:Nat} (hi:i<l.length):∃a b c d r,kw 4 i v=some (.cz (a::b::c::d::r))/\b9 (.agg [a,b,c,d]) l[i]:=by
 rcases h with ⟨rfl,rfl⟩ | ⟨e,cs,rfl,h⟩
 ·grind
 ·obtain ⟨a,b,c,d,r,e1,e2⟩:=h.get hi;refine ⟨a,b,c,d,r,?_,e2⟩;rw [Vz e _ hi,e1]
def OU {cs:List AV} (e:Bool) (h:QL cs l):iM (.ap e l.length cs) l:= .inr ⟨e,cs,rfl,h⟩
end
def PF {tm:Env} {a b c d x0 x1 x2 x3:AV} {r:List (Nat×Nat×X)} (h1:cP a=true) (h2:cP b=true) (h3:cP c=true) (h4:cP d=true):lj tm [x0,x1,x2,x3] 0 4 [a,b,c,d] r=fill tm [a,b,c,d] r:=by
 rw [zS (by rfl) (by simp) (by simp [cr,h1,h2,h3,h4])];rfl
def aC4 (fm pu ex:Bool) (a b c d:AV):atC 0 1 4 (some (.cells fm pu ex 4 [a,b,c,d]))=some (1,[a,b,c,d]):=rfl
def E5 (hp:Hp) (cs:List AV):jf hp 4 true (.cz cs)=hX 4 true cs:=rfl
end
section
open Go (IntKind)
def Gf {a b:Nat} (h:au a=au b):a=b:=by
 have h1:=zJ a;rw [h,zJ b] at h1;exact (xQ h1).symm
def ajU:∀(k n:Nat),n<k->n≠0->∃b r,au n=b::r/\b≠48
 | 0,n,h,_=>absurd h (yaU n)
 | k+1,n,h,h0=>by
  by_cases h1:n<10
  ·exact ⟨48+n,[],n9 h1,by omega⟩
  ·obtain ⟨b,r,e,hb⟩:=ajU k (n/10) (by omega) (by omega);exact ⟨b,r++[48+n%10],by rw [po (by omega),e];rfl,hb⟩
def agL (n:Nat):dQ (au n)=true:=by
 unfold dQ;rw [zI,xV];by_cases h0:n=0
 ·subst h0;decide
 ·obtain ⟨b,r,e,hb⟩:=ajU (n+1) n (by omega) h0;rw [e]
  have:yu b 48=false:=by
   cases hq:yu b 48 with
   | false=>rfl
   | true=>exact absurd (Nat.eq_of_beq_eq_true hq) hb
  simp [this]
def agM (n:Nat):fw (au n)=n:=by unfold fw;rw [zJ];rfl
def OV {z:Int} (h:¬z<0):aV z=au z.natAbs:=by
 obtain ⟨m,rfl⟩:∃m:Nat,z=m:=⟨z.toNat,by omega⟩;rw [jY,yQ]
def G2 (r:Rat):RT r=aV r.num++jc r.den:=rfl
def agN (r:Rat):bX (RT r)=(aV r.num).length:=by rw [G2,DK,Us];rfl
def ak9 {r:Rat} (h1:(au r.num.natAbs).length<=600) (h2:(au r.den).length<=600):bE (RT r)=0:=by
 have key:∀neg:Bool,(neg=true->r.num.natAbs≠0)->mP neg (au r.num.natAbs++jc r.den)=0:=by
  intro neg hO;have hco:wu r.num.natAbs r.den=1:=r.reduced;have gS:r.den≠0:=r.den_nz;generalize r.num.natAbs=m at*
  generalize r.den=d at*
  have hs:bX (au m++jc d)=(au m).length:=by rw [JY _ (zI m),Us];rfl
  have c1:¬((true=false)\/(neg=true/\au m=[48])):=by
   rintro (h | ⟨h,h'⟩)
   ·cases h
   ·exact hO h (Gf (h'.trans (by decide)))
  unfold mP;rw [hs,uM,agL,yp c1];by_cases hd:d=1
  ·have hr:jc d=[]:=yz hd;rw [hr,wG,yp (by omega),yp (by omega),yp (by omega)]
  ·have hr:jc d=47::au d:=yp hd;have iE:(au m++jc d).drop ((au m).length+1)=au d:=by
    rw [hr,show au m++47::au d=(au m++[47])++au d by simp,show (au m).length+1=(au m++[47]).length by simp,uN]
   have hl:(au m++jc d).length=(au m).length+1+(au d).length:=by rw [hr];simp;omega
   rw [iE,hl,agL,agM,agM];have n0:au d≠[48]:=fun e=>gS (Gf (e.trans (by decide)))
   have n1:au d≠[49]:=fun e=>hd (Gf (e.trans (by decide)))
   rw [yp (by simp [n0,n1]),yp (by omega),yp (by simp [hco])]
 rw [G2];by_cases h0:r.num<0
 ·rw [jZ h0];show (if 45=45 then mP true (au r.num.natAbs++jc r.den) else mP false (45::(au r.num.natAbs++jc r.den)))=0
  rw [yz rfl];exact key true (fun _=>by omega)
 ·rw [OV h0];have k:=key false (fun h=>by cases h);have hp:=sf r.num.natAbs;have lL:=zI r.num.natAbs
  cases hq:au r.num.natAbs with
  | nil=>rw [hq] at hp;simp at hp
  | cons b t=>
   rw [hq] at k lL
   have:=UQ lL
   show (if b=45 then mP true (t++jc r.den) else mP false (b::(t++jc r.den)))=0
   rw [yp (by omega)];exact k
def avz {a b:Int} (h:aV a=aV b):a=b:=by
 have hd:∀{z w:Int},z<0->¬w<0->aV z≠aV w:=by
  intro z w h1 h2 e;rw [jZ h1,OV h2] at e
  have:=zI w.natAbs
  rw [<-e] at this
  have:=UQ this
  omega
 by_cases h1:a<0<;>by_cases h2:b<0
 ·rw [jZ h1,jZ h2,vU] at h
  have:=Gf h.2
  omega
 ·exact absurd h (hd h1 h2)
 ·exact absurd h.symm (hd h2 h1)
 ·rw [OV h1,OV h2] at h
  have:=Gf h
  omega
def ala {a b:Rat} (h:RT a=RT b):a=b:=by
 have hs:=agN a;rw [h,agN b] at hs;rw [G2,G2] at h;obtain ⟨h1,h2⟩:=List.append_inj h hs.symm;refine Rat.ext (avz h1) ?_;have hp:∀n,au n≠[]:=fun n e=>by have:=sf n;rw [e] at this;simp at this
 unfold jc at h2;by_cases ha:a.den=1<;>by_cases hb:b.den=1
 ·rw [ha,hb]
 ·rw [yz ha,yp hb] at h2;cases h2
 ·rw [yp ha,yz hb] at h2;cases h2
 ·rw [yp ha,yp hb,vU] at h2;exact Gf h2.2
def avA {r:Rat} (h1:(au r.num.natAbs).length<=600) (h2:(au r.den).length<=600):ae (RT r)=r:=(ala (dZ (ak9 h1 h2)).1).symm
def Ll {r:Rat} {K:Nat} (h:Hq K r) (hK:K<=1800):(au r.num.natAbs).length<=600/\(au r.den).length<=600:=by
 refine ⟨Uv (B:=K) hK (by decide) h.1,Uv (B:=K) hK (by decide) ?_⟩
 have:=h.2
 unfold Bd at this
 rwa [yQ] at this
def We {r:Rat} {K:Nat} (h:Hq K r) (hK:K<=1800):bE (RT r)=0:=ak9 (Ll h hK).1 (Ll h hK).2
def P5 {r:Rat} {K:Nat} (h:Hq K r) (hK:K<=1800):ae (RT r)=r:=avA (Ll h hK).1 (Ll h hK).2
def G3 {r:Rat} {K:Nat} (h:Hq K r) (hK:K<=1800):LG r=false:=by
 obtain ⟨h1,h2⟩:=Ll h hK;unfold LG LN;rw [yQ,yC (by omega),yC (by omega)];rfl
noncomputable def cS (k:Nat) (s:List Nat):Bool:=decide (s.length<=2*k+2)&&(decide (bE s=0)&&(decide ((au (ae s).num.natAbs).length<=k)&&decide ((au (ae s).den).length<=k)))
def pE {s:List Nat} (h:cS 6 s=true):s.length<=14/\bE s=0/\Hq 24 (ae s):=by
 unfold cS at h;simp only [yg,xt] at h;obtain ⟨h1,h2,h3,h4⟩:=h
 exact ⟨by omega,h2,F9 (k:=6) (by omega) (by omega),F9 (z:=((ae s).den:Int)) (k:=6) (by rw [yQ];omega) (by omega)⟩
section
variable {P:aJ} {L:Lib}
def P6 (h:Rm P L) (me:Has P L 359 pW) {k:Nat} (hk:k<=1000) {s:List Nat} (hs:s.length<9223372036854775808):ai P L 359 [.str s,ab k] (.bool (cS k s)):=by
 unfold ai cS;rw [ax me];by_cases h1:s.length<=2*k+2
 ·have e1:=abS h (s:=s) (by omega);unfold ai at e1;rw [yD (show s.length<=2*k+2 from h1),xV];by_cases h2:bE s=0
  ·rw [h2] at e1;obtain ⟨hR,_⟩:=dZ h2;have kr:=jx h2 (yA 2400);obtain ⟨e2,e3,e4⟩:=VO h kr (by omega);rw [<-hR] at e2 e4;have l1:=Pj kr.1;have l2:=Pj kr.2;rw [yQ] at l2;rw [yD h2,xV];by_cases h3:(au (ae s).num.natAbs).length<=k
   ·rw [yD h3,xV];by_cases h4:(au (ae s).den).length<=k
    ·rw [yD h4]
     simp only [go_sem,ya,pW,wrap64 (n:=2*(k:Int)) (by omega) (by omega),wrap64 (n:=2*(k:Int)+2) (by omega) (by omega),ym,show (s.length:Int)<=2*(k:Int)+2 by omega,e1,e2,e3,e4,show ((au (ae s).num.natAbs).length:Int)<=(k:Int) by omega,show ((au (ae s).den).length:Int)<=(k:Int) by omega]
    ·rw [yC h4]
     simp only [go_sem,ya,pW,wrap64 (n:=2*(k:Int)) (by omega) (by omega),wrap64 (n:=2*(k:Int)+2) (by omega) (by omega),ym,show (s.length:Int)<=2*(k:Int)+2 by omega,e1,e2,e3,e4,show ((au (ae s).num.natAbs).length:Int)<=(k:Int) by omega,show ¬((au (ae s).den).length:Int)<=(k:Int) by omega,yk]
   ·rw [yC h3,wg]
    simp only [go_sem,ya,pW,wrap64 (n:=2*(k:Int)) (by omega) (by omega),wrap64 (n:=2*(k:Int)+2) (by omega) (by omega),ym,show (s.length:Int)<=2*(k:Int)+2 by omega,e1,e2,e3,show ¬((au (ae s).num.natAbs).length:Int)<=(k:Int) by omega,yk]
  ·rw [yC h2,wg];have h2':¬bE s=0:=h2
   simp only [go_sem,ya,pW,wrap64 (n:=2*(k:Int)) (by omega) (by omega),wrap64 (n:=2*(k:Int)+2) (by omega) (by omega),ym,show (s.length:Int)<=2*(k:Int)+2 by omega,e1,h2',yk]
 ·rw [yC (show ¬s.length<=2*k+2 from h1),wg]
  simp only [go_sem,ya,pW,wrap64 (n:=2*(k:Int)) (by omega) (by omega),wrap64 (n:=2*(k:Int)+2) (by omega) (by omega),show ¬(s.length:Int)<=2*(k:Int)+2 by omega,yk]
end
end
section
open Go (IntKind)
section
variable {P:aJ} {L:Lib}
def qg (h:Ck P L) {s:List Nat} (h0:bE s=0):∃r,ai P L 62 [.str s] r/\b9 r (ae s):=by
 obtain ⟨hR,_⟩:=dZ h0;have kr:=jx h0 (yA 2400);have hl:=pK kr;obtain ⟨r,e,hr⟩:=m62 h.toTx (a:=ae s) (by omega);rw [<-hR] at e;exact ⟨r,e,hr⟩
end
end
section
open Go (IntKind)
def kF (a b:Rat):AV:=if (LG a||LG b)=true then .af [bF [] [],ab 4] else .af [cF a b,ab 0]
section
variable {P:aJ} {L:Lib}
def avB:Es=1/2:=by
 have h:Es=xF 1 2:=Rat.mk_eq_divInt ..;rw [h,Rat.divInt_eq_div];rfl
end
end
section
open Go (IntKind)
def dl (s:Rat) (l:List Rat):Rat:=l.foldl (fun m x=>if x<m then x else m) s
def dA (s:Rat) (l:List Rat):Rat:=l.foldl (fun m x=>if m<x then x else m) s
def afT (s:Rat) (l:List Rat) (x:Rat):dl s (l++[x])=if x<dl s l then x else dl s l:=by
 simp only [dl,yaC,yaN,yaY];rfl
def afU (s:Rat) (l:List Rat) (x:Rat):dA s (l++[x])=if dA s l<x then x else dA s l:=by
 simp only [dA,yaC,yaN,yaY];rfl
def zV {K:Nat}:∀{l:List Rat} {s:Rat},Hq K s->(∀x,x∈l->Hq K x)->Hq K (dl s l)
 | [],s,hs,_=>hs
 | x::l,s,hs,hl=>by
  show Hq K (dl (if x<s then x else s) l)
  refine zV ?_ (fun y hy=>hl y (xg _ hy))
  split
  ·exact hl x xy
  ·exact hs
def BZ {K:Nat}:∀{l:List Rat} {s:Rat},Hq K s->(∀x,x∈l->Hq K x)->Hq K (dA s l)
 | [],s,hs,_=>hs
 | x::l,s,hs,hl=>by
  show Hq K (dA (if s<x then x else s) l)
  refine BZ ?_ (fun y hy=>hl y (xg _ hy))
  split
  ·exact hl x xy
  ·exact hs
def kX (a b:Rat):decide (kE a b<0)=decide (a<b):=by
 unfold kE;by_cases h1:a<b
 ·simp [h1]
 ·by_cases h2:a=b<;>simp [h1,h2]
def sn (a b:Rat):decide (0<kE a b)=decide (b<a):=by
 unfold kE;by_cases h1:a<b
 ·have:¬b<a:=by grind
  simp [h1,this]
 ·by_cases h2:a=b
  ·subst h2;simp [tN]
  ·have:b<a:=by grind
   simp [h1,h2,this]
def ri (a b:Rat):decide (kE a b<=0)=decide (a<=b):=by
 unfold kE;by_cases h1:a<b
 ·have:a<=b:=Rat.le_of_lt h1
  simp [h1,this]
 ·by_cases h2:a=b
  ·subst h2;simp [tN]
  ·have:¬a<=b:=by grind
   simp [h1,h2,this]
def Pk (a b:Rat):decide (0<=kE a b)=decide (b<=a):=by
 unfold kE;by_cases h1:a<b
 ·have:¬b<=a:=by grind
  simp [h1,this]
 ·by_cases h2:a=b
  ·subst h2;simp [tN]
  ·have:b<=a:=by grind
   simp [h1,h2,this]
def TB:dP (.int .i64 0)=some 0:=rfl
def AZ:dP (.int .i64 1)=some 1:=rfl
def afV:∀{ps:List (List AV)},(∀p,p∈ps->p.length=4)->ps.flatten.length=ps.length*4
 | [],_=>by simp
 | p::ps,h=>by
  have:=afV (ps:=ps) (fun q hq=>h q (xg _ hq))
  rw [vH,yU,this,h p xy,yx,Nat.add_mul];omega
section
variable {P:aJ} {L:Lib}
def aE5 (h:Ck P L) (iN:Has P L 161 Hi) {v:AV} {l:List (List Nat)} (hv:gU v l) (hl:l.length<=1000000) (hs:∀s,s∈l->s.length<=1000000000):ai P L 161 [v] (ab (cX (l.map bE))):=by
 unfold ai;rw [ax iN];simp only [go_sem,ya,Hi,hv.len];have key:=cR (P:=P) (L:=L) (live:=[6,7,8]) (a:=Pv)
  (I:=fun k s=>∃i:Nat,s=⟨[(6,v),(7,ab l.length),(8,ab i)],[],0,0⟩/\i+k=l.length/\cX ((l.drop i).map bE)=cX (l.map bE))
  (Q:=fun ex s=>∃tm ct,s=⟨tm,[],ct,0⟩/\((ex= .ret/\ak tm 2=ab (cX (l.map bE)))\/(ex= .exit 0/\cX (l.map bE)=0))) ?_
 ·generalize hq:D P L (.loop [6,7,8] Pv) _=q;obtain ⟨ex,s,rfl,tm,ct,rfl,h2⟩:=cG hq (key l.length) ⟨0,by simp only [go_sem,ya,aH,aR hv.pu,aW _ hv.pu]<;>rfl,by omega,by simp⟩
  rcases h2 with ⟨rfl,h2⟩ | ⟨rfl,h2⟩
  ·simp only [go_sem,h2]
  ·rw [h2];simp only [go_sem,aH]
 ·rintro k s ⟨i,rfl,hk,hf⟩;simp only [go_sem,ya,Pv];by_cases hi:i<l.length
  ·have fy:(i:Int)<l.length:=by omega
   have e1:=m86 h (hs l[i] (wN hi));unfold ai at e1;rw [afS hi] at hf;by_cases hz:bE l[i]=0
   ·left
    rw [hz] at e1;simp only [go_sem,ya,fy,hv.bz hi,e1];refine ⟨_,k-1,rfl,by omega,i+1,?_,by omega,by rw [yz hz] at hf;exact hf⟩
    rw [wrap64 (by omega) (by omega)];simp only [go_sem,ya,aH,aR hv.pu,aW _ hv.pu]<;>rfl
   ·right
    simp only [go_sem,ya,fy,hv.bz hi,e1,hz];rw [yp hz] at hf;refine ⟨_,_,rfl,by simp,_,_,rfl,.inl ⟨rfl,?_⟩⟩;simp only [go_sem,hf]
  ·right
   have fy:¬(i:Int)<l.length:=by omega
   simp only [go_sem,fy];refine ⟨_,_,rfl,by simp,_,_,rfl,.inr ⟨rfl,?_⟩⟩;rw [<-hf,xn (by omega)];rfl
def abT (h:Fr' P L) (dW:Has P L 71 nU) (kG:Has P L 233 EG) {v:AV} {s:Rat} {l:List Rat} {K:Nat} (hv:iM v (s::l)) (hl:l.length<=1000) (kl:∀x,x∈s::l->Hq K x) (hK:K<=1000000000):∃r,ai P L 233 [v,.fn (.f 71) [] []] r/\b9 r (dl s l):=by
 have ks:∀i,Hq K (dl s (l.take i)):=fun i=>zV (kl s xy) (fun x hx=>kl x (xg _ (vI hx)))
 have hlen:(s::l).length=l.length+1:=rfl;have key:=cR (P:=P) (L:=L) (live:=[0,1,4,5,6]) (a:=GA)
  (I:=fun k st=>∃i:Nat,i+k=l.length/\∃c1 c2 c3 c4,b9 (.agg [c1,c2,c3,c4]) (dl s (l.take i))/\st=⟨[(0,v),(1,.fn (.f 71) [] []),(4,.ptr 0 0),(5,.ptr 1 0),(6,ab (i+1:Nat))],[(1,.cells true true true 4 [c1,c2,c3,c4]),(0,.cells true true true 4 [.int .i64 0,.aa,.int .i64 0,.aa])],2,0⟩)
  (Q:=fun ex st=>∃tm hp ct c1 c2 c3 c4,b9 (.agg [c1,c2,c3,c4]) (dl s l)/\st=⟨tm,hp,ct,0⟩/\ex= .exit 0/\ak tm 4= .ptr 0 0/\ak tm 5= .ptr 1 0/\aF hp 1=some (.cells true true true 4 [c1,c2,c3,c4])/\aF hp 0=some (.cells true true true 4 [.int .i64 0,.aa,.int .i64 0,.aa])) ?_
 ·obtain ⟨a,b,c,d,r,e1,hx⟩:=hv.bz (i:=0) (by simp);rw [wF] at hx;have gx:=hx.f4;unfold ai;rw [ax kG];simp only [go_sem,ya,yb,EG,az,hv.len,yx,show ¬((l.length+1:Nat):Int)<1 by omega,yk,TB,e1,E5,eL,gx.st];generalize hq:D P L (.loop [0,1,4,5,6] GA) _=q;obtain ⟨ex,st,rfl,tm,hp,ct,c1,c2,c3,c4,h1,rfl,rfl,t4,t5,g1,g0⟩:=cG hq (key l.length) ⟨0,by omega,a,b,c,d,hx,by simp only [go_sem,ya,yb,aH,aR hv.pu,aW _ hv.pu]<;>rfl⟩
  have g:=h1.f4;refine ⟨_,?_,h1⟩;simp only [go_sem,ya,yb,aH,t4,t5,g1,g0,eL,g.st,di,dj,ye];exact g.dU _
 ·rintro k st ⟨i,hk,c1,c2,c3,c4,hs,rfl⟩;by_cases hi:i<l.length
  ·left
   obtain ⟨a,b,c,d,r,e1,hx⟩:=hv.bz (i:=i+1) (by simp;omega);rw [vm] at hx;have kx:=kl _ (xg s (wN hi));have e2:=NP h hx hs kx (ks i) (by omega);have gx:=hx.f4;have gs:=hs.f4;have aY:dl s (l.take (i+1))=if l[i]<dl s (l.take i) then l[i] else dl s (l.take i):=by rw [xH hi,afT]
   unfold ai at e2;by_cases hb:l[i]<dl s (l.take i)
   ·rw [yz hb] at aY;simp only [go_sem,ya,GA,hv.len,yx,show ((i+1:Nat):Int)<((l.length+1:Nat):Int) by omega,e1,E5,eL,ye,gx.ao,gs.ao,e2,kX,yD hb,DO (show (0:Int)<=((i+1:Nat):Int) by omega),xC,gx.st];refine ⟨_,k-1,rfl,by omega,i+1,by omega,a,b,c,d,by rw [aY];exact hx,?_⟩
    rw [wrap64 (by omega) (by omega)];simp only [go_sem,ya,yb,aH,aR hv.pu,aW _ hv.pu]<;>rfl
   ·rw [yp hb] at aY;simp only [go_sem,ya,GA,hv.len,yx,show ((i+1:Nat):Int)<((l.length+1:Nat):Int) by omega,e1,E5,eL,ye,gx.ao,gs.ao,e2,kX,yC hb,DO (show (0:Int)<=((i+1:Nat):Int) by omega),xC];refine ⟨_,k-1,rfl,by omega,i+1,by omega,c1,c2,c3,c4,by rw [aY];exact hs,?_⟩
    rw [wrap64 (by omega) (by omega)];simp only [go_sem,ya,yb,aH,aR hv.pu,aW _ hv.pu]<;>rfl
  ·right
   rw [yK (by omega)] at hs;simp only [go_sem,ya,GA,hv.len,yx,show ¬((i+1:Nat):Int)<((l.length+1:Nat):Int) by omega];exact ⟨_,_,rfl,by simp,_,_,_,c1,c2,c3,c4,hs,rfl,rfl,by simp only [go_sem,ya],by simp only [go_sem,ya],by simp only [go_sem],by simp only [go_sem,ya]⟩
def an3 (h:Fr' P L) (dW:Has P L 71 nU) (lD:Has P L 234 EH) {v:AV} {s:Rat} {l:List Rat} {K:Nat} (hv:iM v (s::l)) (hl:l.length<=1000) (kl:∀x,x∈s::l->Hq K x) (hK:K<=1000000000):∃r,ai P L 234 [v,.fn (.f 71) [] []] r/\b9 r (dA s l):=by
 have ks:∀i,Hq K (dA s (l.take i)):=fun i=>BZ (kl s xy) (fun x hx=>kl x (xg _ (vI hx)))
 have hlen:(s::l).length=l.length+1:=rfl;have key:=cR (P:=P) (L:=L) (live:=[0,1,4,5,6]) (a:=GB)
  (I:=fun k st=>∃i:Nat,i+k=l.length/\∃c1 c2 c3 c4,b9 (.agg [c1,c2,c3,c4]) (dA s (l.take i))/\st=⟨[(0,v),(1,.fn (.f 71) [] []),(4,.ptr 0 0),(5,.ptr 1 0),(6,ab (i+1:Nat))],[(1,.cells true true true 4 [c1,c2,c3,c4]),(0,.cells true true true 4 [.int .i64 0,.aa,.int .i64 0,.aa])],2,0⟩)
  (Q:=fun ex st=>∃tm hp ct c1 c2 c3 c4,b9 (.agg [c1,c2,c3,c4]) (dA s l)/\st=⟨tm,hp,ct,0⟩/\ex= .exit 0/\ak tm 4= .ptr 0 0/\ak tm 5= .ptr 1 0/\aF hp 1=some (.cells true true true 4 [c1,c2,c3,c4])/\aF hp 0=some (.cells true true true 4 [.int .i64 0,.aa,.int .i64 0,.aa])) ?_
 ·obtain ⟨a,b,c,d,r,e1,hx⟩:=hv.bz (i:=0) (by simp);rw [wF] at hx;have gx:=hx.f4;unfold ai;rw [ax lD];simp only [go_sem,ya,yb,EH,az,hv.len,yx,show ¬((l.length+1:Nat):Int)<1 by omega,yk,TB,e1,E5,eL,gx.st];generalize hq:D P L (.loop [0,1,4,5,6] GB) _=q;obtain ⟨ex,st,rfl,tm,hp,ct,c1,c2,c3,c4,h1,rfl,rfl,t4,t5,g1,g0⟩:=cG hq (key l.length) ⟨0,by omega,a,b,c,d,hx,by simp only [go_sem,ya,yb,aH,aR hv.pu,aW _ hv.pu]<;>rfl⟩
  have g:=h1.f4;refine ⟨_,?_,h1⟩;simp only [go_sem,ya,yb,aH,t4,t5,g1,g0,eL,g.st,di,dj,ye];exact g.dU _
 ·rintro k st ⟨i,hk,c1,c2,c3,c4,hs,rfl⟩;by_cases hi:i<l.length
  ·left
   obtain ⟨a,b,c,d,r,e1,hx⟩:=hv.bz (i:=i+1) (by simp;omega);rw [vm] at hx;have kx:=kl _ (xg s (wN hi));have e2:=NP h hx hs kx (ks i) (by omega);have gx:=hx.f4;have gs:=hs.f4;have aY:dA s (l.take (i+1))=if dA s (l.take i)<l[i] then l[i] else dA s (l.take i):=by rw [xH hi,afU]
   unfold ai at e2;by_cases hb:dA s (l.take i)<l[i]
   ·rw [yz hb] at aY;simp only [go_sem,ya,GB,hv.len,yx,show ((i+1:Nat):Int)<((l.length+1:Nat):Int) by omega,e1,E5,eL,ye,gx.ao,gs.ao,e2,sn,yD hb,DO (show (0:Int)<=((i+1:Nat):Int) by omega),xC,gx.st];refine ⟨_,k-1,rfl,by omega,i+1,by omega,a,b,c,d,by rw [aY];exact hx,?_⟩
    rw [wrap64 (by omega) (by omega)];simp only [go_sem,ya,yb,aH,aR hv.pu,aW _ hv.pu]<;>rfl
   ·rw [yp hb] at aY;simp only [go_sem,ya,GB,hv.len,yx,show ((i+1:Nat):Int)<((l.length+1:Nat):Int) by omega,e1,E5,eL,ye,gx.ao,gs.ao,e2,sn,yC hb,DO (show (0:Int)<=((i+1:Nat):Int) by omega),xC];refine ⟨_,k-1,rfl,by omega,i+1,by omega,c1,c2,c3,c4,by rw [aY];exact hs,?_⟩
    rw [wrap64 (by omega) (by omega)];simp only [go_sem,ya,yb,aH,aR hv.pu,aW _ hv.pu]<;>rfl
  ·right
   rw [yK (by omega)] at hs;simp only [go_sem,ya,GB,hv.len,yx,show ¬((i+1:Nat):Int)<((l.length+1:Nat):Int) by omega];exact ⟨_,_,rfl,by simp,_,_,_,c1,c2,c3,c4,hs,rfl,rfl,by simp only [go_sem,ya],by simp only [go_sem,ya],by simp only [go_sem],by simp only [go_sem,ya]⟩
def m88 (h:Ck P L) (FK:Has P L 88 jJ) {v:AV} {l:List (List Nat)} (hv:gU v l) (hl:l.length<=1000000) (hc:∀s,s∈l->bE s=0):∃r,ai P L 88 [v] r/\iM (shut r) (l.map ae):=by
 have zf:∀n,(yF (n+1) [AV.int .i64 0,.aa,.int .i64 0,.aa]).flatten= .int .i64 0:: .aa:: .int .i64 0:: .aa::(yF n [AV.int .i64 0,.aa,.int .i64 0,.aa]).flatten:=fun n=>by rw [List.replicate_succ,vH];rfl
 have zl:∀n,(yF n [AV.int .i64 0,.aa,.int .i64 0,.aa]).flatten.length=n*4:=fun n=>by
  rw [afV (fun p hp=>by rw [List.eq_of_mem_replicate hp];rfl),List.length_replicate]
 have key:=cR (P:=P) (L:=L) (live:=[3,9,10,11]) (a:=LC)
  (I:=fun k st=>∃(i:Nat) (qs:List AV),i+k=l.length/\QL qs ((l.take i).map ae)/\st=⟨[(3,.ay 0 0 l.length),(9,v),(10,ab l.length),(11,ab i)],[(0,.cells true true true 4 (qs++(yF (l.length-i) [AV.int .i64 0,.aa,.int .i64 0,.aa]).flatten))],1,0⟩)
  (Q:=fun ex st=>∃tm hp ct qs,QL qs (l.map ae)/\st=⟨tm,hp,ct,0⟩/\ex= .exit 0/\ak tm 3= .ay 0 0 l.length/\aF hp 0=some (.cells true true true 4 qs)) ?_
 ·unfold ai;rw [ax FK];have mk:AH 0 4 64 [AV.int .i64 0,.aa,.int .i64 0,.aa] (some l.length) (some l.length)=some (.ay 0 0 l.length,.cells true true true 4 (yF l.length [AV.int .i64 0,.aa,.int .i64 0,.aa]).flatten):=Lh (by omega) (by omega) (by rfl) (by rfl);simp only [go_sem,ya,yb,jJ,hv.len,DO (show (0:Int)<=l.length by omega),xC,mk];generalize hq:D P L (.loop [3,9,10,11] LC) _=q;obtain ⟨ex,st,rfl,tm,hp,ct,qs,Dz,rfl,rfl,t3,g0⟩:=cG hq (key l.length) ⟨0,[],by omega,trivial,by simp only [go_sem,ya,yb,aH,aR hv.pu,aW _ hv.pu]<;>rfl⟩
  have oR:=Dz.len;rw [xq] at oR;refine ⟨.bV true 4 l.length qs,?_,?_⟩
  ·simp only [go_sem,yb,aH,t3,g0];exact Ur (ON _ _ _) oR (by decide)
  ·have:=OU true Dz
   rwa [xq] at this
 ·rintro k st ⟨i,qs,Ba,Dz,rfl⟩;by_cases hi:i<l.length
  ·left
   obtain ⟨r,e2,hr⟩:=qg h (hc _ (wN hi));have cM:=hr;obtain ⟨r1,r2,r3,r4,rfl,gr⟩:=hr.gen;have lq:qs.length=i*4:=by rw [Dz.len,xq,yR,Nat.min_eq_left (by omega)]
   have pr:=gr.pk;have aY:∀(hp:Hp) (ct:Nat),gC hp ct 0 (i*4) 4 [r1,r2,r3,r4] (some (.cells true true true 4 (qs++(yF (l.length-i) [AV.int .i64 0,.aa,.int .i64 0,.aa]).flatten)))=some (.af [],bf hp 0 (.cells true true true 4 ((qs++[r1,r2,r3,r4])++(yF (l.length-(i+1)) [AV.int .i64 0,.aa,.int .i64 0,.aa]).flatten)),ct):=fun hp ct=>by
    rw [rq (by rfl) (by rw [yU,lq,zl];omega) (by simp [cr,gr.o1,gr.o2,gr.o3,gr.o4])];have hov:over (i*4) [r1,r2,r3,r4] (qs++(yF (l.length-i) [AV.int .i64 0,.aa,.int .i64 0,.aa]).flatten)=(qs++[r1,r2,r3,r4])++(yF (l.length-(i+1)) [AV.int .i64 0,.aa,.int .i64 0,.aa]).flatten:=by
     rw [show l.length-i=(l.length-(i+1))+1 by omega,zf];unfold over;rw [<-lq,uM,show qs.length+[r1,r2,r3,r4].length=qs.length+4 from rfl,<-List.drop_drop,uN];rfl
    rw [hov];simp [aO,pr.1,pr.2.1,pr.2.2.1,pr.2.2.2]
   unfold ai at e2;simp only [go_sem,ya,LC,show (i:Int)<l.length by omega,hv.bz hi,e2,bq,DO (show (0:Int)<=i by omega),xC,dD 0 0 hi,yd,aY];refine ⟨_,k-1,rfl,by omega,i+1,qs++[r1,r2,r3,r4],by omega,?_,?_⟩
   ·rw [xH hi,List.map_append];exact Dz.snoc cM
   ·rw [wrap64 (by omega) (by omega)];simp only [go_sem,ya,yb,aH,aR hv.pu,aW _ hv.pu]<;>rfl
  ·right
   have:i=l.length:=by omega
   subst this;rw [yK (yA _)] at Dz;simp only [go_sem,ya,LC,show ¬(l.length:Int)<l.length by omega,Nat.sub_self];exact ⟨_,_,rfl,by simp,_,_,_,qs,Dz,rfl,rfl,by simp only [go_sem,ya],by simp only [go_sem];simp⟩
def E6 (h:Tx P L) (iO:Has P L 214 rF) {v w:AV} {a b:Rat} {K:Nat} (hv:b9 v a) (hw:b9 w b) (ka:Hq K a) (kb:Hq K b) (hK:K<=4000000000):ai P L 214 [v,w] (kF a b):=by
 have e1:=anJ h hv ka hK;have e2:=anJ h hw kb hK;have e3:=m46 h hv ka hK;have e4:=m46 h hw kb hK;obtain ⟨v1,v2,v3,v4,rfl,gv⟩:=hv.gen;obtain ⟨w1,w2,w3,w4,rfl,gw⟩:=hw.gen;unfold kF;unfold ai at e1 e2 e3 e4 ⊢;rw [ax iO];cases hA:LG a<;>rw [hA] at e1
 ·cases hB:LG b<;>rw [hB] at e2
  ·simp only [go_sem,ya,yb,yi,rF,gv.bx,gw.bx,az,eL,ye,gv.ao,gw.ao,e1,e2,e3,e4,bP,ybI,yE,y9];rfl
  ·simp only [go_sem,ya,yb,rF,gv.bx,gw.bx,az,eL,ye,gv.ao,gw.ao,e1,e2,bP,ybH,xm];rfl
 ·simp only [go_sem,ya,yb,rF,gv.bx,gw.bx,az,eL,ye,gv.ao,e1,bP,tA,xm];rfl
end
end
section
open Go (IntKind)
noncomputable def cB (a b:List Nat):Int:=if cX [bE a,bE b]≠0 then cX [bE a,bE b] else if ae b<ae a then 11 else 0
def pM {a b:List Nat} (h:cB a b=0):bE a=0/\bE b=0/\ae a<=ae b:=by
 unfold cB at h
 split at h
 ·contradiction
 ·rename_i h1;have h1:cX [bE a,bE b]=0:=by simpa using h1
  obtain ⟨h2,h3⟩:=nt.1 h1;refine ⟨h2,h3,?_⟩
  split at h
  ·exact absurd h (by decide)
  ·rename_i h4;exact yaD.1 h4
def zW (a b:Rat):∃u v e,kF a b= .af [.agg [.str u,.str v],ab e]:=by unfold kF;split<;>exact ⟨_,_,_,rfl⟩
section
variable {P:aJ} {L:Lib}
def sS (h:Ck P L) (dW:Has P L 71 nU) (iN:Has P L 161 Hi) (jE:Has P L 210 Hm) {a b:List Nat} (la:a.length<=1000000000) (lb:b.length<=1000000000):ai P L 210 [bF a b] (ab (cB a b)):=by
 have e1:=aE5 h iN (rh true [a,b]) (by simp) (fun t ht=>by simp at ht;rcases ht with rfl | rfl<;>assumption)
 simp only [yx,yJ,yd,yb,xi,wH] at e1;unfold cB bF;unfold ai at e1 ⊢;rw [ax jE];by_cases h0:cX [bE a,bE b]=0
 ·obtain ⟨c1,c2⟩:=nt.1 h0;obtain ⟨v,e2,hv⟩:=qg h c1;obtain ⟨w,e3,hw⟩:=qg h c2;have e4:=NP h.toFr' hv hw (jx c1 (yA 2400)) (jx c2 (yA 2400)) (by decide);have e5:=nL h.nM (decide (ae b<ae a)) 11;obtain ⟨v1,v2,v3,v4,rfl,gv⟩:=hv.gen;obtain ⟨w1,w2,w3,w4,rfl,gw⟩:=hw.gen;rw [h0] at e1 ⊢;simp only [xt] at e5;unfold ai at e2 e3 e4 e5;simp only [go_sem,ya,yb,yr,yi,yj,Hm,az,aP,yd,bj,ye,e1,e2,e3,bq,gv.ao,gw.ao,e4,sn,e5]
  simp
 ·rw [yz h0];simp only [go_sem,ya,yb,yr,yi,yj,Hm,az,aP,yd,bj,ye,e1,h0,yk,yH]
def abU {o5 o4 o3 o1 o0:Obj} {ct n:Nat} {cs new:List AV} (hl:cs.length=n*4) (hn:n<=1000) (ho:cr new=true) (hp:aO new=true):CT ((5,o5)::(4,o4)::(3,o3)::(2,.cells true true false 4 cs)::[(1,o1),(0,o0)]) ct 4 64 (.ay 2 0 n) (some (1,new))=some (.ay ct 0 (n+1),(ct,.cells true true false 4 (cs++new))::(5,o5)::(4,o4)::(3,o3)::[(1,o1),(0,o0)],ct+1):=by
 rw [my (ex:=false) (pu:=true) (cs:=cs) (by simp only [go_sem,ya]) hl (by omega) (by omega) (by decide) ho,hp];simp only [go_sem,ya]
def bU (f:Rat->Rat->Rat) (a b c d:Rat):List Rat:=[f a d,f b c,f b d]
def an4 (h:Ck P L) (dW:Has P L 71 nU) (FK:Has P L 88 jJ) (Sp:Has P L 211 Qt) (iO:Has P L 214 rF) (kG:Has P L 233 EG) (lD:Has P L 234 EH) {al ah bl bh:List Nat} (c1:bE al=0) (c2:bE ah=0) (c3:bE bl=0) (c4:bE bh=0) {g:Nat} {f:Rat->Rat->Rat} {K:Nat} (hK:K<=1000000000)
  (gn:∀v w x y,(x=ae al\/x=ae ah)->(y=ae bl\/y=ae bh)->b9 v x->b9 w y->Hq K (f x y)/\∃r,ai P L g [v,w] r/\b9 r (f x y)):
  ai P L 211 [bF al ah,bF bl bh,.fn (.f g) [] []] (kF (dl (f (ae al) (ae bl)) (bU f (ae al) (ae ah) (ae bl) (ae bh))) (dA (f (ae al) (ae bl)) (bU f (ae al) (ae ah) (ae bl) (ae bh)))):=by
 obtain ⟨rA,eA,hA⟩:=m88 h FK (rh true [al,ah]) (by simp) (fun s hs=>by simp at hs;rcases hs with rfl | rfl<;>assumption)
 obtain ⟨rB,eB,hB⟩:=m88 h FK (rh true [bl,bh]) (by simp) (fun s hs=>by simp at hs;rcases hs with rfl | rfl<;>assumption)
 simp only [yx,yJ,yd,yb,xi,wH] at eA eB hA hB;obtain ⟨a1,a2,a3,a4,ar,xa,qa⟩:=hA.bz (i:=0) (by simp);obtain ⟨b1,b2,b3,b4,br,xb,qb⟩:=hA.bz (i:=1) (by simp);obtain ⟨d1,d2,d3,d4,dr,xc,qc⟩:=hB.bz (i:=0) (by simp);obtain ⟨e1,e2,e3,e4,er,xd,qd⟩:=hB.bz (i:=1) (by simp);simp only [wF,vm] at qa qb qc qd;obtain ⟨k1,y1,f1,p1⟩:=gn _ _ _ _ (.inl rfl) (.inl rfl) qa qc;obtain ⟨k2,y2,f2,p2⟩:=gn _ _ _ _ (.inl rfl) (.inr rfl) qa qd;obtain ⟨k3,y3,f3,p3⟩:=gn _ _ _ _ (.inr rfl) (.inl rfl) qb qc;obtain ⟨k4,y4,f4,p4⟩:=gn _ _ _ _ (.inr rfl) (.inr rfl) qb qd;obtain ⟨s1,s2,s3,s4,rfl,gs⟩:=p1.gen;obtain ⟨t1,t2,t3,t4,rfl,gt⟩:=p2.gen;obtain ⟨u1,u2,u3,u4,rfl,gu⟩:=p3.gen;obtain ⟨v1,v2,v3,v4,rfl,gv⟩:=p4.gen
 have hQ:QL [s1,s2,s3,s4,t1,t2,t3,t4,u1,u2,u3,u4,v1,v2,v3,v4] (f (ae al) (ae bl)::bU f (ae al) (ae ah) (ae bl) (ae bh)):=⟨p1,p2,p3,p4,trivial⟩;have hF:=OU false hQ;have kk:∀x,x∈f (ae al) (ae bl)::bU f (ae al) (ae ah) (ae bl) (ae bh)->Hq K x:=fun x hx=>by
  simp only [bU,wb,wX,vt] at hx;rcases hx with rfl | rfl | rfl | rfl<;>assumption
 obtain ⟨lo,g1,q1⟩:=abT h.toFr' dW kG hF (by simp [bU]) kk hK;obtain ⟨hi,g2,q2⟩:=an3 h.toFr' dW lD hF (by simp [bU]) kk hK;have g3:=E6 h.toTx iO q1 q2 (zV (kk _ xy) (fun x hx=>kk x (xg _ hx))) (BZ (kk _ xy) (fun x hx=>kk x (xg _ hx))) (by omega);simp only [bU,yx,yJ,yd,yb] at g1 g2;obtain ⟨u,v,z,hu⟩:=zW (dl (f (ae al) (ae bl)) (bU f (ae al) (ae ah) (ae bl) (ae bh))) (dA (f (ae al) (ae bl)) (bU f (ae al) (ae ah) (ae bl) (ae bh)));rw [hu] at g3 ⊢;obtain ⟨lo1,lo2,lo3,rU,rfl,JN⟩:=q1.gen;obtain ⟨Fz,hi2,hi3,rV,rfl,JO⟩:=q2.gen;have ga:=qa.f4;have gb:=qb.f4;have gc:=qc.f4;have gd:=qd.f4
 have z1:=fun q=>PF (tm:=q) (x0:= .int .i64 0) (x1:= .aa) (x2:= .int .i64 0) (x3:= .aa) (r:=[]) gs.o1 gs.o2 gs.o3 gs.o4
 have z2:=fun q=>PF (tm:=q) (x0:= .int .i64 0) (x1:= .aa) (x2:= .int .i64 0) (x3:= .aa) (r:=[]) gt.o1 gt.o2 gt.o3 gt.o4
 have z3:=fun q=>PF (tm:=q) (x0:= .int .i64 0) (x1:= .aa) (x2:= .int .i64 0) (x3:= .aa) (r:=[]) gu.o1 gu.o2 gu.o3 gu.o4
 have z4:=fun q=>PF (tm:=q) (x0:= .int .i64 0) (x1:= .aa) (x2:= .int .i64 0) (x3:= .aa) (r:=[]) gv.o1 gv.o2 gv.o3 gv.o4
 obtain ⟨nP,qF,JP,JQ⟩:=gs.pk;obtain ⟨FL,FM,FN,FO⟩:=gt.pk;obtain ⟨TC,TD,TE,TF⟩:=gu.pk;obtain ⟨TG,TH,TI,TJ⟩:=gv.pk;have w2:=fun o5 o4 o3 o1 o0 ct=>abU (o5:=o5) (o4:=o4) (o3:=o3) (o1:=o1) (o0:=o0) (ct:=ct) (n:=1) (cs:=[s1,s2,s3,s4]) (new:=[t1,t2,t3,t4]) rfl (by omega) (by simp [cr,gt.o1,gt.o2,gt.o3,gt.o4]) (by simp [aO,FL,FM,FN,FO])
 have w3:=fun o5 o4 o3 o1 o0 ct=>abU (o5:=o5) (o4:=o4) (o3:=o3) (o1:=o1) (o0:=o0) (ct:=ct) (n:=2) (cs:=[s1,s2,s3,s4,t1,t2,t3,t4]) (new:=[u1,u2,u3,u4]) rfl (by omega) (by simp [cr,gu.o1,gu.o2,gu.o3,gu.o4]) (by simp [aO,TC,TD,TE,TF])
 have w4:=fun o5 o4 o3 o1 o0 ct=>abU (o5:=o5) (o4:=o4) (o3:=o3) (o1:=o1) (o0:=o0) (ct:=ct) (n:=3) (cs:=[s1,s2,s3,s4,t1,t2,t3,t4,u1,u2,u3,u4]) (new:=[v1,v2,v3,v4]) rfl (by omega) (by simp [cr,gv.o1,gv.o2,gv.o3,gv.o4]) (by simp [aO,TG,TH,TI,TJ])
 have fz:∀hp:Hp,jR 0 4 (some (false,4,[s1,s2,s3,s4,t1,t2,t3,t4,u1,u2,u3,u4,v1,v2,v3,v4],hp))=some (.ap false 4 [s1,s2,s3,s4,t1,t2,t3,t4,u1,u2,u3,u4,v1,v2,v3,v4],hp):=fun hp=>q8 false rfl (by decide)
 simp only [List.cons_append,List.nil_append,yb] at w2 w3 w4;unfold bF at*
 unfold ai at eA eB f1 f2 f3 f4 g1 g2 g3 ⊢;rw [ax Sp];simp only [go_sem,ya,yb,Nat.reduceMul,yr,yi,yj,Qt,az,aP,yd,bj,ye,eA,hA.len,yx,yJ,Lg,aj7,aj6,aH,aR hA.pu,aW _ hA.pu,aR hB.pu,aW _ hB.pu,TB,AZ,xa,xb,xc,xd,E5,eL,ga.st,gb.st,gc.st,gd.st,eB,hB.len,ga.ao,gb.ao,gc.ao,gd.ao,f1,f2,f3,f4,bq,z1,z2,z3,z4,nP,qF,JP,JQ,FL,FM,FN,FO,TC,TD,TE,TF,TG,TH,TI,TJ,we,aC4,nl,w2,w3,w4,fz,g1,g2,JN.ao,JO.ao,g3,bP,show ((2:Nat):Int)=2 from rfl,Int.reduceLT,ym,yk,Int.reduceAdd,show IntKind.wrap .i64 1=1 from rfl,show IntKind.wrap .i64 2=2 from rfl];rfl
end
end
section
open Go (IntKind)
def jS (a b x:Rat):Bool:=decide (a<=x)&&decide (x<=b)
section
variable {P:aJ} {L:Lib}
def lV (h:Rp P L) (bD:Has P L 315 fU) {a b:Rat} {K M:Nat} (ka:Hq K a) (kb:Hq M b) (hK:K+M+1<=8000000000):ai P L 315 [.str (RT a),.str (RT b)] (ab (kE a b)):=by
 have:=aE3 h bD ka kb hK
 rwa [zT] at this
def aE6 (h:Rp P L) (bD:Has P L 315 fU) (qh:Has P L 448 CK) {a b:Rat} {K:Nat} (ka:Hq K a) (kb:Hq K b) (hK:K<=1000000000):ai P L 448 [.str (RT a),.str (RT b)] (.str (RT (if b<a then b else a))):=by
 have e1:=lV h bD ka kb (by omega);unfold ai at e1 ⊢;rw [ax qh];by_cases hb:b<a
 ·rw [yz hb];simp only [go_sem,ya,CK,e1,ri,yC (show ¬a<=b from ycf.2 hb)]
 ·rw [yp hb];simp only [go_sem,ya,CK,e1,ri,yD (show a<=b from yaD.1 hb)]
def aE7 (h:Rp P L) (bD:Has P L 315 fU) (qj:Has P L 449 CL) {a b:Rat} {K:Nat} (ka:Hq K a) (kb:Hq K b) (hK:K<=1000000000):ai P L 449 [.str (RT a),.str (RT b)] (.str (RT (if a<b then b else a))):=by
 have e1:=lV h bD ka kb (by omega);unfold ai at e1 ⊢;rw [ax qj];by_cases hb:a<b
 ·rw [yz hb];simp only [go_sem,ya,CL,e1,Pk,yC (show ¬b<=a from ycf.2 hb)]
 ·rw [yp hb];simp only [go_sem,ya,CL,e1,Pk,yD (show b<=a from yaD.1 hb)]
def an5 (h:Rp P L) (bD:Has P L 315 fU) (sT:Has P L 447 HB) (qh:Has P L 448 CK) (qj:Has P L 449 CL) {v:AV} {s:Rat} {l:List Rat} {K:Nat} (hv:gU v ((s::l).map RT)) (hl:l.length<=1000) (kl:∀x,x∈s::l->Hq K x) (hK:K<=1000000000):ai P L 447 [v] (cF (dl s l) (dA s l)):=by
 have k1:∀i,Hq K (dl s (l.take i)):=fun i=>zV (kl s xy) (fun x hx=>kl x (xg _ (vI hx)))
 have k2:∀i,Hq K (dA s (l.take i)):=fun i=>BZ (kl s xy) (fun x hx=>kl x (xg _ (vI hx)))
 have hlen:((s::l).map RT).length=l.length+1:=by simp
 have key:=cR (P:=P) (L:=L) (live:=[0,2,3,4]) (a:=Lf)
  (I:=fun k st=>∃i:Nat,i+k=l.length/\st=⟨[(0,v),(2,.ptr 0 0),(3,.ptr 1 0),(4,ab (i+1:Nat))],[(1,.cells true true true 2 [.str (RT (dl s (l.take i))),.str (RT (dA s (l.take i)))]),(0,.cells true true true 2 [.str [],.str []])],2,0⟩)
  (Q:=fun ex st=>∃tm hp ct,st=⟨tm,hp,ct,0⟩/\ex= .exit 0/\ak tm 2= .ptr 0 0/\ak tm 3= .ptr 1 0/\aF hp 1=some (.cells true true true 2 [.str (RT (dl s l)),.str (RT (dA s l))])/\aF hp 0=some (.cells true true true 2 [.str [],.str []])) ?_
 ·have e1:=hv.bz (i:=0) (by simp);rw [uV,wF] at e1;unfold ai;rw [ax sT];simp only [go_sem,ya,yb,yi,HB,az,TB,e1,bP];generalize hq:D P L (.loop [0,2,3,4] Lf) _=q;obtain ⟨ex,st,rfl,tm,hp,ct,rfl,rfl,t2,t3,g1,g0⟩:=cG hq (key l.length) ⟨0,by omega,by simp only [go_sem,ya,yb,aH,aR hv.pu,aW _ hv.pu]<;>rfl⟩
  simp only [go_sem,ya,yb,aH,t2,t3,g1,g0,cp,bP,di,dj,ye];rfl
 ·rintro k st ⟨i,hk,rfl⟩;by_cases hi:i<l.length
  ·left
   have e1:=hv.bz (i:=i+1) (by rw [hlen];omega);rw [uV,vm] at e1;have kx:=kl _ (xg s (wN hi));have e2:=aE6 h bD qh (k1 i) kx hK;have e3:=aE7 h bD qj (k2 i) kx hK;rw [<-afT,<-xH hi] at e2;rw [<-afU,<-xH hi] at e3;have s0:∀(hp:Hp) (ct:Nat) (a b c:AV) (_:∃t,c= .str t),True:=fun _ _ _ _ _ _=>trivial
   have Dg:∀(hp:Hp) (ct id:Nat) (t:List Nat) (a b:List Nat),gC hp ct id 0 1 [.str t] (some (.cells true true true 2 [.str a,.str b]))=some (.af [],bf hp id (.cells true true true 2 [.str t,.str b]),ct):=fun hp ct id t a b=>by
    rw [rq (by rfl) (by simp) (by rfl)];rfl
   have st1:∀(hp:Hp) (ct id:Nat) (t:List Nat) (a b:List Nat),gC hp ct id 1 1 [.str t] (some (.cells true true true 2 [.str a,.str b]))=some (.af [],bf hp id (.cells true true true 2 [.str a,.str t]),ct):=fun hp ct id t a b=>by
    rw [rq (by rfl) (by simp) (by rfl)];rfl
   unfold ai at e2 e3;simp only [go_sem,ya,Lf,hv.len,hlen,show ((i+1:Nat):Int)<((l.length+1:Nat):Int) by omega,aP,yd,bj,ye,DO (show (0:Int)<=((i+1:Nat):Int) by omega),xC,e1,e2,e3,Dg,st1];refine ⟨_,k-1,rfl,by omega,i+1,by omega,?_⟩;rw [wrap64 (by omega) (by omega)];simp only [go_sem,ya,yb,aH,aR hv.pu,aW _ hv.pu]<;>rfl
  ·right
   simp only [go_sem,ya,Lf,hv.len,hlen,show ¬((i+1:Nat):Int)<((l.length+1:Nat):Int) by omega];rw [yK (by omega)];exact ⟨_,_,rfl,by simp,_,_,_,rfl,rfl,by simp only [go_sem,ya],by simp only [go_sem,ya],by simp only [go_sem],by simp only [go_sem,ya]⟩
def C1 (h:Rp P L) (eE:Has P L 261 nJ) (bD:Has P L 315 fU) (eQ:Has P L 419 mL) {a b:List Nat} (la:a.length<=1000000000) (lb:b.length<=1000000000):ai P L 419 [bF a b] (ab (cB a b)):=by
 have e1:=aC1 h.toRm eE (rh true [a,b]) (by simp) (fun t ht=>by simp at ht;rcases ht with rfl | rfl<;>assumption)
 simp only [yx,yJ,yd,yb,xi,wH] at e1;unfold cB bF;unfold ai at e1 ⊢;rw [ax eQ];by_cases h0:cX [bE a,bE b]=0
 ·obtain ⟨c1,c2⟩:=nt.1 h0;have e2:=lV h bD (jx c1 (yA 2400)) (jx c2 (yA 2400)) (by decide);rw [<-(dZ c1).1,<-(dZ c2).1] at e2;unfold ai at e2;rw [h0] at e1 ⊢;by_cases hb:ae b<ae a
  ·simp only [go_sem,ya,yb,yr,yi,yj,mL,az,aP,yd,bj,ye,e1,e2,sn,hb,ym,ne_eq,um,y9,xm]
  ·simp only [go_sem,ya,yb,yr,yi,yj,mL,az,aP,yd,bj,ye,e1,e2,sn,hb,ym,yk,ne_eq,um,y9]
 ·rw [yz h0];simp only [go_sem,ya,yb,yr,yi,yj,mL,az,aP,yd,bj,ye,e1,h0,yk]
def Ic (h:Rp P L) (bD:Has P L 315 fU) (iP:Has P L 424 sK) {a b x:Rat} {K:Nat} (ka:Hq K a) (kb:Hq K b) (kx:Hq K x) (hK:K<=1000000000):ai P L 424 [cF a b,.str (RT x)] (.bool (jS a b x)):=by
 have e1:=lV h bD ka kx (by omega);have e2:=lV h bD kx kb (by omega);unfold jS;unfold ai at e1 e2 ⊢;rw [ax iP];by_cases h1:a<=x
 ·simp only [go_sem,ya,yb,sK,az,aP,yd,bj,ye,e1,e2,ri,h1,ym,xV]
 ·simp only [go_sem,ya,yb,sK,az,aP,yd,ye,e1,ri,h1,yk,wg]
end
end
section
open Go (IntKind)
section
variable {P:aJ} {L:Lib} {a b c d:Rat} {K:Nat}
def MU (h:Rp P L) (E7:Has P L 442 QH) (ka:Hq K a) (kb:Hq K b) (kc:Hq K c) (kd:Hq K d) (hK:K<=1000000000):ai P L 442 [cF a b,cF c d] (cF (a+c) (b+d)):=by
 have e1:=rC h ka kc (by omega);have e2:=rC h kb kd (by omega);unfold ai at e1 e2 ⊢;rw [ax E7];simp only [go_sem,ya,yb,yi,QH,az,aP,yd,bj,ye,e1,e2,bP];rfl
def abV (h:Rp P L) (MV:Has P L 443 QI) (ka:Hq K a) (kb:Hq K b) (kc:Hq K c) (kd:Hq K d) (hK:K<=1000000000):ai P L 443 [cF a b,cF c d] (cF (a-d) (b-c)):=by
 have e1:=Cw h ka kd (by omega);have e2:=Cw h kb kc (by omega);unfold ai at e1 e2 ⊢;rw [ax MV];simp only [go_sem,ya,yb,yi,QI,az,aP,yd,bj,ye,e1,e2,bP];rfl
def abW (h:Rn P L) (bD:Has P L 315 fU) (sT:Has P L 447 HB) (qh:Has P L 448 CK) (qj:Has P L 449 CL) (MW:Has P L 444 QJ) (ka:Hq K a) (kb:Hq K b) (kc:Hq K c) (kd:Hq K d) (hK:K<=400000000):
  ai P L 444 [cF a b,cF c d] (cF (dl (a*c) (bU (·*·) a b c d)) (dA (a*c) (bU (·*·) a b c d))):=by
 have e1:=gL h ka kc (by omega);have e2:=gL h ka kd (by omega);have e3:=gL h kb kc (by omega);have e4:=gL h kb kd (by omega);have m:=fun {x y:Rat} (h1:Hq K x) (h2:Hq K y)=>(h1.mul h2).mono (show K+K<=2*K by omega)
 have e5:=an5 h.toRp bD sT qh qj (rh true ((a*c::bU (·*·) a b c d).map RT)) (by simp [bU]) (K:=2*K) (fun x hx=>by
  simp only [bU,wb,wX,vt] at hx
  rcases hx with rfl | rfl | rfl | rfl<;>apply m<;>assumption) (by omega)
 simp only [bU,xi,wH,yx,yJ,yd,yb] at e5;simp only [bU];generalize dl (a*c) [a*d,b*c,b*d]=A1 at*
 generalize dA (a*c) [a*d,b*c,b*d]=A2 at*
 unfold ai at e1 e2 e3 e4 e5 ⊢;rw [ax MW];simp only [go_sem,ya,yb,yr,yi,yj,QJ,az,aP,yd,bj,ye,e1,e2,e3,e4,e5,bP];rfl
def aE8 (h:Rx P L) (bD:Has P L 315 fU) (sT:Has P L 447 HB) (qh:Has P L 448 CK) (qj:Has P L 449 CL) (abX:Has P L 445 QK) (ka:Hq K a) (kb:Hq K b) (kc:Hq K c) (kd:Hq K d) (hc:c≠0) (hd:d≠0) (hK:K<=400000000)
  (m:∀x,x∈a/c::bU (·/·) a b c d->Hq (2*K) x):
  ai P L 445 [cF a b,cF c d] (cF (dl (a/c) (bU (·/·) a b c d)) (dA (a/c) (bU (·/·) a b c d))):=by
 have e1:=P4 h ka kc (by omega) hc;have e2:=P4 h ka kd (by omega) hd;have e3:=P4 h kb kc (by omega) hc;have e4:=P4 h kb kd (by omega) hd;have e5:=an5 h.toRp bD sT qh qj (rh true ((a/c::bU (·/·) a b c d).map RT)) (by simp [bU]) (K:=2*K) m (by omega);simp only [bU,xi,wH,yx,yJ,yd,yb] at e5;simp only [bU];generalize dl (a/c) [a/d,b/c,b/d]=A1 at*
 generalize dA (a/c) [a/d,b/c,b/d]=A2 at*
 unfold ai at e1 e2 e3 e4 e5 ⊢;rw [ax abX];simp only [go_sem,ya,yb,yr,yi,yj,QK,az,aP,yd,bj,ye,e1,e2,e3,e4,e5,bP];rfl
def an6 (E8:Has P L 219 Hr) (s:List Nat):ai P L 219 [.str s] (bF s s):=by
 unfold bF;unfold ai;rw [ax E8];simp only [go_sem,ya,yb,yi,Hr,az,yd,bP];rfl
end
end
section
open Go (IntKind)
noncomputable def dn (a b c d:List Nat):Int:=cX [cB a b,cB c d]
def rk {a b c d:List Nat} (h:dn a b c d=0):(bE a=0/\bE b=0/\ae a<=ae b)/\bE c=0/\bE d=0/\ae c<=ae d:=by
 obtain ⟨h1,h2⟩:=nt.1 h;exact ⟨pM h1,pM h2⟩
noncomputable def qt (f:Rat->Rat->Rat) (a b c d:List Nat):AV:=
 if dn a b c d≠0 then .af [bF [] [],ab (dn a b c d)]
 else kF (dl (f (ae a) (ae c)) (bU f (ae a) (ae b) (ae c) (ae d))) (dA (f (ae a) (ae c)) (bU f (ae a) (ae b) (ae c) (ae d)))
def Wf (f:Rat->Rat->Rat) (a b c d:List Nat):∃u v e,qt f a b c d= .af [.agg [.str u,.str v],ab e]:=by
 unfold qt
 split
 ·exact ⟨_,_,_,rfl⟩
 ·exact zW _ _
structure DD (P:aJ) (L:Lib):Prop extends Ck P L where
 FK:Has P L 88 jJ
 iN:Has P L 161 Hi
 aE9:Has P L 188 W6
 abY:Has P L 189 Hj
 an7:Has P L 191 CB
 an8:Has P L 209 Qs
 jE:Has P L 210 Hm
 Sp:Has P L 211 Qt
 iO:Has P L 214 rF
 kG:Has P L 233 EG
 lD:Has P L 234 EH
section
variable {P:aJ} {L:Lib}
def abZ (h:DD P L) {a b c d:List Nat} (la:a.length<=1000000000) (lb:b.length<=1000000000) (lc:c.length<=1000000000) (ld:d.length<=1000000000) {g:Nat} {f:Rat->Rat->Rat}
  (gn:∀v w x y K,b9 v x->b9 w y->Hq K x->Hq K y->K<=100000->Hq (2*K+2) (f x y)/\∃r,ai P L g [v,w] r/\b9 r (f x y)):
  ai P L 209 [bF a b,bF c d,.fn (.f g) [] []] (qt f a b c d):=by
 have e1:=sS h.toCk h.dW h.iN h.jE la lb;have e2:=sS h.toCk h.dW h.iN h.jE lc ld;have e3:ai P L 125 [.ap true 2 [ab (cB a b),ab (cB c d)]] (ab (dn a b c d)):=Nd.AN h.toCk.AO (gG true [cB a b,cB c d]) (by simp);unfold qt;by_cases h0:dn a b c d=0
 ·rw [yp (by simp [h0])];obtain ⟨⟨c1,c2,_⟩,c3,c4,_⟩:=rk h0;have e4:=an4 h.toCk h.dW h.FK h.Sp h.iO h.kG h.lD c1 c2 c3 c4 (g:=g) (f:=f) (K:=5000) (by decide) (fun v w x y hx hy hv hw=>by
   have k:∀{t:List Nat},bE t=0->Hq 2400 (ae t):=fun c=>jx c (yA 2400)
   have kx:Hq 2400 x:=by rcases hx with rfl | rfl;exact k c1;exact k c2
   have ky:Hq 2400 y:=by rcases hy with rfl | rfl;exact k c3;exact k c4
   obtain ⟨q1,q2⟩:=gn v w x y 2400 hv hw kx ky (by decide)
   exact ⟨q1.mono (by decide),q2⟩)
  obtain ⟨u,v,e,hu⟩:=zW (dl (f (ae a) (ae c)) (bU f (ae a) (ae b) (ae c) (ae d))) (dA (f (ae a) (ae c)) (bU f (ae a) (ae b) (ae c) (ae d)));rw [hu] at e4 ⊢;rw [h0] at e3;unfold bF at*
  unfold ai at*;rw [ax h.an8];simp only [go_sem,ya,yb,yr,yi,yj,Qs,az,ye,cp,aU,e1,e2,e3,e4,lP,bP];rfl
 ·rw [yz h0];unfold bF at*
  unfold ai at*;rw [ax h.an8];simp only [go_sem,ya,yb,yr,yi,yj,Qs,az,ye,cp,aU,e1,e2,e3,h0,yk,yH,bP];rfl
def aC5 (h:Fr' P L):∀v w x y K,b9 v x->b9 w y->Hq K x->Hq K y->K<=100000->Hq (2*K+2) (x+y)/\∃r,ai P L 74 [v,w] r/\b9 r (x+y):=fun v w x y K hv hw kx ky hK=>⟨(kx.add ky).mono (by omega),Tp h hv hw kx ky (by omega)⟩
def aC6 (h:Fr' P L):∀v w x y K,b9 v x->b9 w y->Hq K x->Hq K y->K<=100000->Hq (2*K+2) (x-y)/\∃r,ai P L 50 [v,w] r/\b9 r (x-y):=fun v w x y K hv hw kx ky hK=>⟨(kx.sub ky).mono (by omega),m50 h hv hw kx ky (by omega)⟩
def aC7 (h:Fr' P L):∀v w x y K,b9 v x->b9 w y->Hq K x->Hq K y->K<=100000->Hq (2*K+2) (x*y)/\∃r,ai P L 49 [v,w] r/\b9 r (x*y):=fun v w x y K hv hw kx ky hK=>⟨(kx.mul ky).mono (by omega),Bv h hv hw kx ky (by omega)⟩
section
variable (h:DD P L) {a b c d:List Nat} (la:a.length<=1000000000) (lb:b.length<=1000000000) (lc:c.length<=1000000000) (ld:d.length<=1000000000)
include h la lb lc ld
def an9 (MX:Has P L 438 Mc):ai P L 438 [bF a b,bF c d] (qt (·+·) a b c d):=by
 have e1:=abZ h la lb lc ld (g:=74) (f:=(·+·)) (aC5 h.toCk.toFr');obtain ⟨u,v,e,hu⟩:=Wf (·+·) a b c d;rw [hu] at e1 ⊢;unfold bF at*
 unfold ai at*;rw [ax MX];simp only [go_sem,ya,yb,Mc,az,ye,cp,aU,e1,lP,bP];rfl
def aoa (MY:Has P L 439 Me):ai P L 439 [bF a b,bF c d] (qt (· - ·) a b c d):=by
 have e1:=abZ h la lb lc ld (g:=50) (f:=(· - ·)) (aC6 h.toCk.toFr');obtain ⟨u,v,e,hu⟩:=Wf (· - ·) a b c d;rw [hu] at e1 ⊢;unfold bF at*
 unfold ai at*;rw [ax MY];simp only [go_sem,ya,yb,Me,az,ye,cp,aU,e1,lP,bP];rfl
def aob:ai P L 188 [bF a b,bF c d] (qt (·*·) a b c d):=by
 have e1:=abZ h la lb lc ld (g:=49) (f:=(·*·)) (aC7 h.toCk.toFr');obtain ⟨u,v,e,hu⟩:=Wf (·*·) a b c d;rw [hu] at e1 ⊢;unfold bF at*
 unfold ai at*;rw [ax h.aE9];simp only [go_sem,ya,yb,W6,az,ye,cp,aU,e1,lP,bP];rfl
end
noncomputable def Ie (a b c d:List Nat):AV:=
 if dn a b c d≠0 then .af [bF [] [],ab (dn a b c d)]
 else if ae c<=0/\0<=ae d then .af [bF [] [],ab 6]
 else kF (dl (ae a/ae c) (bU (·/·) (ae a) (ae b) (ae c) (ae d))) (dA (ae a/ae c) (bU (·/·) (ae a) (ae b) (ae c) (ae d)))
def D1 (q:Rat):decide (bG q.num<=0)=decide (q<=0):=by
 have h:=ri q 0
 rwa [<-zT,wE,uW,tq] at h
def KJ (q:Rat):decide (0<=bG q.num)=decide (0<=q):=by
 have h:=Pk q 0
 rwa [<-zT,wE,uW,tq] at h
end
end
section
open Go (IntKind)
def GQ (a b c d:List Nat):iH (.ag [2,2]) (bF a b) (bF c d)=some (bQ a c&&bQ b d):=by
 show dS [2,2] [.str a,.str b] [.str c,.str d]=_
 simp only [dS];cases bQ a c<;>cases bQ b d<;>rfl
def fR.mk {c1 c2 c3 c4 c5 c6 c7 c8:AV} {a b:Rat} (h1:b9 (.agg [c1,c2,c3,c4]) a) (h2:b9 (.agg [c5,c6,c7,c8]) b):fR (.agg [c1,c2,c3,c4,c5,c6,c7,c8]) a b:=by
 obtain ⟨s1,w1,s2,w2,e,n1,n2⟩:=h1;obtain ⟨s3,w3,s4,w4,e',n3,n4⟩:=h2;simp only [AV.agg.injEq,vU,wM] at e e';obtain ⟨rfl,rfl,rfl,rfl⟩:=e;obtain ⟨rfl,rfl,rfl,rfl⟩:=e';exact ⟨_,_,_,_,_,_,_,_,rfl,n1,n2,n3,n4⟩
def fR.two {v:AV} {a b:Rat} (h:fR v a b):∃c1 c2 c3 c4 c5 c6 c7 c8,v= .agg [c1,c2,c3,c4,c5,c6,c7,c8]/\b9 (.agg [c1,c2,c3,c4]) a/\b9 (.agg [c5,c6,c7,c8]) b/\F8 c1 c2 c3 c4 c5 c6 c7 c8:=by
 obtain ⟨s1,w1,s2,w2,s3,w3,s4,w4,rfl,n1,n2,n3,n4⟩:=h;obtain ⟨_,_,_,_,_,_,_,_,e,g⟩:=fR.gen ⟨s1,w1,s2,w2,s3,w3,s4,w4,rfl,n1,n2,n3,n4⟩;simp only [AV.agg.injEq,vU,wM] at e;obtain ⟨rfl,rfl,rfl,rfl,rfl,rfl,rfl,rfl⟩:=e;exact ⟨_,_,_,_,_,_,_,_,rfl,⟨s1,w1,s2,w2,rfl,n1,n2⟩,⟨s3,w3,s4,w4,rfl,n3,n4⟩,g⟩
def fH (a b c d:Rat):Rat:=dl (a*c) (bU (·*·) a b c d)
def du (a b c d:Rat):Rat:=dA (a*c) (bU (·*·) a b c d)
def KK {a b c d:Rat} {K:Nat} (ka:Hq K a) (kb:Hq K b) (kc:Hq K c) (kd:Hq K d):∀x,x∈a*c::bU (·*·) a b c d->Hq (2*K) x:=fun x hx=>by
 simp only [bU,wb,wX,vt] at hx;rcases hx with rfl | rfl | rfl | rfl
 ·exact (ka.mul kc).mono (by omega)
 ·exact (ka.mul kd).mono (by omega)
 ·exact (kb.mul kc).mono (by omega)
 ·exact (kb.mul kd).mono (by omega)
def kj {a b c d:Rat} {K:Nat} (ka:Hq K a) (kb:Hq K b) (kc:Hq K c) (kd:Hq K d):Hq (2*K) (fH a b c d):=
 zV (KK ka kb kc kd _ xy) (fun x hx=>KK ka kb kc kd x (xg _ hx))
def fZ {a b c d:Rat} {K:Nat} (ka:Hq K a) (kb:Hq K b) (kc:Hq K c) (kd:Hq K d):Hq (2*K) (du a b c d):=
 BZ (KK ka kb kc kd _ xy) (fun x hx=>KK ka kb kc kd x (xg _ hx))
section
variable {P:aJ} {L:Lib}
section
variable (h:DD P L) {a b c d:List Nat} (la:a.length<=1000000000) (lb:b.length<=1000000000) (lc:c.length<=1000000000) (ld:d.length<=1000000000)
include h la lb lc ld
def aoc:ai P L 189 [bF a b,bF c d] (Ie a b c d):=by
 have e1:=sS h.toCk h.dW h.iN h.jE la lb;have e2:=sS h.toCk h.dW h.iN h.jE lc ld;have e3:ai P L 125 [.ap true 2 [ab (cB a b),ab (cB c d)]] (ab (dn a b c d)):=Nd.AN h.toCk.AO (gG true [cB a b,cB c d]) (by simp);unfold Ie;by_cases h0:dn a b c d=0
 ·rw [yp (by simp [h0])];obtain ⟨⟨c1,c2,_⟩,c3,c4,_⟩:=rk h0;obtain ⟨v,e4,hv⟩:=qg h.toCk c3;obtain ⟨w,e5,hw⟩:=qg h.toCk c4;have e6:=H7 h.toCk.toFr' hv;have e7:=H7 h.toCk.toFr' hw;have k:∀{t:List Nat},bE t=0->Hq 2400 (ae t):=fun c=>jx c (yA 2400)
  obtain ⟨v1,v2,v3,v4,rfl,gv⟩:=hv.gen;obtain ⟨w1,w2,w3,w4,rfl,gw⟩:=hw.gen;rw [h0] at e3;by_cases hz:ae c<=0/\0<=ae d
  ·rw [yz hz];unfold bF at*
   unfold ai at*;rw [ax h.abY];simp only [go_sem,ya,yb,yr,yi,yj,Hj,az,aP,yd,bj,ye,cp,aU,e1,e2,e3,e4,bq,gv.ao,e6,D1,yD hz.1,e5,gw.ao,e7,KJ,yD hz.2,bP];rfl
  ·rw [yp hz];have e8:=an4 h.toCk h.dW h.FK h.Sp h.iO h.kG h.lD c1 c2 c3 c4 (g:=70) (f:=(·/·)) (K:=5000) (by decide) (fun v w x y hx hy hv hw=>by
    have kx:Hq 2400 x:=by rcases hx with rfl | rfl;exact k c1;exact k c2
    have ky:Hq 2400 y:=by rcases hy with rfl | rfl;exact k c3;exact k c4
    have gD:y≠0:=fun e=>hz (by
     have:=(pM (nt.1 h0).2).2.2
     rcases hy with rfl | rfl
     ·exact ⟨by rw [e];exact uv,by rw [e] at this;exact this⟩
     ·exact ⟨by rw [e] at this;exact this,by rw [e];exact uv⟩)
    exact ⟨(kx.div ky).mono (by decide),m70 h.toCk.toFr' hv hw gD kx ky (by decide)⟩)
   obtain ⟨u,x,e,hu⟩:=zW (dl (ae a/ae c) (bU (·/·) (ae a) (ae b) (ae c) (ae d))) (dA (ae a/ae c) (bU (·/·) (ae a) (ae b) (ae c) (ae d)));rw [hu] at e8 ⊢;unfold bF at*
   unfold ai at*;rw [ax h.abY];by_cases h1:ae c<=0
   ·have h2:¬0<=ae d:=fun q=>hz ⟨h1,q⟩
    simp only [go_sem,ya,yb,yr,yi,yj,Hj,az,aP,yd,bj,ye,cp,aU,e1,e2,e3,e4,bq,gv.ao,e6,D1,yD h1,e5,gw.ao,e7,KJ,yC h2,e8,lP,bP];rfl
   ·simp only [go_sem,ya,yb,yr,yi,yj,Hj,az,aP,yd,ye,cp,aU,e1,e2,e3,e4,bq,gv.ao,e6,D1,yC h1,e8,lP,bP];rfl
 ·rw [yz h0];unfold bF at*
  unfold ai at*;rw [ax h.abY];simp only [go_sem,ya,yb,yr,yi,yj,Hj,az,ye,cp,aU,e1,e2,e3,h0,yk,yH,bP];rfl
end
noncomputable def E9 (a b c d:List Nat):AV:=
 if ae b<ae c then .af [ab (-1),ab 0] else if ae d<ae a then .af [ab 1,ab 0]
 else if (bQ a c&&bQ b d)=true/\bQ a b=true then .af [ab 0,ab 0] else .af [ab 0,ab 24]
def aod (h:DD P L) {a b c d:List Nat} (la:a.length<=1000000000) (lb:b.length<=1000000000) (lc:c.length<=1000000000) (ld:d.length<=1000000000):
  ai P L 191 [bF a b,bF c d] (if dn a b c d≠0 then .af [ab 0,ab (dn a b c d)] else E9 a b c d):=by
 have e1:=sS h.toCk h.dW h.iN h.jE la lb;have e2:=sS h.toCk h.dW h.iN h.jE lc ld;have e3:ai P L 125 [.ap true 2 [ab (cB a b),ab (cB c d)]] (ab (dn a b c d)):=Nd.AN h.toCk.AO (gG true [cB a b,cB c d]) (by simp);by_cases h0:dn a b c d=0
 ·rw [yp (by simp [h0])];obtain ⟨⟨c1,c2,_⟩,c3,c4,_⟩:=rk h0;have k:∀{t:List Nat},bE t=0->Hq 2400 (ae t):=fun c=>jx c (yA 2400)
  obtain ⟨p,f1,hp⟩:=qg h.toCk c1;obtain ⟨q,f2,hq⟩:=qg h.toCk c2;obtain ⟨v,f3,hv⟩:=qg h.toCk c3;obtain ⟨w,f4,hw⟩:=qg h.toCk c4;have g1:=NP h.toCk.toFr' hq hv (k c2) (k c3) (by decide);have g2:=NP h.toCk.toFr' hp hw (k c1) (k c4) (by decide);obtain ⟨p1,p2,p3,p4,rfl,gp⟩:=hp.gen;obtain ⟨q1,q2,q3,q4,rfl,gq⟩:=hq.gen;obtain ⟨v1,v2,v3,v4,rfl,gv⟩:=hv.gen;obtain ⟨w1,w2,w3,w4,rfl,gw⟩:=hw.gen;rw [h0] at e3;have kO:=GQ a b c d;unfold E9;unfold bF at*
  unfold ai at*;rw [ax h.an7];by_cases h1:ae b<ae c
  ·rw [yz h1];simp only [go_sem,ya,yb,yr,yi,yj,CB,az,aP,yd,bj,ye,cp,aU,e1,e2,e3,f2,f3,bq,gq.ao,gv.ao,g1,kX,yD h1];rfl
  ·rw [yp h1];by_cases h2:ae d<ae a
   ·rw [yz h2];simp only [go_sem,ya,yb,yr,yi,yj,CB,az,aP,yd,bj,ye,cp,aU,e1,e2,e3,f2,f3,bq,gq.ao,gv.ao,g1,kX,yC h1,f1,f4,gp.ao,gw.ao,g2,sn,yD h2];rfl
   ·rw [yp h2]
    cases h3:(bQ a c&&bQ b d) with
    | false=>
     rw [h3] at kO;rw [yp (by simp)];simp only [go_sem,ya,yb,yr,yi,yj,CB,az,aP,yd,bj,ye,cp,aU,e1,e2,e3,f2,f3,bq,gq.ao,gv.ao,g1,kX,yC h1,f1,f4,gp.ao,gw.ao,g2,sn,yC h2,kO,cY];rfl
    | true=>
     rw [h3] at kO
     cases h4:bQ a b with
     | false=>
      rw [yp (by simp)];simp only [go_sem,ya,yb,yr,yi,yj,CB,az,aP,yd,bj,ye,cp,aU,e1,e2,e3,f2,f3,bq,gq.ao,gv.ao,g1,kX,yC h1,f1,f4,gp.ao,gw.ao,g2,sn,yC h2,kO,cY,iZ,h4];rfl
     | true=>
      rw [yz (by simp)];simp only [go_sem,ya,yb,yr,yi,yj,CB,az,aP,yd,bj,ye,cp,aU,e1,e2,e3,f2,f3,bq,gq.ao,gv.ao,g1,kX,yC h1,f1,f4,gp.ao,gw.ao,g2,sn,yC h2,kO,cY,iZ,h4];rfl
 ·rw [yz h0];unfold bF at*
  unfold ai at*;rw [ax h.an7];simp only [go_sem,ya,yb,yr,yi,yj,CB,az,ye,cp,aU,e1,e2,e3,h0,yk,yH];rfl
end
end
end VE
