import Derived.Test.YtlkgmaenobiooaaGreatDoorTaz
import Derived.Test.YtlkgmaenobiooaaGreatDoorTbd
import Derived.Test.YtlkgmaenobiooaaGreatDoorTba
import Derived.Test.YtlkgmaenobiooaaGreatDoorTat
import Derived.Test.YtlkgmaenobiooaaGreatDoorTav
import Derived.Test.YtlkgmaenobiooaaGreatDoorTaq
import Derived.Test.YtlkgmaenobiooaaGreatDoorTau
set_option linter.all false
set_option maxRecDepth 100000
open Bool renaming not_false→yH,not_true→yI
open List renaming drop_zero→ye,foldl→ybZ,length_cons→yx,length_nil→yJ,map_cons→xi,map_nil→wH,mem_cons→wb,mem_cons_of_mem→xg,mem_cons_self→xy,not_mem_nil→wX
open Nat renaming le_refl→yA,le_trans→yS,mul_one→yj,reduceAdd→yb,reduceEqDiff→ya,reduceLT→yr,reduceLeDiff→yi,zero_add→yd
open Rat renaming add_zero→tq,neg_zero→uW,sub_eq_add_neg→wE
namespace VE
section
open Go (IntKind)
structure KM (P:aJ) (L:Lib):Prop where
 b:DD P L
 r:Rx P L
 t:Rrt P L
 s:FP P L
 Ss:Has P L 190 LW
 Fh:Has P L 192 ED
 Ff:Has P L 206 Au
 kH:Has P L 212 Hn
 AS:Has P L 213 CC
 Fg:Has P L 215 Ho
 C2:Has P L 216 EE
 nN:Has P L 221 EF
 AW:Has P L 235 CD
 AU:Has P L 236 EI
 nO:Has P L 237 Av
 eE:Has P L 261 nJ
 jh:Has P L 316 Az
 Sy:Has P L 393 L9
 kI:Has P L 395 CI
 aoq:Has P L 400 Hy
 qu:Has P L 401 Hz
 M5:Has P L 415 Xa
 eQ:Has P L 419 mL
 aor:Has P L 434 nK
 aos:Has P L 435 Mb
 MX:Has P L 438 Mc
 MY:Has P L 439 Me
 C4:Has P L 440 HA
 ab8:Has P L 441 EP
 abX:Has P L 445 QK
 sD:ai P L 179 [] (.bool true)
def axN {a b c d:Rat} (h1:a<=b) (h2:c<=d):dl (a+c) (bU (·+·) a b c d)=a+c/\dA (a+c) (bU (·+·) a b c d)=b+d:=by
 simp only [dl,dA,bU,ybZ];constructor<;>grind
def axO {a b c d:Rat} (h1:a<=b) (h2:c<=d):dl (a-c) (bU (· - ·) a b c d)=a-d/\dA (a-c) (bU (· - ·) a b c d)=b-c:=by
 simp only [dl,dA,bU,ybZ];constructor<;>grind
section
variable {P:aJ} {L:Lib}
def aot (h:Has P L 435 Mb) (b:Bool) (n:Int):ai P L 435 [.bool b,ab n] (ab (if b=true then n else 0)):=by
 unfold ai;rw [ax h];cases b
 ·simp only [go_sem,ya,Mb,Bool.false_eq_true,y9]
 ·simp only [go_sem,ya,Mb,xm]
def aou (h:Has P L 400 Hy) (k:Int):ai P L 400 [ab k] (ab (if k<1\/12<k then 3 else 0)):=by
 unfold ai;rw [ax h];by_cases h1:k<1
 ·rw [yz (.inl h1)];simp only [go_sem,ya,Hy,h1,ym]
 ·by_cases h2:12<k
  ·rw [yz (.inr h2)];simp only [go_sem,ya,Hy,h1,h2,ym,yk]
  ·rw [yp (by omega)];simp only [go_sem,ya,Hy,h1,h2,yk]
def Vp (C4:Has P L 440 HA) {bad:Int} (h0:bad≠0) (w:Int):ai P L 440 [ab 0,ab bad,ab bad,ab w] (.bool true):=by
 unfold ai;rw [ax C4];simp only [go_sem,ya,HA,h0,yk,yH,ym]
def aFv (C4:Has P L 440 HA) (o:Int):ai P L 440 [ab o,ab 0,ab 0,ab o] (.bool true):=by
 unfold ai;rw [ax C4];simp only [go_sem,ya,HA,ym,yI]
def avK {a b c d:List Nat} (ca:bE a=0) (cb:bE b=0) (cc:bE c=0) (cd:bE d=0):E9 a b c d=TL (ae a) (ae b) (ae c) (ae d)/\∃o e,E9 a b c d= .af [ab o,ab e]/\(e=0\/e≠0/\o=0):=by
 unfold E9 TL;rw [<-(dZ ca).1,<-(dZ cb).1,<-(dZ cc).1,<-(dZ cd).1];by_cases h1:ae b<ae c
 ·rw [yz h1,yz h1];exact ⟨rfl,_,_,rfl,.inl rfl⟩
 ·rw [yp h1,yp h1];by_cases h2:ae d<ae a
  ·rw [yz h2,yz h2];exact ⟨rfl,_,_,rfl,.inl rfl⟩
  ·rw [yp h2,yp h2];by_cases h3:(bQ a c&&bQ b d)=true/\bQ a b=true
   ·rw [yz h3,yz (by rw [h3.1,h3.2];rfl)]
    exact ⟨rfl,_,_,rfl,.inl rfl⟩
   ·rw [yp h3,yp (fun q=>h3 (by rw [Bool.and_eq_true] at q;exact ⟨q.2,q.1⟩))]
    exact ⟨rfl,_,_,rfl,.inr ⟨by decide,rfl⟩⟩
def axP (h:KM P L) {a b c d:List Nat} {k:Int} (ln:pT [a,b,c,d]=false) (ls:∀s,s∈[a,b,c,d]->s.length<9223372036854775808):
  ∃tm hp ct,D P L (rI 5 nK.body) ⟨[(0,.agg [.str a,.str b]),(1,.agg [.str c,.str d]),(2,ab k)],[],0,0⟩=some (.normal,⟨tm,hp,ct,0⟩)/\
   ak tm 3= .ptr 0 0/\ak tm 4= .ptr 1 0/\(ct=4\/ct=5)/\aF hp 0=some (.cells true true true 2 [.str a,.str b])/\aF hp 1=some (.cells true true true 2 [.str c,.str d]):=by
 have ea:=h.sD;have ew:=ab9 h.Sy (rh true [a,b,c,d]) (by simp) ls;simp only [yx,yJ,yd,yb,xi,wH] at ew;rw [ln] at ew;have la:a.length<=1000000000:=yS (Vn ln a (by simp)) (by decide);have e1:=aom h.b.toCk h.Fh h.Ff h.b.iO h.Fg h.C2 h.AW h.AU h.nO (k:=k) la;have e2:=abS h.r.toRm (s:=a) (by omega);unfold FR at e1;by_cases h0:im a k=0
 ·obtain ⟨c0,p0,k0,k1⟩:=agT h0;obtain ⟨m,rfl⟩:∃m:Nat,k=m:=⟨k.toNat,by omega⟩;rw [yp (by simp [h0]),Int.toNat_natCast] at e1;have ka:=jx c0 (yA 2400);have e3:=Cv h.r.toRm ka (by decide);have e4:=aot h.aos (decide (ae a<0)) 3;have e5:=aou h.aoq (m:Int);have e6:ai P L 415 [.ap true 2 [ab (if ae a<0 then 3 else 0),ab (if (m:Int)<1\/12<(m:Int) then 3 else 0)]] (ab (im a m)):=by
   unfold im;rw [yp (show ¬bE a≠0 by simp [c0])]
   exact Tc (n:=415) (h:=(show Has P L 415 Di from h.M5)) (gG true [if ae a<0 then 3 else 0,if (m:Int)<1\/12<(m:Int) then 3 else 0]) (by simp)
  simp only [xt] at e4;have d0:decide (bG (ae a).num<0)=decide (ae a<0):=by
   have h:=kX (ae a) 0
   rwa [<-zT,wE,uW,tq] at h
  have e7:=aFq h.t p0 ka (k:=m) (by decide) (by omega);have kk:Hq 5000 (kJ (ae a) m)/\Hq 5000 (kK (ae a) m):=by
   have kf:=PI (k:=m) p0 ka;have kt:=Ej m;have kN:Hq (2400+(8*m+2)) (rN (dt (ae a) m)):=ji (Nat.lt_of_le_of_lt (rX _) kf) (by omega);have N1:Hq (2400+(8*m+2)+1+1) (rN (dt (ae a) m+1)):=by rw [<-GR];exact kN.add (ji (a:=1) (K:=1) (by decide) (by decide))
   unfold kJ kK
   cases hx:kV (ae a) with
   | true=>exact ⟨by rw [yz rfl];exact (Lp p0 ka hx).mono (by decide),by rw [yz rfl];exact (Lp p0 ka hx).mono (by decide)⟩
   | false=>exact ⟨by rw [yp (by simp)];exact (kN.div kt).mono (by omega),by rw [yp (by simp)];exact (N1.div kt).mono (by omega)⟩
  obtain ⟨u,v,e,f1,y1⟩:=DT h.r.toRl h.jh h.qu h.kI kk.1 kk.2 (by decide);rw [f1] at e1;rw [<-(dZ c0).1] at e3 e7;rw [h0] at e6;rw [c0] at e2;unfold ai at ea ew e1 e2 e3 e4 e5 e6 e7 y1;refine ⟨_,_,_,(by simp only [go_sem,ya,yb,yr,yi,yj,nK,rI,bC,aD,az,aP,yd,bj,ye,cp,aU,ea,yI,ew,e1,e2,e3,d0,e4,e5,e6,e7,y1,ym,bP]<;>rfl),by simp only [go_sem,ya],by simp only [go_sem,ya],.inr rfl,by simp only [go_sem,ya],by simp only [go_sem,ya]⟩
 ·rw [yz h0] at e1;have y1:=Kv h.kI h0 a b;unfold bF at e1 y1;by_cases c0:bE a=0
  ·have ka:=jx c0 (yA 2400);have e3:=Cv h.r.toRm ka (by decide);have e4:=aot h.aos (decide (ae a<0)) 3;have e5:=aou h.aoq k;have e6:ai P L 415 [.ap true 2 [ab (if ae a<0 then 3 else 0),ab (if k<1\/12<k then 3 else 0)]] (ab (im a k)):=by
    unfold im;rw [yp (show ¬bE a≠0 by simp [c0])]
    exact Tc (n:=415) (h:=(show Has P L 415 Di from h.M5)) (gG true [if ae a<0 then 3 else 0,if k<1\/12<k then 3 else 0]) (by simp)
   simp only [xt] at e4;have d0:decide (bG (ae a).num<0)=decide (ae a<0):=by
    have h:=kX (ae a) 0
    rwa [<-zT,wE,uW,tq] at h
   rw [<-(dZ c0).1] at e3;rw [c0] at e2;unfold ai at ea ew e1 e2 e3 e4 e5 e6 y1;refine ⟨_,_,_,(by simp only [go_sem,ya,yb,yr,yi,yj,nK,rI,bC,aD,az,aP,yd,bj,ye,cp,aU,ea,yI,ew,e1,e2,e3,d0,e4,e5,e6,y1,h0,ym,yk,yH,bP]<;>rfl),by simp only [go_sem,ya],by simp only [go_sem,ya],.inr rfl,by simp only [go_sem,ya],by simp only [go_sem,ya]⟩
  ·have hE:im a k=bE a:=by unfold im;rw [yz c0]
   rw [hE] at e1 y1;unfold ai at ea ew e1 e2 y1;refine ⟨_,_,_,(by simp only [go_sem,ya,yb,yr,yi,yj,nK,rI,bC,aD,az,aP,yd,bj,ye,cp,aU,ea,yI,ew,e1,e2,y1,c0,yk,yH,bP]<;>rfl),by simp only [go_sem,ya],by simp only [go_sem,ya],.inl rfl,by simp only [go_sem,ya],by simp only [go_sem,ya]⟩
end
end
section
open Go (IntKind)
section
variable {P:aJ} {L:Lib}
def axQ (h:KM P L) {a b c d:List Nat} (la:a.length<=1000000000) (lb:b.length<=1000000000) (lc:c.length<=1000000000) (ld:d.length<=1000000000) {tm:Env} {hp:Hp} {ct:Nat} (t3:ak tm 3= .ptr 0 0) (t4:ak tm 4= .ptr 1 0) (eh:ct=4\/ct=5) (h0:aF hp 0=some (.cells true true true 2 [.str a,.str b])) (h1:aF hp 1=some (.cells true true true 2 [.str c,.str d])):
  fV [.t 6] (D P L (Cu 5 nK.body) ⟨tm,hp,ct,0⟩)=some (.bool true):=by
 have e1:=aFa h.b h.kH h.AS h.nN h.Ss la lb;have e2:=C1 h.r.toRp h.eE h.t.bD h.eQ la lb;have e3:=sS h.b.toCk h.b.dW h.b.iN h.b.jE la lb;have o1:=an9 h.b la lb lc ld h.MX;have o2:=aoa h.b la lb lc ld h.MY;have o3:=aob h.b la lb lc ld;have o4:=aod h.b la lb lc ld;have o5:=aoc h.b la lb lc ld;have e4:=C1 h.r.toRp h.eE h.t.bD h.eQ lc ld;have e5:ai P L 415 [.ap true 2 [ab (cB a b),ab (cB c d)]] (ab (dn a b c d)):=Tc (n:=415) (h:=(show Has P L 415 Di from h.M5)) (gG true [cB a b,cB c d]) (by simp);have k:∀{t:List Nat},bE t=0->Hq 2400 (ae t):=fun c=>jx c (yA 2400)
 by_cases n1:cB a b=0
 ·obtain ⟨ca,cb,iV⟩:=pM n1;have ka:=k ca;have kb:=k cb;have hT:cF (ae a) (ae b)= .agg [.str a,.str b]:=by show AV.agg [.str (RT (ae a)),.str (RT (ae b))]=_;rw [<-(dZ ca).1,<-(dZ cb).1]
  obtain ⟨u1,v1,x1,f1,y1⟩:=DT h.r.toRl h.jh h.qu h.kI (BT ka kb) ((fZ ka kb ka kb).mono (show 2*2400<=2*2400+2 by decide)) (by decide);have e6:=ab2 h.s ka kb (by decide) (by decide);rw [hT,<-OW iV] at e6;change ai P L 437 [_] (cF (gM (ae a) (ae b)) (du (ae a) (ae b) (ae a) (ae b))) at e6
  unfold Sr at e1;rw [yp (show ¬cB a b≠0 by simp [n1]),f1] at e1;generalize gM (ae a) (ae b)=S1 at*
  generalize du (ae a) (ae b) (ae a) (ae b)=S2 at*
  rw [n1] at e2 e3;by_cases n2:dn a b c d=0
  ·have n3:cB c d=0:=(nt.1 n2).2;obtain ⟨cc,cd,JS⟩:=pM n3;have kc:=k cc;have kd:=k cd;have qJ:cF (ae c) (ae d)= .agg [.str c,.str d]:=by show AV.agg [.str (RT (ae c)),.str (RT (ae d))]=_;rw [<-(dZ cc).1,<-(dZ cd).1]
   rw [n3] at e4;rw [n2,n1,n3] at e5;unfold qt at o1 o2 o3;unfold Ie at o5;have n2':¬dn a b c d≠0:=by simp [n2]
   rw [yp n2'] at o1 o2 o3 o4 o5;obtain ⟨l1,l2⟩:=axN iV JS;obtain ⟨l3,l4⟩:=axO iV JS;rw [l1,l2] at o1;rw [l3,l4] at o2;obtain ⟨u2,v2,x2,f2,y2⟩:=DT h.r.toRl h.jh h.qu h.kI (ka.add kc) (kb.add kd) (by decide);obtain ⟨u3,v3,x3,f3,y3⟩:=DT h.r.toRl h.jh h.qu h.kI (ka.sub kd) (kb.sub kc) (by decide);obtain ⟨u4,v4,x4,f4,y4⟩:=DT h.r.toRl h.jh h.qu h.kI (kj ka kb kc kd) (fZ ka kb kc kd) (by decide);change kF (dl (ae a*ae c) (bU (·*·) (ae a) (ae b) (ae c) (ae d))) (dA (ae a*ae c) (bU (·*·) (ae a) (ae b) (ae c) (ae d)))=_ at f4
   rw [f2] at o1;rw [f3] at o2;rw [f4] at o3;have z1:=MU h.r.toRp h.s.E7 ka kb kc kd (by decide);have z2:=abV h.r.toRp h.s.MV ka kb kc kd (by decide);have z3:=abW h.r.toRn h.t.bD h.s.sT h.s.qh h.s.qj h.s.MW ka kb kc kd (by decide);change ai P L 444 [_,_] (cF (fH (ae a) (ae b) (ae c) (ae d)) (du (ae a) (ae b) (ae c) (ae d))) at z3
   have z4:=aFg h.r.toRp h.t.bD h.ab8 ka kb kc kd (by decide);have z5:=Ic h.r.toRp h.t.bD h.s.iP kc kd (x:=0) ((H0 0).mono (by decide)) (by decide);rw [Ib] at z5;obtain ⟨hcm,o,e,hc,TN⟩:=avK ca cb cc cd;rw [<-hcm,hc] at z4;rw [hc] at o4;have y5:ai P L 440 [ab o,ab e,ab e,ab o] (.bool true):=by
    rcases TN with rfl | ⟨he,rfl⟩
    ·exact aFv h.C4 o
    ·exact Vp h.C4 he 0
   by_cases hz:ae c<=0/\0<=ae d
   ·rw [yz hz] at o5;rw [show jS (ae c) (ae d) 0=true by unfold jS;rw [yD hz.1,yD hz.2];rfl] at z5
    have y6:=Kv h.kI (bad:=6) (by decide) a b;rw [qJ] at z5;rw [hT,qJ] at z1 z2 z3 z4;generalize ae a+ae c=B1 at*
    generalize ae b+ae d=B2 at*
    generalize ae a-ae d=B3 at*
    generalize ae b-ae c=B4 at*
    generalize fH (ae a) (ae b) (ae c) (ae d)=B5 at*
    generalize du (ae a) (ae b) (ae c) (ae d)=B6 at*
    unfold bF at*
    unfold ai at e1 e2 e3 e4 e5 e6 o1 o2 o3 o4 o5 y1 y2 y3 y4 y5 y6 z1 z2 z3 z4 z5;rcases eh with rfl | rfl
    all_goals simp only [go_sem,ya,yb,yr,yi,yj,nK,Cu,aD,t3,t4,h0,h1,az,yd,ye,cp,aU,e1,e2,e3,e4,e5,e6,o1,o2,o3,o4,o5,y1,y2,y3,y4,y5,y6,z1,z2,z3,z4,z5,yI,bP,ym]
   ·rw [yp hz] at o5;rw [show jS (ae c) (ae d) 0=false by unfold jS;rw [<-Bool.decide_and];exact yC hz] at z5
    have c0:ae c≠0:=fun e=>hz ⟨by grind,by grind⟩
    have d0:ae d≠0:=fun e=>hz ⟨by grind,by grind⟩
    have km:∀x,x∈ae a/ae c::bU (·/·) (ae a) (ae b) (ae c) (ae d)->Hq (2*2400) x:=fun x hx=>by
     simp only [bU,wb,wX,vt] at hx;rcases hx with rfl | rfl | rfl | rfl
     ·exact (ka.div kc).mono (by decide)
     ·exact (ka.div kd).mono (by decide)
     ·exact (kb.div kc).mono (by decide)
     ·exact (kb.div kd).mono (by decide)
    have z6:=aE8 h.r h.t.bD h.s.sT h.s.qh h.s.qj h.abX ka kb kc kd c0 d0 (by decide) km;obtain ⟨u6,v6,x6,f6,y6⟩:=DT h.r.toRl h.jh h.qu h.kI (zV (km _ xy) (fun x hx=>km x (xg _ hx))) (BZ (km _ xy) (fun x hx=>km x (xg _ hx))) (by decide);rw [f6] at o5;rw [qJ] at z5;rw [hT,qJ] at z1 z2 z3 z4 z6;generalize ae a+ae c=B1 at*
    generalize ae b+ae d=B2 at*
    generalize ae a-ae d=B3 at*
    generalize ae b-ae c=B4 at*
    generalize fH (ae a) (ae b) (ae c) (ae d)=B5 at*
    generalize du (ae a) (ae b) (ae c) (ae d)=B6 at*
    generalize dl (ae a/ae c) (bU (·/·) (ae a) (ae b) (ae c) (ae d))=B7 at*
    generalize dA (ae a/ae c) (bU (·/·) (ae a) (ae b) (ae c) (ae d))=B8 at*
    unfold bF at*
    unfold ai at e1 e2 e3 e4 e5 e6 o1 o2 o3 o4 o5 y1 y2 y3 y4 y5 y6 z1 z2 z3 z4 z5 z6;rcases eh with rfl | rfl
    all_goals simp only [go_sem,ya,yb,yr,yi,yj,nK,Cu,aD,t3,t4,h0,h1,az,yd,ye,cp,aU,e1,e2,e3,e4,e5,e6,o1,o2,o3,o4,o5,y1,y2,y3,y4,y5,y6,z1,z2,z3,z4,z5,z6,yI,bP,ym]
  ·unfold qt at o1 o2 o3;unfold Ie at o5;rw [yz n2] at o1 o2 o3 o4 o5;have y2:=Kv h.kI n2 a b;have y3:=Vp h.C4 n2 0;rw [n1] at e5;unfold bF at*
   unfold ai at e1 e2 e3 e4 e5 e6 o1 o2 o3 o4 o5 y1 y2 y3;rcases eh with rfl | rfl
   all_goals simp only [go_sem,ya,yb,yr,yi,yj,nK,Cu,aD,t3,t4,h0,h1,az,yd,ye,cp,aU,e1,e2,e3,e4,e5,e6,o1,o2,o3,o4,o5,y1,y2,y3,n2,yI,yH,bP,ym,yk]
 ·have n2:dn a b c d=cB a b:=yp n1;unfold Sr at e1;unfold qt at o1 o2 o3;unfold Ie at o5;rw [n2] at o1 o2 o3 o4 o5 e5;rw [yz n1] at e1 o1 o2 o3 o4 o5;have y1:=Kv h.kI n1 a b;have y2:=Vp h.C4 n1 0;unfold bF at*
  unfold ai at e1 e2 e3 e4 e5 o1 o2 o3 o4 o5 y1 y2;rcases eh with rfl | rfl
  all_goals simp only [go_sem,ya,yb,yr,yi,yj,nK,Cu,aD,t3,t4,h0,h1,az,yd,ye,cp,aU,e1,e2,e3,e4,e5,o1,o2,o3,o4,o5,y1,y2,n1,yI,yH,bP,ym,yk]
def atw (h:KM P L) {a b c d:List Nat} {k:Int} (ls:∀s,s∈[a,b,c,d]->s.length<9223372036854775808):ai P L 434 [bF a b,bF c d,ab k] (.bool true):=by
 cases hw:pT [a,b,c,d] with
 | true=>
  have ea:=h.sD;have ew:=ab9 h.Sy (rh true [a,b,c,d]) (by simp) ls;simp only [yx,yJ,yd,yb,xi,wH] at ew;rw [hw] at ew;unfold bF;unfold ai at ea ew ⊢;rw [ax h.aor];simp only [go_sem,ya,yb,yr,yi,yj,nK,az,aP,yd,bj,ye,ea,yI,ew]
 | false=>
  obtain ⟨tm,hp,ct,eA,t3,t4,eh,h0,h1⟩:=axP (k:=k) h hw ls;have ln:∀s,s∈[a,b,c,d]->s.length<=1000000000:=fun s hs=>yS (Vn hw s hs) (by decide)
  unfold ai bF;rw [ax h.aor];show fV [.t 6] (D P L nK.body ⟨[(0,.agg [.str a,.str b]),(1,.agg [.str c,.str d]),(2,ab k)],[],0,0⟩)=_
  rw [ajQ 5 (c:=nK.body) (by refine ⟨rfl,rfl,rfl,rfl,rfl,?_⟩;show _=_;rfl),eA,fY]
  exact axQ h (ln a (by simp)) (ln b (by simp)) (ln c (by simp)) (ln d (by simp)) t3 t4 eh h0 h1
end
end
section
open Go (IntKind)
abbrev Lr:List Ty:=[Ae,Ae,.int .i64]
def arM {P:aJ} {L:Lib} (h:KM P L) {ls:List (List AV)} (hs:hJ iU Lr ls):ai P L 434 (oz Lr ls) (.bool true):=by
 obtain ⟨_,_,_,rfl,h1,h2,h3⟩:=PC hs;obtain ⟨a,b,rfl,la,lb⟩:=BN h1;obtain ⟨c,d,rfl,lc,ld⟩:=BN h2;obtain ⟨k,rfl,hk⟩:=h3;exact atw h (fun s hs=>by simp only [wb,wX,vt] at hs;rcases hs with rfl | rfl | rfl | rfl<;>assumption)
end
section
namespace J2
open Go Go.Proofs
def T:List (Tr aq):=[.n 179 [.o 7 [] (.bool true)] .l .l]
def L0:VE.Lib:=Ei VE.aE 99 BY
def L1:VE.Lib:=CO L0 T 1000
def nu:Nu VE.prog VE.aE:=by
 repeat' (first | rfl | constructor)
def lw:KM VE.prog L1:=by
 repeat' (first | rfl | constructor)
section
variable {W:World} {m:Int} (hm:W.cell? ⟨1,0,none⟩=some (.int .i64 m)) (ht:Go.Lib.TabIs Tryz.prog W "internal/strconv.uint64pow10" .u64 Go.Lib.pow10Tab)
include hm ht
def linked:ep ((J1.O W).oh L1):=by
 have hO:=J1.KF hm ht;have hs:=Kj hO nu rfl rfl rfl ⟨rfl,rfl,rfl⟩ (fn:=Tryz.f193) (c:=p8) Tryz.func193 rfl rfl trivial Ks;have hT:dB (J1.O W) T:=dB.cons (Tr.il (jg.one (ml.holds hO rfl rfl)) Tr.fD Tr.fD) dB.nil;exact Gn (Kk hO hs) hT 1000
def law {ls:List (List AV)} (hs:hJ iU Lr ls):dF (J1.O W) 434 (oz Lr ls) (.bool true):=by
 obtain ⟨k,hk⟩:=GN (arM lw hs);exact sound (linked hm ht) hk
end
end J2
end
end VE
