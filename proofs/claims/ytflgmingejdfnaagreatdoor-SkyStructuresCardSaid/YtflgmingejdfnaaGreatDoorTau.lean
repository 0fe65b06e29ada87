import Derived.Test.YtflgmingejdfnaaGreatDoorTat
import Derived.Test.YtflgmingejdfnaaGreatDoorTar
import Derived.Test.YtflgmingejdfnaaGreatDoorTap
import Derived.Test.YtflgmingejdfnaaGreatDoorTal
import Derived.Test.YtflgmingejdfnaaGreatDoorTaq
set_option linter.all false
set_option maxRecDepth 100000
open Bool renaming and_false→tZ,and_self→vR,and_true→u5,false_and→vv,not_false→xE,not_true→yQ,true_and→u6,true_eq_false→tc
open Int renaming cast_ofNat_Int→tD,natAbs_natCast→uf
open List renaming append_assoc→y7,cons_append→yH,drop_eq_getElem_cons→yT,drop_eq_nil_of_le→xr,length_cons→yx,length_drop→wv,length_nil→yZ,length_take→yN,map_append→xm,mem_cons→wm,nil_append→xu,range→yO,range_succ→uz,replicate→yu
open Nat renaming beq→yk,beq_refl→y9,ble→yy,ble_eq_true_of_le→yt,gcd→wb,le_of_ble_eq_true→yo,mul_one→yv,reduceAdd→yc,reduceEqDiff→ya,reduceLT→yV,reduceLeDiff→ym,zero_add→yp
namespace VE
section
open Go (IntKind)
def NP {P:aF} {L:Lib} (a b c d:VC) (s:St):D P L (.seq a (.seq b (.seq c d))) s=q8 P L (D P L (.seq a (.seq b c)) s) d:=by
 have e:=Il (P:=P) (L:=L) b c d;rw [mu,mu]
 cases D P L a s with
 | none=>rfl
 | some q=>
  obtain ⟨ex,st⟩:=q
  cases ex with
  | normal=>rw [ku,ku];exact e st
  | ret=>rfl
  | exit id=>rfl
def kA {a b:List Nat} (h:a≠b):dA a b=false:=by
 cases hb:dA a b with
 | false=>rfl
 | true=>exact absurd (Io hb) h
def OI:∀a:List Nat,dA a a=true
 | []=>rfl
 | x::a=>by simp [dA,OI a]
def Rv {a b:List Nat} (h:a=b):dA a b=true:=h▸OI a
def Z8 {s:List Nat} {i:Nat} (h:i<s.length):ep (s.drop i)=(yy 48 s[i]&&yy s[i] 57&&ep (s.drop (i+1))):=by
 rw [yT h];rfl
section
variable {P:aF} {L:Lib}
def akq (h:Has P L 287 B9) {s:List Nat} (hl:s.length<=1000000000000):aj P L 287 [.str s] (.bool (ep s)):=by
 have key:=dt (P:=P) (L:=L) (live:=[0,3]) (a:=qH)
  (I:=fun k st=>∃i:Nat,st=⟨[(0,.str s),(3,ab i)],[],0,0⟩/\i+k=s.length/\ep (s.drop i)=ep s)
  (Q:=fun ex st=>∃tm ct,st=⟨tm,[],ct,0⟩/\((ex= .ret/\ah tm 2= .bool false/\ep s=false)\/(ex= .exit 0/\ep s=true))) ?_
 ·unfold aj;rw [aR h];simp only [go_sem,B9];generalize hq:D P L (.loop [0,3] qH) _=q;obtain ⟨ex,st,rfl,tm,ct,rfl,h2⟩:=cW hq (key s.length) ⟨0,by simp only [go_sem,ya,aM]<;>rfl,by omega,by simp⟩
  rcases h2 with ⟨rfl,h2,h3⟩ | ⟨rfl,h3⟩
  ·simp only [go_sem,h2,h3]
  ·simp only [go_sem,aM,h3]
 ·rintro k st ⟨i,rfl,hk,hs⟩;by_cases hi:i<s.length
  ·rw [Z8 hi] at hs;by_cases h1:s[i]<48
   ·right
    have e:yy 48 s[i]=false:=by
     cases hb:yy 48 s[i] with
     | false=>rfl
     | true=>have:=yo hb;omega
    rw [e,vv,vv] at hs;simp only [go_sem,ya,qH,show (i:Int)<s.length by omega,ll hi,show ((s[i]:Nat):Int)<48 by omega,yz];exact ⟨_,_,rfl,by simp,_,_,rfl,.inl ⟨rfl,by simp only [go_sem],hs.symm⟩⟩
   ·by_cases h2:57<s[i]
    ·right
     have e:yy s[i] 57=false:=by
      cases hb:yy s[i] 57 with
      | false=>rfl
      | true=>have:=yo hb;omega
     rw [e,tZ,vv] at hs;simp only [go_sem,ya,qH,show (i:Int)<s.length by omega,ll hi,show ¬((s[i]:Nat):Int)<48 by omega,yD,show (57:Int)<((s[i]:Nat):Int) by omega];exact ⟨_,_,rfl,by simp,_,_,rfl,.inl ⟨rfl,by simp only [go_sem],hs.symm⟩⟩
    ·left
     rw [yt (show 48<=s[i] by omega),yt (show s[i]<=57 by omega),u6,u6] at hs;simp only [go_sem,ya,qH,show (i:Int)<s.length by omega,ll hi,show ¬((s[i]:Nat):Int)<48 by omega,yD,show ¬(57:Int)<((s[i]:Nat):Int) by omega];refine ⟨_,k-1,rfl,by omega,i+1,?_,by omega,hs⟩;rw [wrap64 (by omega) (by omega)];simp only [go_sem,ya,aM]<;>rfl
  ·right
   simp only [go_sem,ya,qH,show ¬(i:Int)<s.length by omega];refine ⟨_,_,rfl,by simp,_,_,rfl,.inr ⟨rfl,?_⟩⟩;rw [<-hs,xr (by omega)];rfl
def Kh (h:Has P L 273 rC) (Cr:Has P L 287 B9) {s:List Nat} (hl:s.length<=1000000000000):aj P L 273 [.str s] (.bool (eX s)):=by
 have e:=akq Cr hl;unfold aj at e ⊢;rw [aR h]
 match s,hl,e with
 | [],_,_=>
  simp only [go_sem,ya,rC,yZ,show ((0:Nat):Int)=0 from rfl,yz];rfl
 | [b],_,e=>
  have:eX [b]=ep [b]:=by simp [eX]
  rw [this];simp only [go_sem,ya,rC,yx,yZ,yp,show ¬((1:Nat):Int)=0 by decide,show ¬(1:Int)<((1:Nat):Int) by decide,yD,e]
 | b::c::r,hl,e=>
  have hd:eX (b::c::r)=(ep (b::c::r)&& !(yk b 48)):=by simp [eX]
  rw [hd];by_cases hb:b=48
  ·subst hb;simp only [go_sem,ya,rC,yx,show ¬((r.length+1+1:Nat):Int)=0 by omega,yD,show (1:Int)<((r.length+1+1:Nat):Int) by omega,show kB 0 (.str (48::c::r))=some (.int .u8 48) from rfl,yz]
   simp
  ·have:yk b 48=false:=cD hb
   rw [this,xE,u5];simp only [go_sem,ya,rC,yx,show ¬((r.length+1+1:Nat):Int)=0 by omega,yD,show (1:Int)<((r.length+1+1:Nat):Int) by omega,show kB 0 (.str (b::c::r))=some (.int .u8 (b:Nat)) from rfl,show ¬((b:Nat):Int)=48 by omega,e]
def acf {s:List Nat} {k:Nat} (h:k<=s.length):fP s (some 0) (some k)=some (.str (s.take k)):=by
 rw [jo (by omega) h,List.drop_zero]
def OJ {s:List Nat} {k:Nat} (h:k<=s.length):fP s (some k) (some s.length)=some (.str (s.drop k)):=by
 rw [jo h (Nat.le_refl _),List.take_length]
def ahb (h:Rm P L) {t:List Nat} {k:Nat} (hk:k=bV t) (hl:t.length<=1000000000) (hp:eX (t.take k)=true) {tm:Env} (t3:ah tm 3= .str t) (t4:ah tm 4=ab k):
  jS [.t 2] (D P L (bq (bq (bq (bq (bq cB.body))))) ⟨tm,[],0,0⟩)=some (ab (
   if k<t.length/\(eX (t.drop (k+1))=false\/t.drop (k+1)=[48]\/t.drop (k+1)=[49]) then 1
   else if 600<k\/600<t.length-k-1 then 4
   else if k<t.length/\wb (fF (t.take k)) (fF (t.drop (k+1)))≠1 then 1
   else 0)):=by
 have WH:k<=t.length:=by rw [hk];exact DK t
 have e3:=Kh h.Ke h.Cr (s:=t.drop (k+1)) (by rw [wv];omega);unfold aj at e3;have p5:(k:Int)+1=((k+1:Nat):Int):=rfl;by_cases hs:k<t.length
 ·have c2:=OJ (s:=t) (k:=k+1) (by omega);have jN:=LP t (by omega);rw [<-hk] at jN;have Ld:(t.drop (k+1)).length=t.length-k-1:=by rw [wv];omega
  have hlp:(t.take k).length=k:=by rw [yN];omega
  generalize hqe:t.drop (k+1)=q at*
  generalize hpe:t.take k=p at*
  cases hd:eX q with
  | false=>
   rw [yS ⟨hs,.inl rfl⟩];rw [hd] at e3
   simp only [go_sem,ya,cB,bq,t3,t4,show (k:Int)<(t.length:Int) by omega,yz,p5,wrapN (n:=k+1) (by omega),dM,ei,dH,c2,e3,xE]
  | true=>
   rw [hd] at e3;by_cases kX:q=[48]
   ·rw [yS ⟨hs,.inr (.inl kX)⟩]
    simp only [go_sem,ya,cB,bq,t3,t4,show (k:Int)<(t.length:Int) by omega,yz,p5,wrapN (n:=k+1) (by omega),dM,ei,dH,c2,e3,yQ,jJ,Rv kX]
   ·by_cases kW:q=[49]
    ·rw [yS ⟨hs,.inr (.inr kW)⟩]
     simp only [go_sem,ya,cB,bq,t3,t4,show (k:Int)<(t.length:Int) by omega,yz,p5,wrapN (n:=k+1) (by omega),dM,ei,dH,c2,e3,yQ,jJ,kA kX,Rv kW]
    ·rw [yE (by simp only [hs,true_and,tc,yaF];exact fun e=>e.elim kX kW)]
     by_cases rP:600<k
     ·rw [yS (.inl rP)]
      simp only [go_sem,ya,cB,bq,t3,t4,show (k:Int)<(t.length:Int) by omega,yz,p5,wrapN (n:=k+1) (by omega),dM,ei,dH,c2,e3,yQ,jJ,kA kX,kA kW,show (600:Int)<(k:Int) by omega]
     ·by_cases akr:600<t.length-k-1
      ·rw [yS (.inr akr)]
       simp only [go_sem,ya,cB,bq,t3,t4,show (k:Int)<(t.length:Int) by omega,yz,p5,wrapN (n:=k+1) (by omega),dM,ei,dH,c2,e3,yQ,jJ,kA kX,kA kW,show ¬(600:Int)<(k:Int) by omega,yD,show (t.length:Int)-(k:Int)=((t.length-k:Nat):Int) by omega,wrapN (n:=t.length-k) (by omega),show ((t.length-k:Nat):Int)-1=((t.length-k-1:Nat):Int) by omega,wrapN (n:=t.length-k-1) (by omega),show (600:Int)<((t.length-k-1:Nat):Int) by omega]
      ·rw [yE (by omega)];have oh:=DM _ rfl hp;have lV:=DM _ rfl hd;have se:fF q≠0:=fun e=>kX (by rw [<-lV,e];rfl)
       have lK:fF q≠1:=fun e=>kW (by rw [<-lV,e];rfl)
       generalize fF p=n at*
       generalize fF q=d at*
       have hT:TT (n:Int) d=t:=by
        unfold TT;rw [oG,yE lK,oh,lV];exact jN.symm
       obtain ⟨x,y,e4,hx,hy⟩:=UW h.toRb (n:=(n:Int)) (d:=d) (by rw [uf,oh];omega) (by rw [lV];omega);rw [hT] at e4;obtain ⟨xw,xl,rfl,dl,dx,nx,vx⟩:=hx;obtain ⟨yw,yl,rfl,dn,dy,ny,vy⟩:=hy;rw [uf] at vx vy;have CL:n<10^p.length:=by rw [<-oh];exact IL n
       have hdb:d<10^q.length:=by rw [<-lV];exact IL d
       obtain ⟨K,hK⟩:∃K:Nat,K=600:=⟨_,rfl⟩;have WI:∀{m j:Nat},m<10^j->j<=K->m<1000000000^K:=fun {m j} h1 h2=>
        Nat.lt_of_lt_of_le h1 (Nat.le_trans (Nat.pow_le_pow_right (by decide) h2) (Nat.pow_le_pow_left (by decide) K))
       have lxl:=fY dx nx (by rw [vx];exact WI CL (by omega))
       have lyl:=fY dy ny (by rw [vy];exact WI hdb (by omega))
       obtain ⟨g,lg,e5,hg,WJ,ngg,vg⟩:=S9 h.UM h.Cp h.iz h.jW h.kJ h.bZ h.lH dl dn dx dy nx ny (by omega) (by omega);rw [vx,vy] at vg;have CK:0<wb n d:=Nat.gcd_pos_of_pos_right _ (by omega);unfold aj at e4 e5;by_cases Ki:lg.length=1
       ·obtain ⟨z,rfl⟩:∃z,lg=[z]:=by
         cases lg with
         | nil=>simp at Ki
         | cons z r=>cases r with
          | nil=>exact ⟨z,rfl⟩
          | cons y r=>simp at Ki
        have gz:=ig.1 WJ;have C9:z=(wb n d:Nat):=by simp [dv] at vg;omega
        have e8:=hg.bt (i:=0) (by simp);simp only [List.getElem_cons_zero] at e8;by_cases hX:wb n d=1
        ·rw [yE (by simp [hX])]
         simp only [go_sem,ya,yc,cB,bq,t3,t4,show (k:Int)<(t.length:Int) by omega,yz,p5,wrapN (n:=k+1) (by omega),dM,ei,dH,c2,e3,yQ,jJ,kA kX,kA kW,show ¬(600:Int)<(k:Int) by omega,yD,show (t.length:Int)-(k:Int)=((t.length-k:Nat):Int) by omega,wrapN (n:=t.length-k) (by omega),show ((t.length-k:Nat):Int)-1=((t.length-k-1:Nat):Int) by omega,wrapN (n:=t.length-k-1) (by omega),show ¬(600:Int)<((t.length-k-1:Nat):Int) by omega,e4,bL,dl.pu,dl.aE,dl.one,dn.pu,dn.aE,dn.one,eL,cP,yp,fj,e5,hg.len,hg.shut,yx,yZ,show ((1:Nat):Int)=(1:Int) from rfl,yQ,e8,C9,hX]
        ·rw [yS ⟨hs,hX⟩]
         simp only [go_sem,ya,yc,cB,bq,t3,t4,show (k:Int)<(t.length:Int) by omega,yz,p5,wrapN (n:=k+1) (by omega),dM,ei,dH,c2,e3,yQ,jJ,kA kX,kA kW,show ¬(600:Int)<(k:Int) by omega,yD,show (t.length:Int)-(k:Int)=((t.length-k:Nat):Int) by omega,wrapN (n:=t.length-k) (by omega),show ((t.length-k:Nat):Int)-1=((t.length-k-1:Nat):Int) by omega,wrapN (n:=t.length-k-1) (by omega),show ¬(600:Int)<((t.length-k-1:Nat):Int) by omega,e4,bL,dl.pu,dl.aE,dl.one,dn.pu,dn.aE,dn.one,eL,cP,yp,fj,e5,hg.len,hg.shut,yx,yZ,show ((1:Nat):Int)=(1:Int) from rfl,yQ,e8,C9,show ¬((wb n d:Nat):Int)=1 by omega,xE]
       ·have hX:wb n d≠1:=fun e=>Ki (by
         have h1:lg.length<=1:=PC WJ ngg (by omega);have h2:0<lg.length:=by
          rcases Nat.eq_zero_or_pos lg.length with h0 | h0
          ·rw [List.eq_nil_of_length_eq_zero h0] at vg;simp [dv] at vg;omega
          ·exact h0
         omega)
        rw [yS ⟨hs,hX⟩]
        simp only [go_sem,ya,yc,cB,bq,t3,t4,show (k:Int)<(t.length:Int) by omega,yz,p5,wrapN (n:=k+1) (by omega),dM,ei,dH,c2,e3,yQ,jJ,kA kX,kA kW,show ¬(600:Int)<(k:Int) by omega,yD,show (t.length:Int)-(k:Int)=((t.length-k:Nat):Int) by omega,wrapN (n:=t.length-k) (by omega),show ((t.length-k:Nat):Int)-1=((t.length-k-1:Nat):Int) by omega,wrapN (n:=t.length-k-1) (by omega),show ¬(600:Int)<((t.length-k-1:Nat):Int) by omega,e4,bL,dl.pu,dl.aE,dl.one,dn.pu,dn.aE,dn.one,eL,cP,yp,fj,e5,hg.len,hg.shut,show ¬(lg.length:Int)=1 by omega,xE]
 ·have hkt:k=t.length:=by omega
  rw [yE (by omega)];by_cases rP:600<k
  ·rw [yS (.inl rP)];simp only [go_sem,ya,cB,bq,t3,t4,show ¬(k:Int)<(t.length:Int) by omega,yD,show (600:Int)<(k:Int) by omega,yz]
  ·rw [yE (by omega),yE (by omega)]
   simp only [go_sem,ya,cB,bq,t3,t4,show ¬(k:Int)<(t.length:Int) by omega,yD,show ¬(600:Int)<(k:Int) by omega,show (t.length:Int)-(k:Int)=((t.length-k:Nat):Int) by omega,wrapN (n:=t.length-k) (by omega),show ((t.length-k:Nat):Int)-1= -1 by omega,show IntKind.wrap .i64 (-1)= -1 by rfl,show ¬(600:Int)<(-1:Int) by omega]
def Rw (h:Rm P L) {b:Nat} {r:List Nat} {t:List Nat} {neg:Bool} (dU:decide (((b:Nat):Int)=45)=neg) (hl:t.length<=1000000000) {tm:Env} (t0:ah tm 0= .str (b::r)) (t3:ah tm 3= .str t):
  jS [.t 2] (D P L (bq (bq (bq cB.body))) ⟨tm,[],0,0⟩)=some (ab (jV neg t)):=by
 obtain ⟨k,hk⟩:∃k,k=bV t:=⟨_,rfl⟩;have WH:k<=t.length:=by rw [hk];exact DK t
 have e1:=Cj h.rI (s:=t) (by omega);have e2:=Kh h.Ke h.Cr (s:=t.take k) (by rw [yN];omega);unfold jV;rw [<-hk] at e1 ⊢;have c1:=acf WH;have hI:kB 0 (.str (b::r))=some (.int .u8 (b:Nat)):=rfl;generalize hp:t.take k=p at*
 generalize hq:t.drop (k+1)=q at*
 cases hd:eX p with
 | false=>
  rw [yS (.inl rfl)];rw [hd] at e2;simp only [go_sem,ya,cB,bq,t3,e1,dM,ei,dH,c1,e2,xE]
 | true=>
  rw [hd] at e2;by_cases hz:neg=true/\p=[48]
  ·rw [yS (.inr hz)];obtain ⟨z1,z2⟩:=hz;rw [z1] at dU;have hb:=of_decide_eq_true dU;subst z2;simp only [go_sem,ya,cB,bq,t0,t3,e1,dM,ei,dH,c1,e2,yQ,hI,hb,yz,jJ,show dA [48] [48]=true from rfl]
  ·rw [yE (by simp only [tc,yaF];exact hz)]
   have fin:∀tm',ah tm' 3= .str t->ah tm' 4=ab k->D P L (.seq (eC (bq (bq (bq cB.body)))) (eC (bq (bq (bq (bq cB.body)))))) ⟨tm,[],0,0⟩=some (.normal,⟨tm',[],0,0⟩)->jS [.t 2] (D P L (bq (bq (bq cB.body))) ⟨tm,[],0,0⟩)=some (ab (
     if k<t.length/\(eX q=false\/q=[48]\/q=[49]) then 1
     else if 600<k\/600<t.length-k-1 then 4
     else if k<t.length/\wb (fF p) (fF q)≠1 then 1
     else 0)):=fun tm' f3 f4 e=>by
    show jS [.t 2] (D P L (.seq (eC (bq (bq (bq cB.body)))) (.seq (eC (bq (bq (bq (bq cB.body))))) (bq (bq (bq (bq (bq cB.body))))))) ⟨tm,[],0,0⟩)=_
    rw [Il,e,ku,<-hp,<-hq];exact ahb h hk hl (by rw [hp];exact hd) f3 f4
   by_cases hb:((b:Nat):Int)=45
   ·have aks:p≠[48]:=fun e=>hz ⟨by rw [<-dU];exact wM hb,e⟩
    refine fin _ ?_ ?_ (by simp only [go_sem,ya,cB,eC,bq,t0,t3,e1,dM,ei,dH,c1,e2,yQ,hI,hb,yz,jJ,kA aks]<;>rfl)<;>simp only [go_sem,ya,t3]
   ·refine fin _ ?_ ?_ (by simp only [go_sem,ya,cB,eC,bq,t0,t3,e1,dM,ei,dH,c1,e2,yQ,hI,hb,yD]<;>rfl)<;>simp only [go_sem,ya,t3]
def UY (h:Rm P L) {s:List Nat} (hl:s.length<=1000000000):aj P L 263 [.str s] (ab (dV s)):=by
 unfold aj;rw [aR h.akn]
 cases s with
 | nil=>
  have e1:=Cj h.rI (s:=[]) (by simp);have e2:=Kh h.Ke h.Cr (s:=[]) (by simp);have hc:fP [] (some 0) (some 0)=some (.str []):=rfl;simp only [go_sem,ya,cB,yZ,show ¬(0:Int)<((0:Nat):Int) by decide,yD,e1,bV,dM,ei,dH,hc,e2,show eX []=false from rfl,xE];rfl
 | cons b t=>
  have Vm:t.length+1<=1000000000:=by simpa using hl
  have hI:kB 0 (.str (b::t))=some (.int .u8 (b:Nat)):=rfl;by_cases hb:b=45
  ·subst hb;have fin:∀tm',ah tm' 0= .str (45::t)->ah tm' 3= .str t->D P L (.seq (eC cB.body) (.seq (eC (bq cB.body)) (eC (bq (bq cB.body))))) ⟨[(0,.str (45::t))],[],0,0⟩=some (.normal,⟨tm',[],0,0⟩)->jS [.t 2] (D P L cB.body ⟨[(0,.str (45::t))],[],0,0⟩)=some (ab (dV (45::t))):=fun tm' f0 f3 e=>by
    show jS [.t 2] (D P L (.seq (eC cB.body) (.seq (eC (bq cB.body)) (.seq (eC (bq (bq cB.body))) (bq (bq (bq cB.body)))))) ⟨[(0,.str (45::t))],[],0,0⟩)=_
    rw [NP,e,ku]
    exact Rw h (b:=45) rfl (by omega) f0 f3
   have hc:fP (45::t) (some 1) (some (t.length+1))=some (.str t):=by
    have:=OJ (s:=45::t) (k:=1) (by simp)
    simpa using this
   refine fin _ ?_ ?_ (by simp only [go_sem,ya,cB,eC,bq,yx,show (0:Int)<((t.length+1:Nat):Int) by omega,yz,rH,dM,ei,dH,hc]<;>rfl)<;>simp only [go_sem,ya]
  ·have fin:∀tm',ah tm' 0= .str (b::t)->ah tm' 3= .str (b::t)->D P L (.seq (eC cB.body) (.seq (eC (bq cB.body)) (eC (bq (bq cB.body))))) ⟨[(0,.str (b::t))],[],0,0⟩=some (.normal,⟨tm',[],0,0⟩)->jS [.t 2] (D P L cB.body ⟨[(0,.str (b::t))],[],0,0⟩)=some (ab (dV (b::t))):=fun tm' f0 f3 e=>by
    show jS [.t 2] (D P L (.seq (eC cB.body) (.seq (eC (bq cB.body)) (.seq (eC (bq (bq cB.body))) (bq (bq (bq cB.body)))))) ⟨[(0,.str (b::t))],[],0,0⟩)=_
    rw [NP,e,ku]
    have:=Rw h (b:=b) (neg:=false) (w6 (by omega)) (by simpa using hl) f0 f3
    rw [this];simp only [dV,yE hb]
   refine fin _ ?_ ?_ (by simp only [go_sem,ya,cB,eC,bq,yx,show (0:Int)<((t.length+1:Nat):Int) by omega,yz,hI,show ¬((b:Nat):Int)=45 by omega]<;>rfl)<;>simp only [go_sem,ya]
end
end
section
open Go (IntKind)
def gB (v:AV) (l:List (List Nat)):Prop:=b4 v (l.map AV.str)
section
variable {v:AV} {l:List (List Nat)}
def gB.len (h:gB v l) {hp:Hp}:fh hp 1 v=some (.int .i64 (l.length:Nat)):=by
 have:=b4.len (hp:=hp) h
 grind
def gB.pu (h:gB v l):aI v=true:=b4.pu h
def gB.aE (h:gB v l) (n:Nat) {hp:Hp}:freeze (n+1) hp v=some (v,hp):=b4.aE h n
def gB.shut (h:gB v l):VE.shut v=v:=b4.shut h
def gB.bW (h:gB v l):VE.bW v=v:=b4.bW h
def gB.dI (h:gB v l) {hp:Hp}:result hp v=some v:=b4.dI h
def gB.one (h:gB v l):cm v=true:=b4.one h
def gB.cells (h:gB v l):cellsOf v=[v]:=b4.cells h
def gB.bt (h:gB v l) {i:Nat} (hi:i<l.length):fw 1 i v=some (.ay (.str l[i]::(l.map AV.str).drop (i+1))):=by
 have:=b4.bt h (i:=i) (by simpa using hi)
 grind
def aez (e:Bool) (l:List (List Nat)):gB (.aB e l.length (l.map AV.str)) l:=by
 have:=sQ e (l.map AV.str)
 rwa [List.length_map] at this
end
section
variable {P:aF} {L:Lib}
def Z9 {l:List (List Nat)} {i:Nat} (h:i<l.length):cu ((l.drop i).map dV)=if dV l[i]=0 then cu ((l.drop (i+1)).map dV) else dV l[i]:=by
 rw [yT h];rfl
def aiP (h:Rm P L) (FH:Has P L 261 B1) {v:AV} {l:List (List Nat)} (hv:gB v l) (hl:l.length<=1000000) (hs:∀s,s∈l->s.length<=1000000000):aj P L 261 [v] (ab (cu (l.map dV))):=by
 have key:=dt (P:=P) (L:=L) (live:=[0,3]) (a:=sZ)
  (I:=fun k st=>∃i:Nat,st=⟨[(0,v),(3,ab i)],[],0,0⟩/\i+k=l.length/\cu ((l.drop i).map dV)=cu (l.map dV))
  (Q:=fun ex st=>∃tm ct,st=⟨tm,[],ct,0⟩/\((ex= .ret/\ah tm 2=ab (cu (l.map dV)))\/(ex= .exit 0/\cu (l.map dV)=0))) ?_
 ·unfold aj;rw [aR FH];simp only [go_sem,B1];generalize hq:D P L (.loop [0,3] sZ) _=q;obtain ⟨ex,st,rfl,tm,ct,rfl,h2⟩:=cW hq (key l.length) ⟨0,by simp only [go_sem,ya,aM,a6 hv.pu,bc _ hv.pu]<;>rfl,by omega,by simp⟩
  rcases h2 with ⟨rfl,h2⟩ | ⟨rfl,h3⟩
  ·simp only [go_sem,h2]
  ·simp only [go_sem,aM,h3]
 ·rintro k st ⟨i,rfl,hk,hd⟩;by_cases hi:i<l.length
  ·rw [Z9 hi] at hd;have e1:=UY h (hs l[i] (List.getElem_mem hi));have ev:=hv.bt hi;by_cases h1:dV l[i]=0
   ·left
    rw [yS h1] at hd;rw [h1] at e1;simp only [go_sem,ya,sZ,hv.len,show (i:Int)<l.length by omega,ev,e1,yz,yQ];refine ⟨_,k-1,rfl,by omega,i+1,?_,by omega,hd⟩;rw [wrap64 (by omega) (by omega)];simp only [go_sem,ya,aM,a6 hv.pu,bc _ hv.pu]<;>rfl
   ·right
    rw [yE h1] at hd;simp only [go_sem,ya,sZ,hv.len,show (i:Int)<l.length by omega,ev,e1,h1,yD,xE];refine ⟨_,_,rfl,by simp,_,_,rfl,.inl ⟨rfl,?_⟩⟩;rw [<-hd];simp only [go_sem]
  ·right
   simp only [go_sem,ya,sZ,hv.len,show ¬(i:Int)<l.length by omega];refine ⟨_,_,rfl,by simp,_,_,rfl,.inr ⟨rfl,?_⟩⟩;rw [<-hd,xr (by omega)];rfl
end
end
section
open Go (IntKind)
open Classical in
noncomputable def aiQ (s:List Nat):Rat:=if h:dV s=0 then Classical.choose (agV h) else 0
noncomputable def UZ (s:List Nat) (least:Int):Int:=if dV s=0 then (if eR (aiQ s).num<least then 3 else 0) else dV s
instance (k:Nat) (z:Int):Decidable (Bd k z):=inferInstanceAs (Decidable (z.natAbs<2^k))
def akt:RT 0=[48]:=by decide
def aku:RT 2=[50]:=by decide
structure S0 (P:aF) (L:Lib):Prop extends Rm P L where
 h42:Has P L 42 Vv
 FH:Has P L 261 B1
 aoa:Has P L 306 Uk
 aob:Has P L 307 Ul
 aoc:Has P L 308 Um
 aod:Has P L 314 Un
section
variable {P:aF} {L:Lib}
end
end
section
open Go (IntKind)
def WK (v:AV) (a b:Rat):Prop:=∃s1 w1 s2 w2 s3 w3 s4 w4,v= .agg [ab s1,w1,ab s2,w2,ab s3,w3,ab s4,w4]/\mY s1 w1 a.num/\mY s2 w2 (a.den:Int)/\mY s3 w3 b.num/\mY s4 w4 (b.den:Int)
section
variable {s1 s2 s3 s4:Int} {w1 w2 w3 w4:AV} {l1 l2 l3 l4:List Nat}
def aiR (h1:dB w1 l1) (h2:dB w2 l2) (h3:dB w3 l3) (h4:dB w4 l4) (hp:Hp) (ct id:Nat) (a b c d e f g h:AV):iQ hp ct id 0 8 [.int .i64 s1,w1,.int .i64 s2,w2,.int .i64 s3,w3,.int .i64 s4,w4] (some (.cells true true true 8 [a,b,c,d,e,f,g,h]))=some (.aw [],aY hp id (.cells true true true 8 [.int .i64 s1,w1,.int .i64 s2,w2,.int .i64 s3,w3,.int .i64 s4,w4]),ct):=by
 rw [zh (by rfl) (by simp) (by simp [bY,h1.one,h2.one,h3.one,h4.one,Eg])];simp [az,h1.pu,h2.pu,h3.pu,h4.pu,over,Es]
def aiS (h1:dB w1 l1) (h2:dB w2 l2) (h3:dB w3 l3) (h4:dB w4 l4) (hp:Hp):result hp (.agg [ab s1,w1,ab s2,w2,ab s3,w3,ab s4,w4])=some (.agg [ab s1,w1,ab s2,w2,ab s3,w3,ab s4,w4]):=by
 rcases h1 with ⟨rfl,_⟩ | ⟨e,rfl⟩<;>rcases h2 with ⟨rfl,_⟩ | ⟨e',rfl⟩<;>rcases h3 with ⟨rfl,_⟩ | ⟨e,rfl⟩<;>rcases h4 with ⟨rfl,_⟩ | ⟨e',rfl⟩<;>rfl
end
structure Sp (P:aF) (L:Lib):Prop extends Ck P L where
 j8:Has P L 31 pP
 CZ:Has P L 33 CO
 h53:Has P L 53 Vw
 h54:Has P L 54 Vx
 h60:Has P L 60 VB
 h61:Has P L 61 VD
 h63:Has P L 63 VG
 h64:Has P L 64 VH
 h65:Has P L 65 VI
 h68:Has P L 68 VL
 h75:Has P L 75 VN
 aoe:Has P L 112 TE
 aof:Has P L 113 TF
 aog:Has P L 114 TG
section
variable {P:aF} {L:Lib}
def HL (a:List Nat):dA a a=true:=aej rfl
end
end
section
open Go (IntKind)
structure F4 (c1 c2 c3 c4:AV):Prop where
 aE:∀(n:Nat) (hp:Hp),freeze (n+20) hp (.agg [c1,c2,c3,c4])=some (.agg [c1,c2,c3,c4],hp)
 dI:∀hp:Hp,result hp (.agg [c1,c2,c3,c4])=some (.agg [c1,c2,c3,c4])
 st:∀(hp:Hp) (ct id:Nat) (a b c d:AV),iQ hp ct id 0 4 [c1,c2,c3,c4] (some (.cells true true true 4 [a,b,c,d]))=some (.aw [],aY hp id (.cells true true true 4 [c1,c2,c3,c4]),ct)
 bx:∀ct:Nat,o8 ct 4 [c1,c2,c3,c4]=some (.ptr ct 0,.cells true true true 4 [c1,c2,c3,c4])
 o1:cm c1=true
 o2:cm c2=true
 o3:cm c3=true
 o4:cm c4=true
 pu:aI (.agg [c1,c2,c3,c4])=true
 z1:∀(n:Nat) (hp:Hp),freeze (n+1) hp c1=some (c1,hp)
 z2:∀(n:Nat) (hp:Hp),freeze (n+1) hp c2=some (c2,hp)
 z3:∀(n:Nat) (hp:Hp),freeze (n+1) hp c3=some (c3,hp)
 z4:∀(n:Nat) (hp:Hp),freeze (n+1) hp c4=some (c4,hp)
structure F8 (c1 c2 c3 c4 c5 c6 c7 c8:AV):Prop where
 aE:∀(n:Nat) (hp:Hp),freeze (n+20) hp (.agg [c1,c2,c3,c4,c5,c6,c7,c8])=some (.agg [c1,c2,c3,c4,c5,c6,c7,c8],hp)
 dI:∀hp:Hp,result hp (.agg [c1,c2,c3,c4,c5,c6,c7,c8])=some (.agg [c1,c2,c3,c4,c5,c6,c7,c8])
 st:∀(hp:Hp) (ct id:Nat) (a b c d e f g h:AV),iQ hp ct id 0 8 [c1,c2,c3,c4,c5,c6,c7,c8] (some (.cells true true true 8 [a,b,c,d,e,f,g,h]))=some (.aw [],aY hp id (.cells true true true 8 [c1,c2,c3,c4,c5,c6,c7,c8]),ct)
 bx:∀ct:Nat,o8 ct 8 [c1,c2,c3,c4,c5,c6,c7,c8]=some (.ptr ct 0,.cells true true true 8 [c1,c2,c3,c4,c5,c6,c7,c8])
def jk.gen {v:AV} {a:Rat} (h:jk v a):∃c1 c2 c3 c4,v= .agg [c1,c2,c3,c4]/\F4 c1 c2 c3 c4:=by
 obtain ⟨s1,w1,s2,w2,rfl,h1,h2⟩:=h;obtain ⟨l1,u1⟩:=h1.sd;obtain ⟨l2,u2⟩:=h2.sd;refine ⟨_,_,_,_,rfl,fun n hp=>?_,aix u1 u2,fun hp ct id a b c d=>aiw u1 u2 hp ct id a b c d,fun ct=>by simp only [go_sem,yc,bL,u1.pu,u1.one,u2.pu,u2.one],rfl,u1.one,rfl,u2.one,by simp [aI,az,u1.pu,u2.pu],fun _ _=>rfl,fun n _=>u1.aE n,fun _ _=>rfl,fun n _=>u2.aE n⟩;exact df _ _ (by simp only [go_sem,u1.aE,u2.aE])
def WK.gen {v:AV} {a b:Rat} (h:WK v a b):∃c1 c2 c3 c4 c5 c6 c7 c8,v= .agg [c1,c2,c3,c4,c5,c6,c7,c8]/\F8 c1 c2 c3 c4 c5 c6 c7 c8:=by
 obtain ⟨s1,w1,s2,w2,s3,w3,s4,w4,rfl,h1,h2,h3,h4⟩:=h;obtain ⟨l1,u1⟩:=h1.sd;obtain ⟨l2,u2⟩:=h2.sd;obtain ⟨l3,u3⟩:=h3.sd;obtain ⟨l4,u4⟩:=h4.sd;refine ⟨_,_,_,_,_,_,_,_,rfl,fun n hp=>?_,aiS u1 u2 u3 u4,fun hp ct id a b c d e f g h=>aiR u1 u2 u3 u4 hp ct id a b c d e f g h,fun ct=>by simp only [go_sem,yc,bL,u1.pu,u1.one,u2.pu,u2.one,u3.pu,u3.one,u4.pu,u4.one]⟩;exact df _ _ (by simp only [go_sem,u1.aE,u2.aE,u3.aE,u4.aE])
section
variable {P:aF} {L:Lib}
end
end
section
open Go (IntKind)
def QL:List AV->List Rat->Prop
 | [],[]=>True
 | a::b::c::d::r,x::l=>jk (.agg [a,b,c,d]) x/\QL r l
 | _,_=>False
def QL.nil:QL [] []:=trivial
def QL.cons {a b c d:AV} {r:List AV} {x:Rat} {l:List Rat} (h1:jk (.agg [a,b,c,d]) x) (h2:QL r l):QL (a::b::c::d::r) (x::l):=⟨h1,h2⟩
def QL.inv {cs:List AV} {x:Rat} {l:List Rat} (h:QL cs (x::l)):∃a b c d r,cs=a::b::c::d::r/\jk (.agg [a,b,c,d]) x/\QL r l:=by
 match cs,h with
 | a::b::c::d::r,h=>exact ⟨a,b,c,d,r,rfl,h.1,h.2⟩
def QL.Ct {cs:List AV} (h:QL cs []):cs=[]:=by
 match cs,h with
 | [],_=>rfl
 | [_],h=>exact h.elim
 | [_,_],h=>exact h.elim
 | [_,_,_],h=>exact h.elim
 | _::_::_::_::_,h=>exact h.elim
def QL.len:∀{l:List Rat} {cs:List AV},QL cs l->cs.length=l.length*4
 | [],_,h=>by rw [h.Ct];rfl
 | x::l,cs,h=>by
  obtain ⟨a,b,c,d,r,rfl,_,h2⟩:=h.inv
  have:=h2.len
  grind
def F4.Lz {c1 c2 c3 c4:AV} (g:F4 c1 c2 c3 c4):aI c1=true/\aI c2=true/\aI c3=true/\aI c4=true:=by
 have:=g.pu
 simpa only [aI,az,u5,Bool.and_eq_true] using this
def jk.f4 {a b c d:AV} {x:Rat} (h:jk (.agg [a,b,c,d]) x):F4 a b c d:=by
 obtain ⟨_,_,_,_,e,g⟩:=h.gen
 grind
def QL.pu:∀{l:List Rat} {cs:List AV},QL cs l->az cs=true
 | [],_,h=>by rw [h.Ct];rfl
 | x::l,cs,h=>by
  obtain ⟨a,b,c,d,r,rfl,h1,h2⟩:=h.inv;obtain ⟨p1,p2,p3,p4⟩:=h1.f4.Lz;simp only [az,p1,p2,p3,p4,h2.pu,vR]
def QL.one:∀{l:List Rat} {cs:List AV},QL cs l->bY cs=true
 | [],_,h=>by rw [h.Ct];rfl
 | x::l,cs,h=>by
  obtain ⟨a,b,c,d,r,rfl,h1,h2⟩:=h.inv;have g:=h1.f4;simp only [bY,g.o1,g.o2,g.o3,g.o4,h2.one,vR]
def QL.cy:∀{l m:List Rat} {cs ds:List AV},QL cs l->QL ds m->QL (cs++ds) (l++m)
 | [],m,cs,ds,h,k=>by rw [h.Ct];exact k
 | x::l,m,cs,ds,h,k=>by
  obtain ⟨a,b,c,d,r,rfl,h1,h2⟩:=h.inv;exact ⟨h1,h2.cy k⟩
def QL.snoc {l:List Rat} {x:Rat} {cs:List AV} {a b c d:AV} (h:QL cs l) (k:jk (.agg [a,b,c,d]) x):QL (cs++[a,b,c,d]) (l++[x]):=h.cy ⟨k,trivial⟩
def QL.get:∀{l:List Rat} {cs:List AV} {i:Nat},QL cs l->∀(hi:i<l.length),∃a b c d r,cs.drop (i*4)=a::b::c::d::r/\jk (.agg [a,b,c,d]) l[i]
 | [],_,i,_,hi=>absurd hi (Nat.not_lt_zero i)
 | x::l,cs,0,h,hi=>by
  obtain ⟨a,b,c,d,r,rfl,h1,_⟩:=h.inv
  grind
 | x::l,cs,i+1,h,hi=>by
  obtain ⟨a,b,c,d,r,rfl,_,h2⟩:=h.inv;obtain ⟨a',b',c',d',r',e,k⟩:=h2.get (i:=i) (by simpa using hi)
  grind
def gY (v:AV) (l:List Rat):Prop:=(v= .aa/\l=[])\/∃e cs,v= .aB e l.length cs/\QL cs l
section
variable {v:AV} {l:List Rat} {hp:Hp}
def gY.len (h:gY v l) {hp:Hp}:fh hp 1 v=some (.int .i64 (l.length:Nat)):=by
 rcases h with ⟨rfl,rfl⟩ | ⟨e,cs,rfl,h⟩<;>rfl
def gY.pu (h:gY v l):aI v=true:=by
 rcases h with ⟨rfl,rfl⟩ | ⟨e,cs,rfl,h⟩<;>rfl
def gY.aE (h:gY v l) (n:Nat) {hp:Hp}:freeze (n+1) hp v=some (v,hp):=by
 rcases h with ⟨rfl,rfl⟩ | ⟨e,cs,rfl,h⟩<;>rfl
def gY.shut (h:gY v l):shut v=v:=by
 rcases h with ⟨rfl,rfl⟩ | ⟨e,cs,rfl,h⟩<;>rfl
def gY.bW (h:gY v l):bW v=v:=by
 rcases h with ⟨rfl,rfl⟩ | ⟨e,cs,rfl,h⟩<;>rfl
def gY.dI (h:gY v l) {hp:Hp}:result hp v=some v:=by
 rcases h with ⟨rfl,rfl⟩ | ⟨e,cs,rfl,h⟩<;>rfl
def gY.one (h:gY v l):cm v=true:=by
 rcases h with ⟨rfl,rfl⟩ | ⟨e,cs,rfl,h⟩<;>rfl
def gY.cells (h:gY v l):cellsOf v=[v]:=by
 rcases h with ⟨rfl,rfl⟩ | ⟨e,cs,rfl,h⟩<;>rfl
def gY.bt (h:gY v l) {i:Nat} (hi:i<l.length):∃a b c d r,fw 4 i v=some (.ay (a::b::c::d::r))/\jk (.agg [a,b,c,d]) l[i]:=by
 rcases h with ⟨rfl,rfl⟩ | ⟨e,cs,rfl,h⟩
 ·grind
 ·obtain ⟨a,b,c,d,r,e1,e2⟩:=h.get hi;refine ⟨a,b,c,d,r,?_,e2⟩;rw [Ef e _ hi,e1]
end
end
section
open Go (IntKind)
def Tf (v:AV) (i j:Int) (f g:Rat):Prop:=∃c1 c2 c3 c4 d1 d2 d3 d4,v= .agg [ab i,ab j,c1,c2,c3,c4,d1,d2,d3,d4]/\jk (.agg [c1,c2,c3,c4]) f/\jk (.agg [d1,d2,d3,d4]) g
section
variable {P:aF} {L:Lib}
end
end
section
open Go (IntKind)
section
variable {tm:Env} {a b c d:AV} {r:List (Nat×Nat×X)} {x0 x1 x2 x3 x4 x5 x6 x7 x8 x9 xa xb xc xd xe xf:AV}
end
def PH:∀{l:List Rat} {cs:List AV},QL cs l->∀(n:Nat) (hp:Hp),bS (n+l.length*4+2) hp cs=some (cs,hp)
 | [],_,h,n,hp=>by rw [h.Ct];rfl
 | x::l,cs,h,n,hp=>by
  obtain ⟨a,b,c,d,r,rfl,h1,h2⟩:=h.inv;have g:=h1.f4;have e:=PH h2 n hp;rw [show n+(x::l).length*4+2=n+l.length*4+2+1+1+1+1 by simp only [yx];omega];simp only [go_sem,g.z1,g.z2,g.z3,g.z4,e]
def QL.aE {l:List Rat} {cs:List AV} (h:QL cs l) {n:Nat} (hn:l.length*4+3<=n) (hp:Hp):freeze n hp (.agg cs)=some (.agg cs,hp):=by
 obtain ⟨m,rfl⟩:∃m,n=m+l.length*4+3:=⟨n-(l.length*4+3),by omega⟩;exact df _ _ (PH h m hp)
def QL.dI {l:List Rat} {cs:List AV} (h:QL cs l) (hl:l.length<=200) (hp:Hp):result hp (.agg cs)=some (.agg cs):=by
 show (match freeze 1000 hp (.agg cs) with | some (v',_)=>some v' | none=>none)=_
 rw [h.aE (by omega)]
def Tf.gen {v:AV} {i j:Int} {f g:Rat} (h:Tf v i j f g):∃c1 c2 c3 c4 d1 d2 d3 d4,v= .agg [ab i,ab j,c1,c2,c3,c4,d1,d2,d3,d4]/\jk (.agg [c1,c2,c3,c4]) f/\jk (.agg [d1,d2,d3,d4]) g/\(∀ct:Nat,o8 ct 10 [ab i,ab j,c1,c2,c3,c4,d1,d2,d3,d4]=some (.ptr ct 0,.cells true true true 10 [ab i,ab j,c1,c2,c3,c4,d1,d2,d3,d4]))/\∀(n:Nat) (hp:Hp),freeze (n+20) hp (.agg [ab i,ab j,c1,c2,c3,c4,d1,d2,d3,d4])=some (.agg [ab i,ab j,c1,c2,c3,c4,d1,d2,d3,d4],hp):=by
 obtain ⟨c1,c2,c3,c4,d1,d2,d3,d4,rfl,hf,hg⟩:=h;have gf:=hf.f4;have gg:=hg.f4;obtain ⟨p11,p12,p13,p14⟩:=gf.Lz;obtain ⟨p21,p22,p23,p24⟩:=gg.Lz;refine ⟨c1,c2,c3,c4,d1,d2,d3,d4,rfl,hf,hg,fun ct=>?_,fun n hp=>df _ _ (by simp only [go_sem,gf.z1,gf.z2,gf.z3,gf.z4,gg.z1,gg.z2,gg.z3,gg.z4])⟩;rw [bL (by rfl) (by simp [bY,Eg,gf.o1,gf.o2,gf.o3,gf.o4,gg.o1,gg.o2,gg.o3,gg.o4])];simp [az,Es,p11,p12,p13,p14,p21,p22,p23,p24]
structure Vl (P:aF) (L:Lib):Prop extends V6 P L where
 h55:Has P L 55 Vy
 h56:Has P L 56 Vz
 aoh:Has P L 103 Tv
 aoi:Has P L 104 Tw
 aoj:Has P L 105 Tz
 aok:Has P L 106 TA
 pc:Has P L 134 rA
 aol:Has P L 150 TU
section
variable {P:aF} {L:Lib}
structure Db (v:AV) (s:List (List Int)) (n:Nat):Prop where
 is:cf v s
 len:s.length=n
 pos:0<n
 le:n<=16
 row:∀i (hi:i<s.length),s[i].length=n
 sq:dZ n (-1000) 1000 s=0
def Db.cell {v:AV} {s:List (List Int)} {n:Nat} (h:Db v s n) (c r:Int):∃q rest aiT,fw 1 (r%n).toNat v=some (.ay (q::rest))/\fw 1 (c%n).toNat q=some (.ay (ab (bk s c r)::aiT)):=by
 obtain ⟨h1,h2,h3⟩:=Ig h.len h.pos h.row c r;obtain ⟨q,rest,kU,K8⟩:=h.is.bt h1;exact ⟨q,rest,_,K8,by rw [h3];exact kU.bt h2⟩
def Db.cR {v:AV} {s:List (List Int)} {n:Nat} (h:Db v s n) (c r:Int): -1000<=bk s c r/\bk s c r<=1000:=Dl h.sq (by decide) c r
def HM {s:List (List Int)} {n:Nat} (hn:s.length=n) (c r c' r':Int) (hc:c%n=c'%n) (hr:r%n=r'%n):bk s c r=bk s c' r':=by
 unfold bk;rw [hn,hc,hr]
def QL.po {cs:List AV} {l:List Rat} (h:QL cs l) {k n:Nat} (hl:l.length=n) (hk:k<n):∃a b c d,BA n 4 true k (.agg cs)=some (.agg [a,b,c,d])/\jk (.agg [a,b,c,d]) (l[k]'(by omega)):=by
 obtain ⟨a,b,c,d,r,e,hq⟩:=h.get (i:=k) (by omega);refine ⟨a,b,c,d,?_,hq⟩;show (bif Nat.blt k n then gK 4 true (cs.drop (k*4)) else none)=_
 rw [ais hk,e];rfl
end
end
section
open Go (IntKind)
section
variable {P:aF} {L:Lib}
def Jz (tm:Env) (hp:Hp) (rs:List (Nat×Bool×Nat)) (q:eF):eF:=match q with | some (v,ai,aO)=>bif lk tm hp ai rs then some (v,ai,aO) else none | none=>none
def acg {f:b9} {tm:Env} {hp:Hp} {ct:Nat} (rs:List (Nat×Bool×Nat)) (g:X) (xs:List X):aZ P L f tm hp ct (.fg rs g xs)=Jz tm hp rs (cK P L f hp ct .dyn (aq tm g) (cA tm xs)):=rfl
def aeA {tm:Env} {hp ai:Hp} {rs:List (Nat×Bool×Nat)} {v:AV} {aO:Nat} (h:lk tm hp ai rs=true):Jz tm hp rs (some (v,ai,aO))=some (v,ai,aO):=by
 simp only [Jz,h,yi]
section
variable {b n R st:Nat} {fnv:AV} {H:Hp} {rs:List (List AV)}
def aaa:ak (bg (b+5) rs++bN b n R fnv st H) b=some (.cells true true true 1 [.int .i64 n]):=by
 rw [nc (by omega)];simp only [bN,ak,cD (show b+4≠b by omega),cD (show b+3≠b by omega),cD (show b+2≠b by omega),cD (show b+1≠b by omega),y9,yr,yi]
def aab:ak (bg (b+5) rs++bN b n R fnv st H) (b+1)=some (.cells true (aI fnv) true 1 [fnv]):=by
 rw [nc (by omega)];simp only [bN,ak,cD (show b+4≠b+1 by omega),cD (show b+3≠b+1 by omega),cD (show b+2≠b+1 by omega),y9,yr,yi]
def HN:ak (bg (b+5) rs++bN b n R fnv st H) (b+2)=some (.cells true (yk R 0) true 1 (er (b+5) n R)):=by
 rw [nc (by omega)];simp only [bN,ak,cD (show b+4≠b+2 by omega),cD (show b+3≠b+2 by omega),y9,yr,yi]
def HO:ak (bg (b+5) rs++bN b n R fnv st H) (b+3)=some (.cells true false true 1 [.au (b+2) 0 n]):=by
 rw [nc (by omega)];simp only [bN,ak,cD (show b+4≠b+3 by omega),y9,yr,yi]
def DN:ak (bg (b+5) rs++bN b n R fnv st H) (b+4)=some (.lp (eS b n fnv) [12,13] nG lA st .none):=by
 rw [nc (by omega)];simp only [bN,ak,y9,yi]
def NQ {st':Nat}:aY (bg (b+5) rs++bN b n R fnv st H) (b+4) (.lp (eS b n fnv) [12,13] nG lA st' .none)=bg (b+5) rs++bN b n R fnv st' H:=by
 rw [GY (by omega)];simp only [bN,aY,y9,yi]
def aac:aY (bg (b+5) rs++bN b n R fnv st H) (b+2) (.cells true false true 1 (er (b+5) n (R+1)))=bg (b+5) rs++bN b n (R+1) fnv st H:=by
 rw [GY (by omega)];simp only [bN,aY,cD (show b+4≠b+2 by omega),cD (show b+3≠b+2 by omega),y9,yr,yi,cD (Nat.succ_ne_zero R)]
def ach {cs:List AV} {old:Hp} {ct:Nat} (h:ct=b+5+rs.length):(ct,Obj.cells true true true 1 cs)::(bg (b+5) rs++old)=bg (b+5) (cs::rs)++old:=by
 subst h;rfl
def aci {cs:List AV} {old:Hp} {x:Nat} (h:x=b+5+rs.length):ak (bg (b+5) (cs::rs)++old) x=some (.cells true true true 1 cs):=by
 subst h;simp only [bg,yH,Ib]
def acj {cs cF:List AV} {old:Hp} {x:Nat} (h:x=b+5+rs.length):aY (bg (b+5) (cs::rs)++old) x (.cells true true true 1 cF)=bg (b+5) (cF::rs)++old:=by
 subst h;simp only [bg,yH,Oo]
end
def NR {B n r:Nat}:(er B n (r+1)).drop r= .au (B+r) 0 n::yu (n-(r+1)) .aa:=by
 unfold er;rw [uz,xm,y7,List.drop_left' (by simp)];rfl
def M4 {b n r c:Nat} (hr:r<n) (hc:c<n) {fnv v:AV} {H H':Hp} {cur:List AV} {prev:List (List AV)} (hp:prev.length=r) (aom:cur.length=n) (eO:cm v=true) (cT:aI v=true) {tm:Env} {ct base:Nat}
  (h3:ah tm 3= .ptr (b+1) 0) (h5:ah tm 5= .ptr (b+3) 0) (h6:ah tm 6=ab c) (h7:ah tm 7=ab r)
  (gr:cK P L (D P L) (bg (b+5) (cur::prev)++bN b n (r+1) fnv 1 H) ct .dyn fnv [ab c,ab r]=some (v,bg (b+5) (cur::prev)++bN b n (r+1) fnv 1 H',ct)):
  ∃tm',D P L (.aG [⟨some 21,none,.ld 1 false (.t 5)⟩,⟨some 22,none,.br (.t 7)⟩,⟨some 23,none,.bt 1 (.t 21) (.t 22)⟩,⟨some 24,none,.ld 1 false (.t 23)⟩,⟨some 25,none,.br (.t 6)⟩,⟨some 26,none,.ld 1 false (.t 3)⟩,
   ⟨some 27,none,.br (.t 6)⟩,⟨some 28,none,.br (.t 7)⟩,⟨some 29,none,.fg [(1,false,5),(1,false,23)] (.t 26) [(.t 27),(.t 28)]⟩,⟨some 30,none,.bt 1 (.t 24) (.t 25)⟩,⟨none,none,.st 1 (.t 30) (.t 29)⟩])
   ⟨tm,bg (b+5) (cur::prev)++bN b n (r+1) fnv 1 H,ct,base⟩=some (.normal,⟨tm',bg (b+5) (over c [v] cur::prev)++bN b n (r+1) fnv 1 H',ct,base⟩):=by
 have hl:∀H,ak (bg (b+5) (cur::prev)++bN b n (r+1) fnv 1 H) (b+5+r)=some (.cells true true true 1 cur):=fun H=>aci (by omega)
 have hs:∀H X,aY (bg (b+5) (cur::prev)++bN b n (r+1) fnv 1 H) (b+5+r) (.cells true true true 1 X)=bg (b+5) (X::prev)++bN b n (r+1) fnv 1 H:=fun H X=>acj (by omega)
 have EB:cellsOf v=[v]:=by cases v<;>simp_all [cellsOf,cm]
 have aT:∀H,iQ (bg (b+5) (cur::prev)++bN b n (r+1) fnv 1 H) ct (b+5+r) c 1 [v] (some (.cells true true true 1 cur))=some (.aw [],aY (bg (b+5) (cur::prev)++bN b n (r+1) fnv 1 H) (b+5+r) (.cells true true true 1 (over c [v] cur)),ct):=fun H=>by
  rw [zh (sz:=1) (by rfl) (by omega) (by simp [bY,eO])];simp [az,cT]
 simp only [go_sem,ya,yv,h3,h5,h6,h7,HO,HN,aab,fX _ _ hr,yp,NR,acg,gr];rw [aeA]
 ·simp only [go_sem,ya,yv,fX _ _ hc,yp,EB,hl,aT,hs];exact ⟨_,rfl⟩
 ·simp only [lk];simp only [go_sem,ya,h5,HO,HN,NR,E3,y9]
def XT {b n r c:Nat} (hr:r<n) (hc:c<n) (fq:n<=1000) {fnv:AV} (hf:cm fnv=true) {val:Nat->Nat->AV} (eO:cm (val c r)=true) (cT:aI (val c r)=true) {H H':Hp} {prev rs:List (List AV)} (hp:prev.length=r)
  (Al:rs=if c=0 then prev else iy (.int .i64 0) val n r c::prev)
  (gr:∀cur,cK P L (D P L) (bg (b+5) (cur::prev)++bN b n (r+1) fnv 1 H) (b+5+(r+1)) .dyn fnv [ab c,ab r]=some (val c r,bg (b+5) (cur::prev)++bN b n (r+1) fnv 1 H',b+5+(r+1))):
  fV (D P L) (bg (b+5) rs++bN b n rs.length fnv 0 H) (b+5+rs.length) (b+4) [ab c,ab r]=
   some (.bool true,bg (b+5) (iy (.int .i64 0) val n r (c+1)::prev)++bN b n (r+1) fnv 0 H',b+5+(r+1)):=by
 have EB:cellsOf fnv=[fnv]:=by cases fnv<;>simp_all [cellsOf,cm]
 have hb:∃tm',D P L lA ⟨(7,ab r)::(6,ab c)::(13,ab r)::(12,ab c)::eS b n fnv,bg (b+5) rs++bN b n rs.length fnv 1 H,b+5+rs.length,b+5+rs.length⟩=
   some (.normal,⟨tm',bg (b+5) (iy (.int .i64 0) val n r (c+1)::prev)++bN b n (r+1) fnv 1 H',b+5+(r+1),b+5+rs.length⟩):=by
  by_cases h0:c=0
  ·subst h0;rw [yS rfl] at Al;subst Al;have aT:∀H,iQ (bg (b+5) (yu n (.int .i64 0)::rs)++bN b n r fnv 1 H) (b+5+r+1) (b+2) r 1 [.au (b+5+r) 0 n] (some (.cells true (yk r 0) true 1 (er (b+5) n r)))=
     some (.aw [],bg (b+5) (yu n (.int .i64 0)::rs)++bN b n (r+1) fnv 1 H,b+5+r+1):=fun H=>by
    rw [zh (sz:=1) (by rfl) (by rw [ab7 (by omega)];omega) (by rfl),Z1 hr];simp only [MP,Q6,vv,tZ,aac]
   obtain ⟨tm',h2⟩:=M4 (P:=P) (L:=L) (b:=b) (c:=0) hr hc (cur:=yu n (.int .i64 0)) (prev:=rs) hp (by simp) eO cT (H:=H) (H':=H') (ct:=b+5+r+1) (base:=b+5+r) (fnv:=fnv)
    (tm:=(20,.ptr (b+2) r)::(19,.au (b+5+r) 0 n)::(18,.int .i64 n)::(17,ab r)::(16,.au (b+2) 0 n)::(15,.bool true)::(14,ab ((0:Nat):Int))::(7,ab r)::(6,ab ((0:Nat):Int))::(13,ab r)::(12,ab ((0:Nat):Int))::eS b n fnv)
    (by rfl) (by rfl) (by rfl) (by rfl) (gr _)
   refine ⟨tm',?_⟩;simp only [hp];unfold lA;rw [Jm,mu,mu,Jl]
   simp only [go_sem,ya,yv,eS,HO,aaa,fX _ _ hr,yp,tD,Bt (ct:=b+5+r) (sz:=1) (by':=8) (l:=n) (z:=[.int .i64 0]) (by omega) (by omega) rfl rfl,Ik]
   rw [ach (rs:=rs) (ct:=b+5+r) (by omega),HN,aT];simp only [Pw,SO,Pv,QZ,ku];simp only [eS,tD] at h2;rw [h2,ID,<-NL hc,Z3];rfl
  ·rw [yE h0] at Al;subst Al;obtain ⟨tm',h2⟩:=M4 (P:=P) (L:=L) (b:=b) (c:=c) hr hc (cur:=iy (.int .i64 0) val n r c) (prev:=prev) hp (ab8 (by omega)) eO cT (H:=H) (H':=H') (ct:=b+5+(r+1)) (base:=b+5+(r+1)) (fnv:=fnv)
    (tm:=(15,.bool false)::(14,ab c)::(7,ab r)::(6,ab c)::(13,ab r)::(12,ab c)::eS b n fnv)
    (by rfl) (by rfl) (by rfl) (by rfl) (gr _)
   refine ⟨tm',?_⟩;simp only [yx,hp];unfold lA;rw [Jm,mu,mu,Jl];simp only [eS] at h2 ⊢;simp only [go_sem,ya,show ¬(c:Int)=0 by omega];simp only [go_sem,ya] at h2;rw [h2,ID,NL hc]
 obtain ⟨tm',hb⟩:=hb;have hlen:b+5+(r+1)=b+5+(iy (.int .i64 0) val n r (c+1)::prev).length:=by rw [yx,hp]
 rw [OC (DN) (tm':=(13,ab r)::(12,ab c)::eS b n fnv) rfl (s1:=⟨(7,ab r)::(6,ab c)::(13,ab r)::(12,ab c)::eS b n fnv,bg (b+5) rs++bN b n rs.length fnv 0 H,b+5+rs.length,b+5+rs.length⟩) (by unfold nG;simp only [go_sem,ya]) DN
  (by simp only [NQ];exact hb) DN,NQ]
end
end
section
open Go (IntKind)
section
variable {P:aF} {L:Lib}
structure EC (P:aF) (L:Lib) (b n:Nat) (fnv:AV) (val:Nat->Nat->AV) (Hs:Nat->Hp):Prop where
 n1:n<=1000
 nK:∀k,EZ b fnv (Hs k)
 one:∀c r,cm (val c r)=true
 pu:∀c r,aI (val c r)=true
 call:∀c r,c<n->r<n->∀(zJ:Hp) (ct:Nat),(∀p,p∈zJ->b<=p.1)->b<=ct->ik ct ct zJ->(cJ ct zJ).length<=5000->cK P L (D P L) (zJ++Hs (r*n+c)) ct .dyn fnv [ab c,ab r]=some (val c r,zJ++Hs (r*n+c+1),ct)
def fL (val:Nat->Nat->AV) (n r c:Nat):List (List AV):=if c=0 then dF val n r else iy (.int .i64 0) val n r c::dF val n r
def YB {val:Nat->Nat->AV} {n r c:Nat}:(fL val n r c).length=if c=0 then r else r+1:=by
 unfold fL;split<;>simp [oB]
def XU {val:Nat->Nat->AV} {n r c:Nat}:fL val n r (c+1)=iy (.int .i64 0) val n r (c+1)::dF val n r:=by
 simp [fL]
def XV {val:Nat->Nat->AV} {n r:Nat} (hn:0<n):fL val n r n=dF val n (r+1):=by
 rw [fL,yE (by omega),Z2];rfl
def XW {val:Nat->Nat->AV} {n r:Nat}:fL val n r 0=dF val n r:=by simp [fL]
def NS {B:Nat}:∀{rs:List (List AV)} (p:Nat×Obj),p∈bg B rs->B<=p.1
 | [],p,h=>by simp [bg] at h
 | c::r,p,h=>by
  rcases wm.1 h with rfl | h
  ·show B<=B+r.length;omega
  ·exact NS p h
def OK {b n R st:Nat} {fnv:AV} {H:Hp} {rs:List (List AV)}:bg (b+5) rs++bN b n R fnv st H=(bg (b+5) rs++bN b n R fnv st [])++H:=by
 rw [y7];rfl
def ack {b n R st:Nat} {fnv:AV} {rs:List (List AV)} (p:Nat×Obj) (h:p∈bg (b+5) rs++bN b n R fnv st []):b<=p.1:=by
 rcases List.mem_append.1 h with h | h
 ·have:=NS p h;omega
 ·simp only [bN,wm,List.not_mem_nil,or_false] at h;rcases h with rfl | rfl | rfl | rfl | rfl<;>simp
def YC {b n R st:Nat} (hR:R<=n) {fnv:AV} {H:Hp} (ho:EZ b fnv H) {rs:List (List AV)} (hl:rs.length=R):ik (b+5+R) (b+5+R) (bg (b+5) rs++bN b n R fnv st []):=by
 have FE:ij (b+4) (eS b n fnv):=by
  have:=sH (show b<=b+4 by omega) ho.fv
  refine ⟨⟨trivial,trivial,trivial⟩,trivial,show b+3<b+4 by omega,show b+2<b+4 by omega,trivial,trivial,show b+1<b+4 by omega,show b<b+4 by omega,trivial,this,trivial⟩
 refine M0 (Mi (by omega)) ⟨by omega,Dp (by omega) FE,by omega,.inr ⟨show b+2<_ by omega,trivial⟩,by omega,.inr M1,by omega,.inr ⟨sH (by omega) ho.fv,trivial⟩,by omega,.inl rfl,trivial⟩
def aad {b n R st ct:Nat} (hR:R<=n) (hn:n<=1000) (eN:b+5<=ct) {fnv:AV} {H:Hp} (ho:EZ b fnv H) {rs:List (List AV)}:(cJ ct (bg (b+5) rs++bN b n R fnv st [])).length<=5000:=by
 have ajV:(dP (eS b n fnv)).length<=1010:=by
  have:=ho.fl
  simp [eS,dP,refs,dC];omega
 have zP:(dN (.cells true (aI fnv) true 1 [fnv])).length<=1000:=by
  cases aI fnv with
  | true=>simp [dN]
  | false=>simp [dN,dC];exact ho.fl
 have hol:(dN (.cells true (yk R 0) true 1 (er (b+5) n R))).length<=1000:=by
  cases hq:yk R 0 with
  | true=>simp [dN]
  | false=>simp only [dN,yr,NM,List.length_range'];omega
 rw [Mh,LN,xu];simp only [bN,cJ,ff (show b+4<ct by omega),ff (show b+3<ct by omega),ff (show b+2<ct by omega),ff (show b+1<ct by omega),ff (show b<ct by omega),yi,List.length_append,yZ];have h3:(dN (.cells true false true 1 [AV.au (b+2) 0 n])).length=1:=rfl;have h0:(dN (.cells true true true 1 [AV.int .i64 n])).length=0:=rfl;have h4:(dN (.lp (eS b n fnv) [12,13] nG lA st .none)).length=(dP (eS b n fnv)).length:=rfl;rw [h3,h0,h4];omega
def aae {b n:Nat} {fnv:AV} {val:Nat->Nat->AV} {Hs:Nat->Hp} (hf:EC P L b n fnv val Hs) {r:Nat} (hr:r<n):
  ∀d st,(∃c:Nat,bA [0,1,3,5,6,9,10] st=⟨[(0,.fn (.y (b+4)) [] []),(1,.ay [.int .i64 n]),(3,ab r),(5,ab n),(6,ab r),(9,ab n),(10,ab c)],bg (b+5) (fL val n r c)++bN b n (fL val n r c).length fnv 0 (Hs (r*n+c)),b+5+(fL val n r c).length,b+5⟩/\c+d=n)->
   ∃ex s',D P L (.loop [0,1,3,5,6,9,10] nw) st=some (ex,s')/\∃tm ct,s'=⟨tm,bg (b+5) (fL val n r n)++bN b n (fL val n r n).length fnv 0 (Hs (r*n+n)),ct,b+5⟩/\ex= .exit 2/\ah tm 0= .fn (.y (b+4)) [] []/\ah tm 1= .ay [.int .i64 n]/\ah tm 5=ab n/\ah tm 6=ab r:=by
 have n1:=hf.n1
 refine dt (I:=fun d st=>∃c:Nat,st=⟨[(0,.fn (.y (b+4)) [] []),(1,.ay [.int .i64 n]),(3,ab r),(5,ab n),(6,ab r),(9,ab n),(10,ab c)],bg (b+5) (fL val n r c)++bN b n (fL val n r c).length fnv 0 (Hs (r*n+c)),b+5+(fL val n r c).length,b+5⟩/\c+d=n)
  (Q:=fun ex s'=>∃tm ct,s'=⟨tm,bg (b+5) (fL val n r n)++bN b n (fL val n r n).length fnv 0 (Hs (r*n+n)),ct,b+5⟩/\ex= .exit 2/\ah tm 0= .fn (.y (b+4)) [] []/\ah tm 1= .ay [.int .i64 n]/\ah tm 5=ab n/\ah tm 6=ab r) ?_
 rintro d st ⟨c,rfl,LA⟩;by_cases hc:c<n
 ·left
  have Bw:=XT (P:=P) (L:=L) (b:=b) hr hc n1 (hf.nK 0).one (hf.one c r) (hf.pu c r) (H:=Hs (r*n+c)) (H':=Hs (r*n+c+1)) (prev:=dF val n r) (rs:=fL val n r c) (oB val n r) rfl (fun cur=>by
   have hl:(cur::dF val n r).length=r+1:=by rw [yx,oB]
   rw [OK,hf.call c r hc hr _ _ ack (by omega) (YC (by omega) (hf.nK 0) hl) (aad (by omega) n1 (by omega) (hf.nK 0)),<-OK])
  have qZ:∀(xs:List AV) (hp:Hp) (ct:Nat),cK P L (D P L) hp ct .heap (.fn (.y (b+4)) [] []) xs=fV (D P L) hp ct (b+4) xs:=fun _ _ _=>rfl
  simp only [go_sem,ya,nw,show (c:Int)<n by omega,qZ,Bw,show (c:Int)+1=((c+1:Nat):Int) from rfl,wrapN (n:=c+1) (by omega)];refine ⟨_,d-1,rfl,by omega,c+1,?_,by omega⟩;rw [<-XU];have hlen:(fL val n r (c+1)).length=r+1:=by rw [YB,yE (by omega)]
  have jd:=fun (tm:Env) (ct:Nat)=>Ax (tm:=tm) (ct:=ct) (b:=b) (n:=n) (st:=0) (live:=[0,1,3,5,6,9,10]) (rs:=fL val n r (c+1)) (hf.nK (r*n+c+1)) (by omega) n1
  simp only [hlen] at jd ⊢;rw [jd]
  ·simp only [go_sem,ya];rfl
  ·simp only [go_sem,ya];exact ⟨⟨by omega,rfl,rfl⟩,trivial,trivial,trivial,trivial,trivial,trivial,trivial⟩
  ·simp only [go_sem,ya,yc,ym]
 ·right
  have:c=n:=by omega
  subst this;simp only [go_sem,ya,nw,show ¬(c:Int)<c by omega];refine ⟨_,_,rfl,by simp,_,_,rfl,rfl,?_⟩;simp only [go_sem,ya]
  simp
def YD {b n:Nat} (hn:0<n) {fnv:AV} {val:Nat->Nat->AV} {Hs:Nat->Hp} (hf:EC P L b n fnv val Hs):
  ∀d st,(∃r:Nat,bA [0,1,5,6] st=⟨[(0,.fn (.y (b+4)) [] []),(1,.ay [.int .i64 n]),(5,ab n),(6,ab r)],bg (b+5) (dF val n r)++bN b n (dF val n r).length fnv 0 (Hs (r*n)),b+5+(dF val n r).length,b+5⟩/\r+d=n)->
   ∃ex s',D P L (.loop [0,1,5,6] nA) st=some (ex,s')/\∃tm ct,s'=⟨tm,bg (b+5) (dF val n n)++bN b n (dF val n n).length fnv 0 (Hs (n*n)),ct,b+5⟩/\ex= .exit 0:=by
 have n1:=hf.n1
 refine dt (I:=fun d st=>∃r:Nat,st=⟨[(0,.fn (.y (b+4)) [] []),(1,.ay [.int .i64 n]),(5,ab n),(6,ab r)],bg (b+5) (dF val n r)++bN b n (dF val n r).length fnv 0 (Hs (r*n)),b+5+(dF val n r).length,b+5⟩/\r+d=n)
  (Q:=fun ex s'=>∃tm ct,s'=⟨tm,bg (b+5) (dF val n n)++bN b n (dF val n n).length fnv 0 (Hs (n*n)),ct,b+5⟩/\ex= .exit 0) ?_
 rintro d st ⟨r,rfl,gN⟩;by_cases hr:r<n
 ·left
  have hlen:(dF val n r).length=r:=oB val n r;have BQ:(dF val n (r+1)).length=r+1:=oB val n (r+1);have jd:=fun (tm:Env) (ct:Nat)=>Ax (tm:=tm) (ct:=ct) (b:=b) (n:=n) (st:=0) (live:=[0,1,3,5,6,9,10]) (rs:=dF val n r) (hf.nK (r*n)) (by omega) n1
  have zm:=fun (tm:Env) (ct:Nat) (live:List Nat)=>Ax (tm:=tm) (ct:=ct) (live:=live) (b:=b) (n:=n) (st:=0) (rs:=dF val n (r+1)) (hf.nK ((r+1)*n)) (by omega) n1
  simp only [hlen] at jd;simp only [BQ] at zm;simp only [go_sem,ya,nA,show (r:Int)<n by omega,hlen];generalize hq:D P L (.loop [0,1,3,5,6,9,10] nw) _=q;obtain ⟨ex,st,rfl,tm,ct,rfl,rfl,g0,g1,g5,g6⟩:=cW hq (aae hf hr n) ⟨0,by
   simp only [XW,hlen,Nat.add_zero];rw [jd]
   ·simp only [go_sem,ya];rfl
   ·simp only [go_sem,ya];exact ⟨⟨by omega,rfl,rfl⟩,trivial,trivial,trivial,trivial,trivial,trivial,trivial⟩
   ·simp only [go_sem,ya,yc,ym],by omega⟩
  simp only [XV hn,BQ,show r*n+n=(r+1)*n by rw [Nat.add_mul,Nat.one_mul]];rw [IE,ku,JS,zm]
  ·simp only [go_sem,ya,g0,g1,g5,g6,show (r:Int)+1=((r+1:Nat):Int) from rfl,wrapN (n:=r+1) (by omega)];refine ⟨_,d-1,rfl,by omega,r+1,?_,by omega⟩;rw [BQ,zm]
   ·simp only [go_sem,ya]
   ·simp only [go_sem,ya];exact ⟨⟨by omega,rfl,rfl⟩,trivial,trivial,trivial,trivial⟩
   ·simp only [go_sem,ya,yc,ym]
  ·simp only [go_sem,g0,g1,g5,g6];exact ⟨⟨by omega,rfl,rfl⟩,trivial,trivial,trivial,trivial⟩
  ·simp only [go_sem,yc,ym,g0,g1,g5,g6]
 ·right
  have:r=n:=by omega
  subst this;simp only [go_sem,ya,nA,show ¬(r:Int)<r by omega];exact ⟨_,_,rfl,by simp,_,_,rfl,rfl⟩
structure BuT (P:aF) (L:Lib):Prop where
 h40:Has P L 40 CP
 h96:Has P L 96 KU
 FI:Has P L 133 zA
def WL (h:BuT P L) (n:Int):b5 P L (D P L) 96 [ab n]=some (.fn (.f 133) [] [.ay [ab n]]):=by
 rw [aR h.h96];simp only [go_sem,ya,yc,KU];rfl
def je (b n:Nat) (fnv:AV) (val:Nat->Nat->AV) (H:Hp):Hp:=
 bg (b+5) (dF val n n)++(b+3,.cells true false true 1 [.au (b+2) 0 n])::(b+2,.cells true false true 1 (er (b+5) n n))::(b+1,.cells true (aI fnv) true 1 [fnv])::(b,.cells true true true 1 [.int .i64 n])::H
def NT {x:Nat}:∀{H:Hp},(∀p,p∈H->p.1≠x)->cw H x=H
 | [],_=>rfl
 | (id,o)::r,h=>by
  rw [cw,cD (h (id,o) (by simp)),yr,NT (fun p hp=>h p (by simp [hp]))]
def aaf (h:BuT P L) {b n:Nat} (hn:0<n) {fnv:AV} {val:Nat->Nat->AV} {Hs:Nat->Hp} (hf:EC P L b n fnv val Hs) (hb:∀p,p∈Hs (n*n)->p.1<b):
  ∃tm ct,D P L CP.body ⟨[(0,ab n),(1,fnv)],Hs 0,b,b⟩=some (.ret,⟨tm,je b n fnv val (Hs (n*n)),ct,b⟩)/\ah tm 4= .au (b+2) 0 n:=by
 have n1:=hf.n1;have fm:=(hf.nK 0).one;have EB:cellsOf fnv=[fnv]:=by cases fnv<;>simp_all [cellsOf,cm]
 have akv:∀ct,o9 ct 1 24 [.aa] (some n) (some n)=some (.au ct 0 n,.cells true true true 1 (yu n .aa)):=fun ct=>by
  rw [Bt (sz:=1) (by omega) (by omega) rfl rfl,Ik];rfl
 have aiU:er (b+5) n 0=yu n .aa:=by simp [er]
 have inner:∃tm ct,D P L zA.body ⟨eV 0 [.fn (.y (b+4)) [] [],.ay [.int .i64 n]],(b+4,.lp (eS b n fnv) [12,13] nG lA 0 .none)::(b+3,.cells true false true 1 [.au (b+2) 0 n])::(b+2,.cells true true true 1 (yu n .aa))::(b+1,.cells true (aI fnv) true 1 [fnv])::(b,.cells true true true 1 [.int .i64 n])::Hs 0,b+5,b+5⟩=
   some (.normal,⟨tm,bg (b+5) (dF val n n)++bN b n n fnv 0 (Hs (n*n)),ct,b+5⟩):=by
  have aT:(b+4,Obj.lp (eS b n fnv) [12,13] nG lA 0 .none)::(b+3,.cells true false true 1 [.au (b+2) 0 n])::(b+2,.cells true true true 1 (yu n .aa))::(b+1,.cells true (aI fnv) true 1 [fnv])::(b,.cells true true true 1 [.int .i64 n])::Hs 0=
    bg (b+5) []++bN b n 0 fnv 0 (Hs 0):=by
   simp only [bg,xu,bN,aiU];rfl
  rw [aT];simp only [go_sem,ya,zA];generalize hq:D P L (.loop [0,1,5,6] nA) _=q;have jd:=fun (tm:Env) (ct:Nat) (live:List Nat)=>Ax (tm:=tm) (ct:=ct) (live:=live) (b:=b) (n:=n) (st:=0) (rs:=[]) (hf.nK 0) (by simp) n1
  simp only [yZ] at jd;obtain ⟨ex,st,rfl,tm,ct,rfl,rfl⟩:=cW hq (YD hn hf n) ⟨0,by
   simp only [dF,yZ,Nat.zero_mul];rw [jd]
   ·simp only [go_sem,ya];rfl
   ·simp only [go_sem,ya];exact ⟨⟨by omega,rfl,rfl⟩,trivial,trivial,trivial,trivial⟩
   ·simp only [go_sem,ya,yc,ym],by omega⟩
  have hlen:(dF val n n).length=n:=oB val n n;have zm:=fun (tm:Env) (ct:Nat) (live:List Nat)=>Ax (tm:=tm) (ct:=ct) (live:=live) (b:=b) (n:=n) (st:=0) (rs:=dF val n n) (hf.nK (n*n)) (by omega) n1
  simp only [hlen] at zm ⊢;simp only [go_sem];rw [zm]
  ·exact ⟨_,_,rfl⟩
  ·simp only [go_sem]
   trivial
  ·simp only [go_sem,ym]
 obtain ⟨tm,ct,inner⟩:=inner;have GO:=SZ (P:=P) (L:=L) (f:= .t 11) (ps:=[12,13]) (as_:=nG) (body:=lA)
  (s:=⟨eS b n fnv,(b+3,.cells true false true 1 [.au (b+2) 0 n])::(b+2,.cells true true true 1 (yu n .aa))::(b+1,.cells true (aI fnv) true 1 [fnv])::(b,.cells true true true 1 [.int .i64 n])::Hs 0,b+4,b⟩)
  (n:=133) (first:=[]) (cap:=[.ay [.int .i64 n]]) rfl h.FI.heap (IM h.FI inner (.inl rfl) rfl) DN (by decide)
 have KP:cw (bg (b+5) (dF val n n)++bN b n n fnv 0 (Hs (n*n))) (b+4)=je b n fnv val (Hs (n*n)):=by
  rw [LM (by omega),je]
  simp only [bN,cw,y9,yi,cD (show b+3≠b+4 by omega),cD (show b+2≠b+4 by omega),cD (show b+1≠b+4 by omega),cD (show b≠b+4 by omega),yr,
   NT (fun p hp=>by have:=hb p hp;omega:∀p,p∈Hs (n*n)->p.1≠b+4),cD (show n≠0 by omega)]
 have hg3:ak (je b n fnv val (Hs (n*n))) (b+3)=some (.cells true false true 1 [.au (b+2) 0 n]):=by
  rw [je,nc (by omega),ak,y9,yi]
 simp only [eS] at GO;simp only [go_sem,ya,yc,CP,EB,SS fm,akv,WL h,Nat.add_assoc,GO,show ¬b+1=b by omega,show ¬b+2=b by omega,show ¬b+3=b by omega];simp only [go_sem,KP,hg3];exact ⟨_,_,rfl,by simp only [go_sem]⟩
def YE {hp:Hp} {id i:Nat} {o:Obj}:ak (aY hp id o) i=if id=i then (if (ak hp id).isSome then some o else none) else ak hp i:=by
 induction hp with
 | nil=>simp [aY,ak]
 | cons x r ih=>
  obtain ⟨j,q⟩:=x;simp only [aY];by_cases hj:j=id
  ·subst hj;simp only [y9,yi,ak];by_cases hi:j=i
   ·subst hi;simp
   ·simp [cD hi,hi]
  ·simp only [cD hj,yr];rw [ak,ih];by_cases hi:j=i
   ·subst hi
    have:¬id=j:=fun h=>hj h.symm
    simp [y9,this,ak]
   ·simp [cD hi,ak,cD hj]
def OL {B n:Nat} {row:Nat->List AV} (hlen:∀i,(row i).length=n):∀(l:List Nat) (k:Nat) (hp:Hp),l.length+3<=k->(∀i,i∈l->∃rw,ak hp (B+i)=some (.cells rw true true 1 (row i)))->
  ∃ai,bS k hp (l.map fun i=> .au (B+i) 0 n)=some (l.map fun i=> .aB true n (row i),ai)
 | [],0,hp,hk,_=>by simp at hk
 | [],k+1,hp,_,_=>⟨hp,rfl⟩
 | i::l,0,hp,hk,_=>by simp at hk
 | i::l,1,hp,hk,_=>by simp at hk
 | i::l,2,hp,hk,_=>by simp at hk
 | i::l,k+3,hp,hk,h=>by
  simp only [yx] at hk;obtain ⟨rw,h1⟩:=h i (by simp);have hf:freeze (k+2) hp (.au (B+i) 0 n)=some (.aB true n (row i),bif rw then aY hp (B+i) (.cells false true true 1 (row i)) else hp):=by
   rw [IF,IG,h1]
   cases rw with
   | true=>rw [Q7,jl true (by rw [hlen,yv]) (by decide)];rfl
   | false=>rw [Q8,jl true (by rw [hlen,yv]) (by decide)];rfl
  obtain ⟨ai,h2⟩:=OL hlen l (k+2) (bif rw then aY hp (B+i) (.cells false true true 1 (row i)) else hp) (by omega) (fun j hj=>by
   obtain ⟨dL,h3⟩:=h j (by simp [hj])
   cases rw with
   | false=>exact ⟨dL,h3⟩
   | true=>
    simp only [yi,YE,h1,Option.isSome_some,yR];by_cases e:B+i=B+j
    ·have:i=j:=by omega
     subst this;exact ⟨false,by rw [yS rfl]⟩
    ·exact ⟨dL,by rw [yE e,h3]⟩)
  exact ⟨ai,by rw [List.map_cons,ND,hf,Q2,h2];rfl⟩
def mF (val:Nat->Nat->AV) (n:Nat):AV:= .aB true n ((yO n).map fun r=> .aB true n ((yO n).map fun c=>val c r))
def NU {val:Nat->Nat->AV} {n:Nat}:∀r,(dF val n r).reverse=(yO r).map fun r=>(yO n).map fun c=>val c r
 | 0=>rfl
 | r+1=>by rw [dF,List.reverse_cons,NU r,uz,xm];rfl
def aag {b n k:Nat} (hn:0<n) (fq:n<=900) {fnv:AV} {val:Nat->Nat->AV} {H:Hp} (hk:903<k):∃ai,freeze (k+2) (je b n fnv val H) (.au (b+2) 0 n)=some (mF val n,ai):=by
 have j0:ak (je b n fnv val H) (b+2)=some (.cells true false true 1 (er (b+5) n n)):=by
  rw [je,nc (by omega),ak,cD (by omega),yr,ak,y9,yi]
 have zq:er (b+5) n n=(yO n).map fun i=> .au (b+5+i) 0 n:=by simp [er]
 have hlen:(dF val n n).length=n:=oB val n n;obtain ⟨ai,h1⟩:=OL (B:=b+5) (n:=n) (row:=fun r=>(yO n).map fun c=>val c r) (fun i=>by simp) (yO n) k (je b n fnv val H) (by simp;omega) (fun i hi=>by
  have dj:i<n:=List.mem_range.1 hi;refine ⟨true,?_⟩;rw [je,HJ (by omega)]
  simp only [NU,List.getElem_map,List.getElem_range])
 rw [IF,IG,j0];have hq:Ch k (b+2) (je b n fnv val H) (some (.cells true false true 1 (er (b+5) n n)))=some (true,1,(yO n).map fun r=> .aB true n ((yO n).map fun c=>val c r),aY ai (b+2) (.cells false false true 1 (er (b+5) n n))):=by
  simp only [Ch,yr,zq,h1]
 rw [hq,jl true (by simp) (by decide)];exact ⟨_,rfl⟩
def aah {b n:Nat} (hn:0<n) (fq:n<=900) {fnv:AV} {val:Nat->Nat->AV} {H:Hp}:result (je b n fnv val H) (.au (b+2) 0 n)=some (mF val n):=by
 have j0:ak (je b n fnv val H) (b+2)=some (.cells true false true 1 (er (b+5) n n)):=by
  rw [je,nc (by omega),ak,cD (by omega),yr,ak,y9,yi]
 obtain ⟨ai,h⟩:=aag (b:=b) (k:=998) hn fq (fnv:=fnv) (val:=val) (H:=H) (by omega);simp only [result,oJ,j0,deep,h]
end
end
section
open Go (IntKind)
section
variable {P:aF} {L:Lib}
def acm (h:BuT P L) {n:Nat} (hn:0<n) (fq:n<=900) {g:Nat} {cap:List AV} {val:Nat->Nat->AV} (hc:az cap=true) (h1:∀c r,cm (val c r)=true) (h2:∀c r,aI (val c r)=true) (h3:∀c r,shut (val c r)=val c r)
  (hg:∀c r,c<n->r<n->aj P L g (ab c::ab r::cap) (val c r)):aj P L 40 [ab n,.fn (.f g) [] cap] (mF val n):=by
 have sa:aI (.fn (.f g) [] cap)=true:=by simp [aI,az,hc]
 have hf:EC P L 0 n (.fn (.f g) [] cap) val (fun _=>[]):=by
  refine ⟨by omega,fun _=>⟨qg sa,by rw [a6 sa];simp,rfl,trivial,fun _=>by simp [cJ]⟩,h1,h2,fun c r sf hr zJ ct _ _ _ _=>?_⟩
  have hp:az (ab c::ab r::cap)=true:=by simp [az,aI,hc]
  have:=hg c r sf hr
  simp only [cK,xu,yH,hp,yi,this,h3,List.append_nil]
 obtain ⟨tm,ct,e,h4⟩:=aaf h hn hf (fun p hp=>by simp at hp);unfold aj;rw [aR h.h40,SR,e,Q0]
 have:fT ⟨tm,je 0 n (.fn (.f g) [] cap) val [],ct,0⟩ CP.dI=some (.au (0+2) 0 n):=by
  show fT _ [.t 4]=_
  rw [JT,Jt,h4]
 rw [this,Q1];exact aah hn fq
def aai (h:BuT P L) {l B n:Nat} (hl:l<B) (hn:n<=1000) {H:Nat->Nat->Hp} (hw:∀r,r<n->H r n=H (r+1) 0) (hb:∀r c,ik B B (H r c)) (hr:∀r c,(cJ B (H r c)).length<=5000)
  (Bw:∀c r,c<n->r<n->fV (D P L) (H r c) B l [ab c,ab r]=some (.bool true,H r (c+1),B)):
  ∃tm,D P L zA.body ⟨[(0,.fn (.y l) [] []),(1,.ay [.int .i64 n])],H 0 0,B,B⟩=some (.normal,⟨tm,H n 0,B,B⟩):=by
 have jd:∀(live:List Nat) (tm:Env) (r c ct:Nat),ij B (cN tm live)->(dP (cN tm live)).length<=1000->bA live ⟨tm,H r c,ct,B⟩=⟨cN tm live,H r c,B,B⟩:=fun live tm r c ct h1 h2=>
  Mg h1 (hb r c) (by have:=hr r c;omega)
 have qZ:∀(xs:List AV) (hp:Hp) (ct:Nat),cK P L (D P L) hp ct .heap (.fn (.y l) [] []) xs=fV (D P L) hp ct l xs:=fun _ _ _=>rfl
 have inner:∀r,r<n->∀d st,(∃c:Nat,bA [0,1,3,5,6,9,10] st=⟨[(0,.fn (.y l) [] []),(1,.ay [.int .i64 n]),(3,ab r),(5,ab n),(6,ab r),(9,ab n),(10,ab c)],H r c,B,B⟩/\c+d=n)->
   ∃ex s',D P L (.loop [0,1,3,5,6,9,10] nw) st=some (ex,s')/\∃tm ct,s'=⟨tm,H r n,ct,B⟩/\ex= .exit 2/\ah tm 0= .fn (.y l) [] []/\ah tm 1= .ay [.int .i64 n]/\ah tm 5=ab n/\ah tm 6=ab r:=by
  intro r dG
  refine dt (I:=fun d st=>∃c:Nat,st=⟨[(0,.fn (.y l) [] []),(1,.ay [.int .i64 n]),(3,ab r),(5,ab n),(6,ab r),(9,ab n),(10,ab c)],H r c,B,B⟩/\c+d=n)
   (Q:=fun ex s'=>∃tm ct,s'=⟨tm,H r n,ct,B⟩/\ex= .exit 2/\ah tm 0= .fn (.y l) [] []/\ah tm 1= .ay [.int .i64 n]/\ah tm 5=ab n/\ah tm 6=ab r) ?_
  rintro d st ⟨c,rfl,LA⟩;by_cases hc:c<n
  ·left
   simp only [go_sem,ya,nw,show (c:Int)<n by omega,qZ,Bw c r hc dG,show (c:Int)+1=((c+1:Nat):Int) from rfl,wrapN (n:=c+1) (by omega)];refine ⟨_,d-1,rfl,by omega,c+1,?_,by omega⟩;rw [jd]
   ·simp only [go_sem,ya]
   ·simp only [go_sem,ya];exact ⟨⟨hl,rfl,rfl⟩,trivial,trivial,trivial,trivial,trivial,trivial,trivial⟩
   ·simp only [go_sem,ya,yc,ym]
  ·right
   have:c=n:=by omega
   subst this;simp only [go_sem,ya,nw,show ¬(c:Int)<c by omega];refine ⟨_,_,rfl,by simp,_,_,rfl,rfl,?_⟩;simp only [go_sem,ya]
   simp
 have outer:∀d st,(∃r:Nat,bA [0,1,5,6] st=⟨[(0,.fn (.y l) [] []),(1,.ay [.int .i64 n]),(5,ab n),(6,ab r)],H r 0,B,B⟩/\r+d=n)->
   ∃ex s',D P L (.loop [0,1,5,6] nA) st=some (ex,s')/\∃tm ct,s'=⟨tm,H n 0,ct,B⟩/\ex= .exit 0:=by
  refine dt (I:=fun d st=>∃r:Nat,st=⟨[(0,.fn (.y l) [] []),(1,.ay [.int .i64 n]),(5,ab n),(6,ab r)],H r 0,B,B⟩/\r+d=n)
   (Q:=fun ex s'=>∃tm ct,s'=⟨tm,H n 0,ct,B⟩/\ex= .exit 0) ?_
  rintro d st ⟨r,rfl,gN⟩;by_cases dG:r<n
  ·left
   simp only [go_sem,ya,nA,show (r:Int)<n by omega];generalize hq:D P L (.loop [0,1,3,5,6,9,10] nw) _=q;obtain ⟨ex,st,rfl,tm,ct,rfl,rfl,g0,g1,g5,g6⟩:=cW hq (inner r dG n) ⟨0,by
    rw [jd]
    ·simp only [go_sem,ya];rfl
    ·simp only [go_sem,ya];exact ⟨⟨hl,rfl,rfl⟩,trivial,trivial,trivial,trivial,trivial,trivial,trivial⟩
    ·simp only [go_sem,ya,yc,ym],by omega⟩
   rw [hw r dG,IE,ku,JS,jd]
   ·simp only [go_sem,ya,g0,g1,g5,g6,show (r:Int)+1=((r+1:Nat):Int) from rfl,wrapN (n:=r+1) (by omega)];refine ⟨_,d-1,rfl,by omega,r+1,?_,by omega⟩;rw [jd]
    ·simp only [go_sem,ya]
    ·simp only [go_sem,ya];exact ⟨⟨hl,rfl,rfl⟩,trivial,trivial,trivial,trivial⟩
    ·simp only [go_sem,ya,yc,ym]
   ·simp only [go_sem,g0,g1,g5,g6];exact ⟨⟨hl,rfl,rfl⟩,trivial,trivial,trivial,trivial⟩
   ·simp only [go_sem,yc,ym,g0,g1,g5,g6]
  ·right
   have:r=n:=by omega
   subst this;simp only [go_sem,ya,nA,show ¬(r:Int)<r by omega];exact ⟨_,_,rfl,by simp,_,_,rfl,rfl⟩
 simp only [go_sem,ya,zA];generalize hq:D P L (.loop [0,1,5,6] nA) _=q;obtain ⟨ex,st,rfl,tm,ct,rfl,rfl⟩:=cW hq (outer n) ⟨0,by
  rw [jd]
  ·simp only [go_sem,ya];rfl
  ·simp only [go_sem,ya];exact ⟨⟨hl,rfl,rfl⟩,trivial,trivial,trivial,trivial⟩
  ·simp only [go_sem,ya,yc,ym],by omega⟩
 simp only [go_sem];rw [jd]
 ·exact ⟨_,rfl⟩
 ·simp only [go_sem]
  trivial
 ·simp only [go_sem,ym]
structure SmP (P:aF) (L:Lib):Prop extends BuT P L,Sq P L where
 h41:Has P L 41 Vu
 GP:Has P L 97 CR
 pc:Has P L 134 rA
end
end
section
open Go (IntKind)
section
variable {P:aF} {L:Lib}
def lX {s:List (List Int)} (h:cV s=0):0<s.length/\s.length<=16/\dZ s.length (-1000) 1000 s=0:=by
 unfold cV at h
 grind
def ahc {n:Nat} (f:Nat->Nat->Int):cf (mF (fun c r=>ab (f c r)) n) (pU n f):=by
 have h1:mF (fun c r=>ab (f c r)) n= .aB true n ((yO n).map fun r=> .aB true n (((yO n).map fun c=>f c r).map ab)):=by
  simp only [mF,List.map_map];rfl
 refine ⟨(yO n).map fun r=> .aB true n (((yO n).map fun c=>f c r).map ab),?_,?_⟩
 ·rw [h1]
  have:=sQ true ((yO n).map fun r=>AV.aB true n (((yO n).map fun c=>f c r).map ab))
  grind
 ·have:∀m:List Nat,gJ aX (m.map fun r=>AV.aB true n (((yO n).map fun c=>f c r).map ab)) (m.map fun r=>(yO n).map fun c=>f c r):=by
   intro m
   induction m with
   | nil=>trivial
   | cons r m ih=>
    refine ⟨?_,ih⟩
    have:=gC true ((yO n).map fun c=>f c r)
    grind
  exact this _
end
end
section
open Go (IntKind)
section
variable {P:aF} {L:Lib}
structure GQ (P:aF) (L:Lib):Prop extends SmP P L where
 hZ:Has P L 20 rX
 GR:Has P L 51 F9
 GS:Has P L 58 Gb
 Ar:Has P L 34 rZ
def cL (n:Int):Int:=if n< -999999999\/999999999<n then 3 else 0
def WM (h:Has P L 51 F9) (Ar:Has P L 34 rZ) (j8:Has P L 31 pP) (n:Int):aj P L 51 [ab n] (ab (cL n)):=by
 unfold aj;rw [aR h];simp only [go_sem,ya,F9,s34 Ar j8,cL]
def s58 (h:GQ P L) {v:AV} {s:List (List Int)} (hv:cf v s) {n:Nat} (hn:s.length=n) (h0:0<n) (hl:n<=16) (hr:∀i (hi:i<s.length),s[i].length=n) {a b:Int} (ha:cL a=0) (hb:cL b=0) {c r:Nat} (hc:c<n) (dG:r<n):
  aj P L 58 [ab c,ab r,.ay [v],.ay [ab a],.ay [ab b]] (ab (bk s (c-a) (r-b))):=by
 have ha: -999999999<=a/\a<=999999999:=by unfold cL at ha;split at ha<;>omega
 have hb: -999999999<=b/\b<=999999999:=by unfold cL at hb;split at hb<;>omega
 have Dc:=V3 h.GP h.pc hv hn h0 (by omega) hr (c-a) (r-b);unfold aj at Dc ⊢;rw [aR h.GS]
 simp only [go_sem,ya,Gb,hv.aE,wrap64 (n:=(c:Int)-a) (by omega) (by omega),wrap64 (n:=(r:Int)-b) (by omega) (by omega),Dc]
def s20 (h:GQ P L) {v:AV} {s:List (List Int)} (hv:cf v s) (hl:s.length<=1000000) (hr:∀i (hi:i<s.length),s[i].length<=1000000) (a b:Int):
  (cu [cV s,cL a,cL b]≠0->aj P L 20 [v,ab a,ab b] (.aw [.aa,ab (cu [cV s,cL a,cL b])]))/\
  (cu [cV s,cL a,cL b]=0->aj P L 20 [v,ab a,ab b] (.aw [mF (fun c r=>ab (bk s (c-a) (r-b))) s.length,ab 0])):=by
 have e4:=s4 h.toSq hv hl hr;have sn:∀a b c:Int,aj P L 33 [.aB true 3 [.int .i64 a,.int .i64 b,.int .i64 c]] (ab (cu [a,b,c])):=fun a b c=>Gu h.CZ (gC true [a,b,c]) (by simp)
 have so:=fun n=>WM h.GR h.Ar h.j8 n
 unfold aj at e4 sn so ⊢;constructor
 ·intro e9;rw [aR h.hZ];simp only [go_sem,ya,yc,yV,ym,yv,rX,hv.pu,hv.aE,hv.one,hv.cells,e4,so,sn,e9]
 ·intro h0;have jX:cV s=0:=by
   simp only [cu] at h0
   split at h0
   ·assumption
   ·assumption
  have Dd:cL a=0:=by
   simp only [cu,jX,yR] at h0
   split at h0
   ·assumption
   ·assumption
  have As:cL b=0:=by
   simp only [cu,jX,Dd,yR] at h0
   split at h0
   ·assumption
   ·assumption
  obtain ⟨a1,a2,a3⟩:=lX jX;have WO:=acm h.toBuT a1 (by omega) (g:=58) (cap:=[.ay [v],.ay [ab a],.ay [ab b]]) (val:=fun c r=>ab (bk s (c-a) (r-b))) (by simp [az,aI]) (fun _ _=>rfl) (fun _ _=>rfl) (fun _ _=>rfl) (fun c r hc hr=>s58 h hv rfl a1 a2 (fun i hi=>(mc a3 i hi).1) Dd As hc hr);unfold aj at WO;rw [aR h.hZ];simp only [go_sem,ya,yc,yV,ym,yv,rX,hv.len,hv.pu,hv.aE,hv.one,hv.cells,e4,so,sn,h0,WO,mF]
end
end
end VE
