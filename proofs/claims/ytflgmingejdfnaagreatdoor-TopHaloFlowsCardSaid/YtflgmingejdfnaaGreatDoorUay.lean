import Derived.Test.YtflgmingejdfnaaGreatDoorUax
import Derived.Test.YtflgmingejdfnaaGreatDoorUav
import Derived.Test.YtflgmingejdfnaaGreatDoorUap
import Derived.Test.YtflgmingejdfnaaGreatDoorUal
set_option linter.all false
set_option maxRecDepth 100000
open Bool renaming and_eq_true→yg,and_self→wi,and_true→uD,false_and→xA,false_or→vI,not_false→yI,not_true→yM,true_and→xv,true_eq_false→yap,true_or→yaM
open Int renaming natAbs_natCast→wk
open List renaming append_nil→wg,drop→xz,drop_eq_getElem_cons→yT,drop_eq_nil_of_le→xh,drop_zero→yj,length_cons→yy,length_drop→wA,length_nil→yG,length_take→yS,map_cons→y8,map_nil→wq,take_length→xW
open Nat renaming ble→yE,ble_eq_true_of_le→yu,gcd→wj,le_of_ble_eq_true→yC,le_refl→yB,le_trans→xp,lt_of_lt_of_le→yL,mul_one→yi,one_lt_two_pow→vU,pow_le_pow_right→xk,reduceAdd→yb,reduceEqDiff→ya,reduceLT→yt,reduceLeDiff→ye,zero_add→yd
open Rat renaming den_intCast→vR,floor_def→ybM,mul_comm→wU,num_intCast→vh,one_mul→uY
namespace VE
section
open Go (IntKind)
def aby {P:aI} {L:Lib} (a b c d:VC) (s:St):D P L (.seq a (.seq b (.seq c d))) s=qc P L (D P L (.seq a (.seq b c)) s) d:=by
 have e:=DC (P:=P) (L:=L) b c d;rw [kE,kE]
 cases D P L a s with
 | none=>rfl
 | some q=>
  obtain ⟨ex,st⟩:=q
  cases ex with
  | normal=>rw [gG,gG];exact e st
  | ret=>rfl
  | exit id=>rfl
def oN {a b:List Nat} (h:a≠b):cN a b=false:=by
 cases hb:cN a b with
 | false=>rfl
 | true=>exact absurd (Tu hb) h
def acE:∀a:List Nat,cN a a=true
 | []=>rfl
 | x::a=>by simp [cN,acE a]
def UE {a b:List Nat} (h:a=b):cN a b=true:=h▸acE a
def anx {s:List Nat} {i:Nat} (h:i<s.length):dO (s.drop i)=(yE 48 s[i]&&yE s[i] 57&&dO (s.drop (i+1))):=by
 rw [yT h];rfl
section
variable {P:aI} {L:Lib}
def ayI (h:Has P L 287 KV) {s:List Nat} (hl:s.length<=1000000000000):af P L 287 [.str s] (.bool (dO s)):=by
 have key:=cg (P:=P) (L:=L) (live:=[0,3]) (a:=DQ)
  (I:=fun k st=>∃i:Nat,st=⟨[(0,.str s),(3,aa i)],[],0,0⟩/\i+k=s.length/\dO (s.drop i)=dO s)
  (Q:=fun ex st=>∃tm ct,st=⟨tm,[],ct,0⟩/\((ex= .ret/\ab tm 2= .bool false/\dO s=false)\/(ex= .exit 0/\dO s=true))) ?_
 ·unfold af;rw [aq h];simp only [go_sem,KV];generalize hq:D P L (.loop [0,3] DQ) _=q;obtain ⟨ex,st,rfl,tm,ct,rfl,h2⟩:=bV hq (key s.length) ⟨0,by simp only [go_sem,ya,av]<;>rfl,by omega,by simp⟩
  rcases h2 with ⟨rfl,h2,h3⟩ | ⟨rfl,h3⟩
  ·simp only [go_sem,h2,h3]
  ·simp only [go_sem,av,h3]
 ·rintro k st ⟨i,rfl,hk,hs⟩;by_cases hi:i<s.length
  ·rw [anx hi] at hs;by_cases h1:s[i]<48
   ·right
    have e:yE 48 s[i]=false:=by
     cases hb:yE 48 s[i] with
     | false=>rfl
     | true=>have:=yC hb;omega
    rw [e,xA,xA] at hs;simp only [go_sem,ya,DQ,show (i:Int)<s.length by omega,rA hi,show ((s[i]:Nat):Int)<48 by omega,yq];exact ⟨_,_,rfl,by simp,_,_,rfl,.inl ⟨rfl,by simp only [go_sem],hs.symm⟩⟩
   ·by_cases h2:57<s[i]
    ·right
     have e:yE s[i] 57=false:=by
      cases hb:yE s[i] 57 with
      | false=>rfl
      | true=>have:=yC hb;omega
     rw [e,Bool.and_false,xA] at hs;simp only [go_sem,ya,DQ,show (i:Int)<s.length by omega,rA hi,show ¬((s[i]:Nat):Int)<48 by omega,yp,show (57:Int)<((s[i]:Nat):Int) by omega];exact ⟨_,_,rfl,by simp,_,_,rfl,.inl ⟨rfl,by simp only [go_sem],hs.symm⟩⟩
    ·left
     rw [yu (show 48<=s[i] by omega),yu (show s[i]<=57 by omega),xv,xv] at hs;simp only [go_sem,ya,DQ,show (i:Int)<s.length by omega,rA hi,show ¬((s[i]:Nat):Int)<48 by omega,yp,show ¬(57:Int)<((s[i]:Nat):Int) by omega];refine ⟨_,k-1,rfl,by omega,i+1,?_,by omega,hs⟩;rw [wrap64 (by omega) (by omega)];simp only [go_sem,ya,av]<;>rfl
  ·right
   simp only [go_sem,ya,DQ,show ¬(i:Int)<s.length by omega];refine ⟨_,_,rfl,by simp,_,_,rfl,.inr ⟨rfl,?_⟩⟩;rw [<-hs,xh (by omega)];rfl
def Wr (h:Has P L 273 En) (Ls:Has P L 287 KV) {s:List Nat} (hl:s.length<=1000000000000):af P L 273 [.str s] (.bool (dX s)):=by
 have e:=ayI Ls hl;unfold af at e ⊢;rw [aq h]
 match s,hl,e with
 | [],_,_=>
  simp only [go_sem,ya,En,yG,show ((0:Nat):Int)=0 from rfl,yq];rfl
 | [b],_,e=>
  have:dX [b]=dO [b]:=by simp [dX]
  rw [this];simp only [go_sem,ya,En,yy,yG,yd,show ¬((1:Nat):Int)=0 by decide,show ¬(1:Int)<((1:Nat):Int) by decide,yp,e]
 | b::c::r,hl,e=>
  have hd:dX (b::c::r)=(dO (b::c::r)&& !(Nat.beq b 48)):=by simp [dX]
  rw [hd];by_cases hb:b=48
  ·subst hb;simp only [go_sem,ya,En,yy,show ¬((r.length+1+1:Nat):Int)=0 by omega,yp,show (1:Int)<((r.length+1+1:Nat):Int) by omega,show nX 0 (.str (48::c::r))=some (.int .u8 48) from rfl,yq]
   simp
  ·have:Nat.beq b 48=false:=cP hb
   rw [this,yI,uD];simp only [go_sem,ya,En,yy,show ¬((r.length+1+1:Nat):Int)=0 by omega,yp,show (1:Int)<((r.length+1+1:Nat):Int) by omega,show nX 0 (.str (b::c::r))=some (.int .u8 (b:Nat)) from rfl,show ¬((b:Nat):Int)=48 by omega,e]
def acF {s:List Nat} {k:Nat} (h:k<=s.length):iK s (some 0) (some k)=some (.str (s.take k)):=by
 rw [mz (by omega) h,yj]
def NT {s:List Nat} {k:Nat} (h:k<=s.length):iK s (some k) (some s.length)=some (.str (s.drop k)):=by
 rw [mz h (yB _),xW]
def avb (h:Rm P L) {t:List Nat} {k:Nat} (hk:k=cr t) (hl:t.length<=1000000000) (hp:dX (t.take k)=true) {tm:Env} (t3:ab tm 3= .str t) (t4:ab tm 4=aa k):
  ia [.t 2] (D P L (aD (aD (aD (aD (aD dU.body))))) ⟨tm,[],0,0⟩)=some (aa (
   if k<t.length/\(dX (t.drop (k+1))=false\/t.drop (k+1)=[48]\/t.drop (k+1)=[49]) then 1
   else if 600<k\/600<t.length-k-1 then 4
   else if k<t.length/\wj (fP (t.take k)) (fP (t.drop (k+1)))≠1 then 1
   else 0)):=by
 have Yf:k<=t.length:=by rw [hk];exact Jr t
 have e3:=Wr h.Wq h.Ls (s:=t.drop (k+1)) (by rw [wA];omega);unfold af at e3;have Dk:(k:Int)+1=((k+1:Nat):Int):=rfl;by_cases hs:k<t.length
 ·have c2:=NT (s:=t) (k:=k+1) (by omega);have lf:=Zu t (by omega);rw [<-hk] at lf;have Mz:(t.drop (k+1)).length=t.length-k-1:=by rw [wA];omega
  have hlp:(t.take k).length=k:=by rw [yS];omega
  generalize hqe:t.drop (k+1)=q at*
  generalize hpe:t.take k=p at*
  cases hd:dX q with
  | false=>
   rw [yF ⟨hs,.inl rfl⟩];rw [hd] at e3
   simp only [go_sem,ya,dU,aD,t3,t4,show (k:Int)<(t.length:Int) by omega,yq,Dk,wrapN (n:=k+1) (by omega),fg,fw,eh,c2,e3,yI]
  | true=>
   rw [hd] at e3;by_cases j0:q=[48]
   ·rw [yF ⟨hs,.inr (.inl j0)⟩]
    simp only [go_sem,ya,dU,aD,t3,t4,show (k:Int)<(t.length:Int) by omega,yq,Dk,wrapN (n:=k+1) (by omega),fg,fw,eh,c2,e3,yM,iQ,UE j0]
   ·by_cases nM:q=[49]
    ·rw [yF ⟨hs,.inr (.inr nM)⟩]
     simp only [go_sem,ya,dU,aD,t3,t4,show (k:Int)<(t.length:Int) by omega,yq,Dk,wrapN (n:=k+1) (by omega),fg,fw,eh,c2,e3,yM,iQ,oN j0,UE nM]
    ·rw [yr (by simp only [hs,uN,yap,ybL];exact fun e=>e.elim j0 nM)]
     by_cases EH:600<k
     ·rw [yF (.inl EH)]
      simp only [go_sem,ya,dU,aD,t3,t4,show (k:Int)<(t.length:Int) by omega,yq,Dk,wrapN (n:=k+1) (by omega),fg,fw,eh,c2,e3,yM,iQ,oN j0,oN nM,show (600:Int)<(k:Int) by omega]
     ·by_cases ayJ:600<t.length-k-1
      ·rw [yF (.inr ayJ)]
       simp only [go_sem,ya,dU,aD,t3,t4,show (k:Int)<(t.length:Int) by omega,yq,Dk,wrapN (n:=k+1) (by omega),fg,fw,eh,c2,e3,yM,iQ,oN j0,oN nM,show ¬(600:Int)<(k:Int) by omega,yp,show (t.length:Int)-(k:Int)=((t.length-k:Nat):Int) by omega,wrapN (n:=t.length-k) (by omega),show ((t.length-k:Nat):Int)-1=((t.length-k-1:Nat):Int) by omega,wrapN (n:=t.length-k-1) (by omega),show (600:Int)<((t.length-k-1:Nat):Int) by omega]
      ·rw [yr (by omega)];have sB:=Fy _ rfl hp;have pD:=Fy _ rfl hd;have gN:fP q≠0:=fun e=>j0 (by rw [<-pD,e];rfl)
       have jW:fP q≠1:=fun e=>nM (by rw [<-pD,e];rfl)
       generalize fP p=n at*
       generalize fP q=d at*
       have hT:TT (n:Int) d=t:=by
        unfold TT;rw [lJ,yr jW,sB,pD];exact lf.symm
       obtain ⟨x,y,e4,hx,hy⟩:=ait h.toRb (n:=(n:Int)) (d:=d) (by rw [wk,sB];omega) (by rw [pD];omega);rw [hT] at e4;obtain ⟨xw,xl,rfl,fb,dx,nx,vx⟩:=hx;obtain ⟨yw,yl,rfl,fc,dy,ny,vy⟩:=hy;rw [wk] at vx vy;have qR:n<10^p.length:=by rw [<-sB];exact JL n
       have hdb:d<10^q.length:=by rw [<-pD];exact JL d
       obtain ⟨K,hK⟩:∃K:Nat,K=600:=⟨_,rfl⟩;have Q4:∀{m j:Nat},m<10^j->j<=K->m<1000000000^K:=fun {m j} h1 h2=>
        yL h1 (xp (xk (by decide) h2) (Nat.pow_le_pow_left (by decide) K))
       have lxl:=jQ dx nx (by rw [vx];exact Q4 qR (by omega))
       have lyl:=jQ dy ny (by rw [vy];exact Q4 hdb (by omega))
       obtain ⟨g,lg,e5,hg,dgg,ngg,vg⟩:=ahb h.aik h.Lq h.mh h.oX h.qB h.dj h.rO fb fc dx dy nx ny (by omega) (by omega);rw [vx,vy] at vg;have LR:0<wj n d:=Nat.gcd_pos_of_pos_right _ (by omega);unfold af at e4 e5;by_cases Ws:lg.length=1
       ·obtain ⟨z,rfl⟩:∃z,lg=[z]:=by
         cases lg with
         | nil=>simp at Ws
         | cons z r=>cases r with
          | nil=>exact ⟨z,rfl⟩
          | cons y r=>simp at Ws
        have gz:=lP.1 dgg;have ME:z=(wj n d:Nat):=by simp [dv] at vg;omega
        have e8:=hg.aY (i:=0) (by simp);simp only [List.getElem_cons_zero] at e8;by_cases iM:wj n d=1
        ·rw [yr (by simp [iM])]
         simp only [go_sem,ya,yb,dU,aD,t3,t4,show (k:Int)<(t.length:Int) by omega,yq,Dk,wrapN (n:=k+1) (by omega),fg,fw,eh,c2,e3,yM,iQ,oN j0,oN nM,show ¬(600:Int)<(k:Int) by omega,yp,show (t.length:Int)-(k:Int)=((t.length-k:Nat):Int) by omega,wrapN (n:=t.length-k) (by omega),show ((t.length-k:Nat):Int)-1=((t.length-k-1:Nat):Int) by omega,wrapN (n:=t.length-k-1) (by omega),show ¬(600:Int)<((t.length-k-1:Nat):Int) by omega,e4,aG,fb.pu,fb.ah,fb.one,fc.pu,fc.ah,fc.one,fB,aZ,yd,cC,e5,hg.len,hg.shut,yy,yG,show ((1:Nat):Int)=(1:Int) from rfl,yM,e8,ME,iM]
        ·rw [yF ⟨hs,iM⟩]
         simp only [go_sem,ya,yb,dU,aD,t3,t4,show (k:Int)<(t.length:Int) by omega,yq,Dk,wrapN (n:=k+1) (by omega),fg,fw,eh,c2,e3,yM,iQ,oN j0,oN nM,show ¬(600:Int)<(k:Int) by omega,yp,show (t.length:Int)-(k:Int)=((t.length-k:Nat):Int) by omega,wrapN (n:=t.length-k) (by omega),show ((t.length-k:Nat):Int)-1=((t.length-k-1:Nat):Int) by omega,wrapN (n:=t.length-k-1) (by omega),show ¬(600:Int)<((t.length-k-1:Nat):Int) by omega,e4,aG,fb.pu,fb.ah,fb.one,fc.pu,fc.ah,fc.one,fB,aZ,yd,cC,e5,hg.len,hg.shut,yy,yG,show ((1:Nat):Int)=(1:Int) from rfl,yM,e8,ME,show ¬((wj n d:Nat):Int)=1 by omega,yI]
       ·have iM:wj n d≠1:=fun e=>Ws (by
         have h1:lg.length<=1:=ad6 dgg ngg (by omega);have h2:0<lg.length:=by
          rcases Nat.eq_zero_or_pos lg.length with h0 | h0
          ·rw [List.eq_nil_of_length_eq_zero h0] at vg;simp [dv] at vg;omega
          ·exact h0
         omega)
        rw [yF ⟨hs,iM⟩]
        simp only [go_sem,ya,yb,dU,aD,t3,t4,show (k:Int)<(t.length:Int) by omega,yq,Dk,wrapN (n:=k+1) (by omega),fg,fw,eh,c2,e3,yM,iQ,oN j0,oN nM,show ¬(600:Int)<(k:Int) by omega,yp,show (t.length:Int)-(k:Int)=((t.length-k:Nat):Int) by omega,wrapN (n:=t.length-k) (by omega),show ((t.length-k:Nat):Int)-1=((t.length-k-1:Nat):Int) by omega,wrapN (n:=t.length-k-1) (by omega),show ¬(600:Int)<((t.length-k-1:Nat):Int) by omega,e4,aG,fb.pu,fb.ah,fb.one,fc.pu,fc.ah,fc.one,fB,aZ,yd,cC,e5,hg.len,hg.shut,show ¬(lg.length:Int)=1 by omega,yI]
 ·have hkt:k=t.length:=by omega
  rw [yr (by omega)];by_cases EH:600<k
  ·rw [yF (.inl EH)];simp only [go_sem,ya,dU,aD,t3,t4,show ¬(k:Int)<(t.length:Int) by omega,yp,show (600:Int)<(k:Int) by omega,yq]
  ·rw [yr (by omega),yr (by omega)]
   simp only [go_sem,ya,dU,aD,t3,t4,show ¬(k:Int)<(t.length:Int) by omega,yp,show ¬(600:Int)<(k:Int) by omega,show (t.length:Int)-(k:Int)=((t.length-k:Nat):Int) by omega,wrapN (n:=t.length-k) (by omega),show ((t.length-k:Nat):Int)-1= -1 by omega,show IntKind.wrap .i64 (-1)= -1 by rfl,show ¬(600:Int)<(-1:Int) by omega]
def afY (h:Rm P L) {b:Nat} {r:List Nat} {t:List Nat} {neg:Bool} (fY:decide (((b:Nat):Int)=45)=neg) (hl:t.length<=1000000000) {tm:Env} (t0:ab tm 0= .str (b::r)) (t3:ab tm 3= .str t):
  ia [.t 2] (D P L (aD (aD (aD dU.body))) ⟨tm,[],0,0⟩)=some (aa (nD neg t)):=by
 obtain ⟨k,hk⟩:∃k,k=cr t:=⟨_,rfl⟩;have Yf:k<=t.length:=by rw [hk];exact Jr t
 have e1:=GV h.CE (s:=t) (by omega);have e2:=Wr h.Wq h.Ls (s:=t.take k) (by rw [yS];omega);unfold nD;rw [<-hk] at e1 ⊢;have c1:=acF Yf;have hI:nX 0 (.str (b::r))=some (.int .u8 (b:Nat)):=rfl;generalize hp:t.take k=p at*
 generalize hq:t.drop (k+1)=q at*
 cases hd:dX p with
 | false=>
  rw [yF (.inl rfl)];rw [hd] at e2;simp only [go_sem,ya,dU,aD,t3,e1,fg,fw,eh,c1,e2,yI]
 | true=>
  rw [hd] at e2;by_cases hz:neg=true/\p=[48]
  ·rw [yF (.inr hz)];obtain ⟨z1,z2⟩:=hz;rw [z1] at fY;have hb:=of_decide_eq_true fY;subst z2;simp only [go_sem,ya,dU,aD,t0,t3,e1,fg,fw,eh,c1,e2,yM,hI,hb,yq,iQ,show cN [48] [48]=true from rfl]
  ·rw [yr (by simp only [yap,ybL];exact hz)]
   have fin:∀tm',ab tm' 3= .str t->ab tm' 4=aa k->D P L (.seq (bP (aD (aD (aD dU.body)))) (bP (aD (aD (aD (aD dU.body)))))) ⟨tm,[],0,0⟩=some (.normal,⟨tm',[],0,0⟩)->ia [.t 2] (D P L (aD (aD (aD dU.body))) ⟨tm,[],0,0⟩)=some (aa (
     if k<t.length/\(dX q=false\/q=[48]\/q=[49]) then 1
     else if 600<k\/600<t.length-k-1 then 4
     else if k<t.length/\wj (fP p) (fP q)≠1 then 1
     else 0)):=fun tm' f3 f4 e=>by
    show ia [.t 2] (D P L (.seq (bP (aD (aD (aD dU.body)))) (.seq (bP (aD (aD (aD (aD dU.body))))) (aD (aD (aD (aD (aD dU.body))))))) ⟨tm,[],0,0⟩)=_
    rw [DC,e,gG,<-hp,<-hq];exact avb h hk hl (by rw [hp];exact hd) f3 f4
   by_cases hb:((b:Nat):Int)=45
   ·have ayK:p≠[48]:=fun e=>hz ⟨by rw [<-fY];exact xi hb,e⟩
    refine fin _ ?_ ?_ (by simp only [go_sem,ya,dU,bP,aD,t0,t3,e1,fg,fw,eh,c1,e2,yM,hI,hb,yq,iQ,oN ayK]<;>rfl)<;>simp only [go_sem,ya,t3]
   ·refine fin _ ?_ ?_ (by simp only [go_sem,ya,dU,bP,aD,t0,t3,e1,fg,fw,eh,c1,e2,yM,hI,hb,yp]<;>rfl)<;>simp only [go_sem,ya,t3]
def G3 (h:Rm P L) {s:List Nat} (hl:s.length<=1000000000):af P L 263 [.str s] (aa (aX s)):=by
 unfold af;rw [aq h.ayC]
 cases s with
 | nil=>
  have e1:=GV h.CE (s:=[]) (by simp);have e2:=Wr h.Wq h.Ls (s:=[]) (by simp);have hc:iK [] (some 0) (some 0)=some (.str []):=rfl;simp only [go_sem,ya,dU,yG,show ¬(0:Int)<((0:Nat):Int) by decide,yp,e1,cr,fg,fw,eh,hc,e2,show dX []=false from rfl,yI];rfl
 | cons b t=>
  have CZ:t.length+1<=1000000000:=by simpa using hl
  have hI:nX 0 (.str (b::t))=some (.int .u8 (b:Nat)):=rfl;by_cases hb:b=45
  ·subst hb;have fin:∀tm',ab tm' 0= .str (45::t)->ab tm' 3= .str t->D P L (.seq (bP dU.body) (.seq (bP (aD dU.body)) (bP (aD (aD dU.body))))) ⟨[(0,.str (45::t))],[],0,0⟩=some (.normal,⟨tm',[],0,0⟩)->ia [.t 2] (D P L dU.body ⟨[(0,.str (45::t))],[],0,0⟩)=some (aa (aX (45::t))):=fun tm' f0 f3 e=>by
    show ia [.t 2] (D P L (.seq (bP dU.body) (.seq (bP (aD dU.body)) (.seq (bP (aD (aD dU.body))) (aD (aD (aD dU.body)))))) ⟨[(0,.str (45::t))],[],0,0⟩)=_
    rw [aby,e,gG]
    exact afY h (b:=45) rfl (by omega) f0 f3
   have hc:iK (45::t) (some 1) (some (t.length+1))=some (.str t):=by
    have:=NT (s:=45::t) (k:=1) (by simp)
    simpa using this
   refine fin _ ?_ ?_ (by simp only [go_sem,ya,dU,bP,aD,yy,show (0:Int)<((t.length+1:Nat):Int) by omega,yq,Es,fg,fw,eh,hc]<;>rfl)<;>simp only [go_sem,ya]
  ·have fin:∀tm',ab tm' 0= .str (b::t)->ab tm' 3= .str (b::t)->D P L (.seq (bP dU.body) (.seq (bP (aD dU.body)) (bP (aD (aD dU.body))))) ⟨[(0,.str (b::t))],[],0,0⟩=some (.normal,⟨tm',[],0,0⟩)->ia [.t 2] (D P L dU.body ⟨[(0,.str (b::t))],[],0,0⟩)=some (aa (aX (b::t))):=fun tm' f0 f3 e=>by
    show ia [.t 2] (D P L (.seq (bP dU.body) (.seq (bP (aD dU.body)) (.seq (bP (aD (aD dU.body))) (aD (aD (aD dU.body)))))) ⟨[(0,.str (b::t))],[],0,0⟩)=_
    rw [aby,e,gG]
    have:=afY h (b:=b) (neg:=false) (yR (by omega)) (by simpa using hl) f0 f3
    rw [this];simp only [aX,yr hb]
   refine fin _ ?_ ?_ (by simp only [go_sem,ya,dU,bP,aD,yy,show (0:Int)<((t.length+1:Nat):Int) by omega,yq,hI,show ¬((b:Nat):Int)=45 by omega]<;>rfl)<;>simp only [go_sem,ya]
end
end
section
open Go (IntKind)
def jJ (v:AV) (l:List (List Nat)):Prop:=dn v (l.map AV.str)
section
variable {v:AV} {l:List (List Nat)}
def jJ.len (h:jJ v l) {hp:Hp}:im hp 1 v=some (.int .i64 (l.length:Nat)):=by
 have:=dn.len (hp:=hp) h
 grind
def jJ.pu (h:jJ v l):aS v=true:=dn.pu h
def jJ.ah (h:jJ v l) (n:Nat) {hp:Hp}:freeze (n+1) hp v=some (v,hp):=dn.ah h n
def jJ.shut (h:jJ v l):VE.shut v=v:=dn.shut h
def jJ.bN (h:jJ v l):VE.bN v=v:=dn.bN h
def jJ.dM (h:jJ v l) {hp:Hp}:result hp v=some v:=dn.dM h
def jJ.one (h:jJ v l):bE v=true:=dn.one h
def jJ.cells (h:jJ v l):cellsOf v=[v]:=dn.cells h
def jJ.aY (h:jJ v l) {i:Nat} (hi:i<l.length):iF 1 i v=some (.bi (.str l[i]::(l.map AV.str).drop (i+1))):=by
 have:=dn.aY h (i:=i) (by simpa using hi)
 grind
def aea (e:Bool) (l:List (List Nat)):jJ (.aO e l.length (l.map AV.str)) l:=by
 have:=FK e (l.map AV.str)
 rwa [List.length_map] at this
end
section
variable {P:aI} {L:Lib}
def asd (h:Rm P L) {a:Rat} {K:Nat} (ka:Hq K a) (hK:K<=4000000000):bY P L (D P L) 284 [.str (RT a)]=some (.str (aW a.num))/\bY P L (D P L) 285 [.str (aW a.num)]=some (.str (an a.num.natAbs))/\bY P L (D P L) 286 [.str (RT a)]=some (.str (an a.den)):=by
 have hl:=DY ka;have e0:=GV h.CE (s:=RT a) (by omega);have mK:cr (RT a)=(aW a.num).length/\(RT a).take (aW a.num).length=aW a.num:=by
  unfold RT;by_cases hd:a.den=1
  ·rw [yF hd,wg]
   have:=I9 a.num []
   rw [wg] at this;exact ⟨by rw [this];simp [cr],xW⟩
  ·rw [yr hd];exact ⟨by rw [I9];simp [cr],List.take_left⟩
 obtain ⟨eR,zP⟩:=mK;rw [eR] at e0;have hlen:(aW a.num).length<=(RT a).length:=by unfold RT;simp
 have e1:bY P L (D P L) 284 [.str (RT a)]=some (.str (aW a.num)):=by
  rw [aq h.ayD]
  have:=acF (s:=RT a) hlen
  simp only [go_sem,ya,VI,e0,fg,fw,eh,this,zP]
 have hT:aW a.num=TT a.num 1:=by unfold TT;simp
 have e2:bY P L (D P L) 285 [.str (aW a.num)]=some (.str (an a.num.natAbs)):=by
  have e:=ahf h (n:=a.num) (d:=1) (by rw [<-hT];omega) (fun _=>rfl);rw [<-hT] at e;rw [aq h.ayE];by_cases h0:a.num<0
  ·have es:cA a.num= -1:=by unfold cA;rw [yF h0]
   rw [es] at e;rw [kS h0] at e ⊢;have hc:=NT (s:=45::an a.num.natAbs) (k:=1) (by simp);simp only [List.drop_succ_cons,yj,yy] at hc;simp only [go_sem,ya,PO,e,show (-1:Int)<0 by decide,fg,fw,eh,hc]
  ·have es:¬cA a.num<0:=by unfold cA;rw [yr h0];split<;>decide
   have hi:aW a.num=an a.num.natAbs:=by
    obtain ⟨m,hm⟩:∃m:Nat,a.num=m:=⟨a.num.toNat,by omega⟩;rw [hm,lJ,wk]
   simp only [go_sem,ya,PO,e,es];rw [hi]
 have e3:bY P L (D P L) 286 [.str (RT a)]=some (.str (an a.den)):=by
  rw [aq h.ayF];by_cases hd:a.den=1
  ·have hR:(RT a).length=(aW a.num).length:=by unfold RT;rw [yF hd];simp
   rw [hd,show an 1=[49] by decide];simp only [go_sem,ya,PP,e0,show ((aW a.num).length:Int)=((RT a).length:Int) by omega,yq]
  ·have hR:RT a=(aW a.num++[47])++an a.den:=by unfold RT;rw [yr hd];simp
   have hRl:(RT a).length=(aW a.num).length+1+(an a.den).length:=by rw [hR];simp;omega
   have hc:=NT (s:=RT a) (k:=(aW a.num).length+1) (by omega);have iO:(RT a).drop ((aW a.num).length+1)=an a.den:=by
    rw [hR,show (aW a.num).length+1=(aW a.num++[47]).length by simp,List.drop_left]
   rw [iO] at hc
   simp only [go_sem,ya,PP,e0,show ¬((aW a.num).length:Int)=((RT a).length:Int) by omega,show ((aW a.num).length:Int)+1=(((aW a.num).length+1:Nat):Int) from rfl,wrapN (n:=(aW a.num).length+1) (by omega),fg,fw,eh,hc]
 exact ⟨e1,e2,e3⟩
def anz {l:List (List Nat)} {i:Nat} (h:i<l.length):bn ((l.drop i).map aX)=if aX l[i]=0 then bn ((l.drop (i+1)).map aX) else aX l[i]:=by
 rw [yT h];rfl
def awG (h:Rm P L) (Wt:Has P L 261 PI) {v:AV} {l:List (List Nat)} (hv:jJ v l) (hl:l.length<=1000000) (hs:∀s,s∈l->s.length<=1000000000):af P L 261 [v] (aa (bn (l.map aX))):=by
 have key:=cg (P:=P) (L:=L) (live:=[0,3]) (a:=FZ)
  (I:=fun k st=>∃i:Nat,st=⟨[(0,v),(3,aa i)],[],0,0⟩/\i+k=l.length/\bn ((l.drop i).map aX)=bn (l.map aX))
  (Q:=fun ex st=>∃tm ct,st=⟨tm,[],ct,0⟩/\((ex= .ret/\ab tm 2=aa (bn (l.map aX)))\/(ex= .exit 0/\bn (l.map aX)=0))) ?_
 ·unfold af;rw [aq Wt];simp only [go_sem,PI];generalize hq:D P L (.loop [0,3] FZ) _=q;obtain ⟨ex,st,rfl,tm,ct,rfl,h2⟩:=bV hq (key l.length) ⟨0,by simp only [go_sem,ya,av,az hv.pu,aE _ hv.pu]<;>rfl,by omega,by simp⟩
  rcases h2 with ⟨rfl,h2⟩ | ⟨rfl,h3⟩
  ·simp only [go_sem,h2]
  ·simp only [go_sem,av,h3]
 ·rintro k st ⟨i,rfl,hk,hd⟩;by_cases hi:i<l.length
  ·rw [anz hi] at hd;have e1:=G3 h (hs l[i] (List.getElem_mem hi));have ev:=hv.aY hi;by_cases h1:aX l[i]=0
   ·left
    rw [yF h1] at hd;rw [h1] at e1;simp only [go_sem,ya,FZ,hv.len,show (i:Int)<l.length by omega,ev,e1,yq,yM];refine ⟨_,k-1,rfl,by omega,i+1,?_,by omega,hd⟩;rw [wrap64 (by omega) (by omega)];simp only [go_sem,ya,av,az hv.pu,aE _ hv.pu]<;>rfl
   ·right
    rw [yr h1] at hd;simp only [go_sem,ya,FZ,hv.len,show (i:Int)<l.length by omega,ev,e1,h1,yp,yI];refine ⟨_,_,rfl,by simp,_,_,rfl,.inl ⟨rfl,?_⟩⟩;rw [<-hd];simp only [go_sem]
  ·right
   simp only [go_sem,ya,FZ,hv.len,show ¬(i:Int)<l.length by omega];refine ⟨_,_,rfl,by simp,_,_,rfl,.inr ⟨rfl,?_⟩⟩;rw [<-hd,xh (by omega)];rfl
end
end
section
open Go (IntKind)
open Classical in
noncomputable def aB (s:List Nat):Rat:=if h:aX s=0 then Classical.choose (auU h) else 0
def DD {s:List Nat} (h:aX s=0):s=RT (aB s)/\(an (aB s).num.natAbs).length<=600/\(an (aB s).den).length<=600:=by
 unfold aB
 grind
def Nw {z:Int} {k M:Nat} (h:(an z.natAbs).length<=k) (hM:4*k<=M):Bd M z:=by
 have h1:=JL z.natAbs;have h2:=JM (an z.natAbs).length;have h3:(2:Nat)^(4*(an z.natAbs).length)<=2^M:=xk (by decide) (by omega);exact yL h1 (xp h2 h3)
def kj {s:List Nat} (h:aX s=0) {M:Nat} (hM:2400<=M):Hq M (aB s):=by
 obtain ⟨_,h1,h2⟩:=DD h
 exact ⟨Nw h1 (by omega),Nw (z:=((aB s).den:Int)) (by rw [wk];exact h2) (by omega)⟩
noncomputable def iZ (s:List Nat) (least:Int):Int:=if aX s=0 then (if cA (aB s).num<least then 3 else 0) else aX s
def Uc {s:List Nat} {m:Int} (h:iZ s m=0):aX s=0/\m<=cA (aB s).num:=by
 unfold iZ at h
 grind
abbrev gF (x y:List Nat):AV:= .agg [.str x,.str y]
abbrev Yq (a b:Rat):AV:= .agg [.str (RT a),.str (RT b)]
instance (k:Nat) (z:Int):Decidable (Bd k z):=inferInstanceAs (Decidable (z.natAbs<2^k))
def Qc:RT 0=[48]:=by decide
def G4:Hq 2 0:=⟨by decide,by decide⟩
def qC:Hq 2 1:=⟨by decide,by decide⟩
def ase {a:Rat} (h:RT a=[48]):a=0:=by
 unfold RT at h;have hp:=rn a.den;by_cases hd:a.den=1
 ·rw [yF hd,wg] at h;by_cases h0:a.num<0
  ·rw [kS h0] at h;simp at h
  ·obtain ⟨m,hm⟩:∃m:Nat,a.num=m:=⟨a.num.toNat,by omega⟩;rw [hm,lJ] at h;have hv:=sN m;rw [h] at hv;have hv:some 0=some m:=hv
   have:m=0:=by simp_all
   simp_all
 ·rw [yr hd] at h;have hl:=congrArg List.length h
  grind
def afZ (a:Rat):cN (RT a) [48]=decide (a=0):=by
 by_cases h:a=0
 ·subst h;exact UE Qc
 ·rw [yR h];exact oN (fun e=>h (ase e))
structure S0 (P:aI) (L:Lib):Prop extends Rm P L where
 Rv:Has P L 42 QH
 Wt:Has P L 261 PI
 ayL:Has P L 306 VJ
 ayM:Has P L 307 VK
 ayN:Has P L 308 VL
 ayO:Has P L 314 KZ
section
variable {P:aI} {L:Lib}
def aiv (h:S0 P L) {s:List Nat} (hl:s.length<=1000000000) (m:Int):af P L 314 [.str s,aa m] (aa (iZ s m)):=by
 have e1:=G3 h.toRm hl;unfold af at e1 ⊢;rw [aq h.ayO];unfold iZ;by_cases h0:aX s=0
 ·obtain ⟨h1,_⟩:=DD h0;have e2:=Ve h.toRm (kj h0 (yB 2400)) (by omega);rw [<-h1] at e2;rw [h0] at e1;rw [yF h0];by_cases h2:cA (aB s).num<m
  ·rw [yF h2];simp only [go_sem,ya,KZ,e1,yq,e2,h2]
  ·rw [yr h2];simp only [go_sem,ya,KZ,e1,yq,e2,h2]
 ·rw [yr h0];simp only [go_sem,ya,KZ,e1,h0,yp]
def aiw (h:S0 P L) {s:List Nat} (hl:s.length<=1000000000):af P L 307 [.str s] (aa (iZ s 0)):=by
 have e1:=aiv h hl 0;unfold af at e1 ⊢;rw [aq h.ayM];simp only [go_sem,ya,VK,e1]
def Wu (h:S0 P L) {x y:List Nat} (hx:x.length<=1000000000) (hy:y.length<=1000000000):af P L 308 [gF x y] (aa (bn [aX x,aX y])):=by
 have e1:=awG h.toRm h.Wt (aea true [x,y]) (by simp) (fun s hs=>by simp at hs;rcases hs with rfl | rfl<;>assumption)
 simp only [yy,yG,yd,yb,y8,wq] at e1;unfold af at e1 ⊢;rw [aq h.ayN];simp only [go_sem,ya,yb,yt,ye,yi,VL,aG,aZ,yd,cC,e1]
def ayP (h:S0 P L) {x y s:List Nat} (hx:x.length<=1000000000) (hy:y.length<=1000000000) (hs:s.length<=1000000000):af P L 306 [.agg [.str x,.str y,.str s]] (aa (bn [bn [aX x,aX y],iZ s 0])):=by
 have e1:=Wu h hx hy;have e2:=aiw h hs;have e3:=s42 h.Rv (fN true [bn [aX x,aX y],iZ s 0]) (by simp);simp only [yy,yG,yd,yb,y8,wq] at e3;unfold af at e1 e2 ⊢;rw [aq h.ayL];simp only [go_sem,ya,yb,yt,ye,yi,VJ,bl,aG,aZ,yd,fy,e1,e2,show xz 2 [AV.str x,.str y,.str s]=[.str s] from rfl,e3]
def ayQ (h:Rp P L) (Lu:Has P L 315 K0) {a b:Rat} {K M:Nat} (ka:Hq K a) (kb:Hq M b) (hK:K+M+1<=8000000000):af P L 315 [.str (RT a),.str (RT b)] (aa (cA (a-b).num)):=by
 have e1:=ahh h ka kb hK;have e2:=Ve h.toRm (ka.sub kb) hK;unfold af at e1 e2 ⊢;rw [aq Lu];simp only [go_sem,ya,K0,e1,e2]
end
end
section
open Go (IntKind)
def Z1 (q:Rat):q.num<0↔q<0:=by
 have h:=@Rat.num_nonneg q
 grind
def asf (a b:Rat):cA (a-b).num=A4 a b:=by
 unfold cA A4;by_cases h1:a<b
 ·rw [yF ((Z1 _).2 (by grind)),yF h1]
 ·rw [yr (fun e=>h1 (by have:=(Z1 _).1 e;grind)),yr h1]
  by_cases h2:a=b
  ·subst h2;rw [yF (by rw [Rat.sub_self];rfl),yF rfl]
  ·rw [yr (fun e=>h2 (by have:=Rat.num_eq_zero.1 e;grind)),yr h2]
def NU (a b:Rat):A4 a b<0↔a<b:=by
 unfold A4
 grind
abbrev jm (x y s:List Nat):AV:= .agg [.str x,.str y,.str s]
def pV (hs h:Rat):Bool:=decide (hs=0)||decide (h<hs)
def jO (hs h:Rat):Rat:=if hs=0 then 1 else 1-h/hs
section
variable {P:aI} {L:Lib}
def ayR (h:Rp P L) (Wv:Has P L 309 GO) (Lu:Has P L 315 K0) {x y:List Nat} {hs hh:Rat} {K M:Nat} (ks:Hq K hs) (kh:Hq M hh) (hK:K+M+1<=8000000000):af P L 309 [jm x y (RT hs),.str (RT hh)] (.bool (pV hs hh)):=by
 have e1:=ayQ h Lu kh ks (by omega);have e0:=afZ hs;rw [asf] at e1;unfold af at e1 ⊢;rw [aq Wv];unfold pV;by_cases h0:hs=0
 ·rw [xi h0] at e0;rw [xi h0];simp only [go_sem,ya,yb,GO,aG,aZ,yd,show xz 2 [AV.str x,.str y,.str (RT hs)]=[.str (RT hs)] from rfl,iQ,e0,yaM]
 ·rw [yR h0] at e0;rw [yR h0];by_cases h1:hh<hs
  ·rw [xi h1]
   have:=(NU hh hs).2 h1
   simp only [go_sem,ya,yb,GO,aG,aZ,yd,show xz 2 [AV.str x,.str y,.str (RT hs)]=[.str (RT hs)] from rfl,iQ,e0,e1,this,yq,vI]
  ·rw [yR h1]
   have:¬A4 hh hs<0:=fun e=>h1 ((NU hh hs).1 e)
   simp only [go_sem,ya,yb,GO,aG,aZ,yd,show xz 2 [AV.str x,.str y,.str (RT hs)]=[.str (RT hs)] from rfl,iQ,e0,e1,this,yp,vI]
def SO {hs hh:Rat} {K M:Nat} (ks:Hq K hs) (kh:Hq M hh):Hq (K+M+3) (jO hs hh):=by
 unfold jO
 split
 ·exact qC.mono (by omega)
 ·exact (qC.sub (kh.div ks)).mono (by omega)
end
end
section
open Go (IntKind)
def mV (v:AV) (a b:Rat):Prop:=∃s1 w1 s2 w2 s3 w3 s4 w4,v= .agg [aa s1,w1,aa s2,w2,aa s3,w3,aa s4,w4]/\cZ s1 w1 a.num/\cZ s2 w2 (a.den:Int)/\cZ s3 w3 b.num/\cZ s4 w4 (b.den:Int)
section
variable {s1 s2 s3 s4:Int} {w1 w2 w3 w4:AV} {l1 l2 l3 l4:List Nat}
def O7 (h1:bO w1 l1) (h2:bO w2 l2) (h3:bO w3 l3) (h4:bO w4 l4) (hp:Hp) (ct id:Nat) (a b c d e f g h:AV):fu hp ct id 0 8 [.int .i64 s1,w1,.int .i64 s2,w2,.int .i64 s3,w3,.int .i64 s4,w4] (some (.cells true true true 8 [a,b,c,d,e,f,g,h]))=some (.aw [],bf hp id (.cells true true true 8 [.int .i64 s1,w1,.int .i64 s2,w2,.int .i64 s3,w3,.int .i64 s4,w4]),ct):=by
 rw [lj (by rfl) (by simp) (by simp [cf,h1.one,h2.one,h3.one,h4.one,JK])];simp [aK,h1.pu,h2.pu,h3.pu,h4.pu,over,Ga]
def O8 (h1:bO w1 l1) (h2:bO w2 l2) (h3:bO w3 l3) (h4:bO w4 l4) (hp:Hp):result hp (.agg [aa s1,w1,aa s2,w2,aa s3,w3,aa s4,w4])=some (.agg [aa s1,w1,aa s2,w2,aa s3,w3,aa s4,w4]):=by
 rcases h1 with ⟨rfl,_⟩ | ⟨e,rfl⟩<;>rcases h2 with ⟨rfl,_⟩ | ⟨e',rfl⟩<;>rcases h3 with ⟨rfl,_⟩ | ⟨e,rfl⟩<;>rcases h4 with ⟨rfl,_⟩ | ⟨e',rfl⟩<;>rfl
def Ud {tm:Env} {a b c d x y z w:AV} {x' y' z' w':AV} {r:List (Nat×Nat×X)} (h1:bE a=true) (h2:bE b=true) (h3:bE c=true) (h4:bE d=true):iG tm [x',y',z',w',x,y,z,w] 0 4 [a,b,c,d] r=fill tm [a,b,c,d,x,y,z,w] r:=by
 rw [nR (by rfl) (by simp) (by simp [cf,h1,h2,h3,h4])];rfl
def Ue {tm:Env} {a b c d x y z w:AV} {x' y' z' w':AV} {r:List (Nat×Nat×X)} (h1:bE a=true) (h2:bE b=true) (h3:bE c=true) (h4:bE d=true):iG tm [x,y,z,w,x',y',z',w'] 4 4 [a,b,c,d] r=fill tm [x,y,z,w,a,b,c,d] r:=by
 rw [nR (by rfl) (by simp) (by simp [cf,h1,h2,h3,h4])];rfl
def asg {tm:Env} {a b x y z:AV} {r:List (Nat×Nat×X)} (h1:bE a=true) (h2:bE b=true):iG tm [x,y,z] 0 2 [a,b] r=fill tm [a,b,z] r:=by
 rw [nR (by rfl) (by simp) (by simp [cf,h1,h2])];rfl
def Cq (a b c d e f g h:AV):eY 8 true [a,b,c,d,e,f,g,h]=some (.agg [a,b,c,d,e,f,g,h]):=rfl
def mA (a b c d:AV) (r:List AV):eY 4 true (a::b::c::d::r)=some (.agg [a,b,c,d]):=rfl
def lh (a b c:AV) (r:List AV):eY 3 true (a::b::c::r)=some (.agg [a,b,c]):=rfl
def nT (a b c d e f g h:AV):xz 4 [a,b,c,d,e,f,g,h]=[e,f,g,h]:=rfl
def B1 (a b c:AV):xz 2 [a,b,c]=[c]:=rfl
end
structure Sp (P:aI) (L:Lib):Prop extends Ck P L where
 fF:Has P L 31 Bl
 nK:Has P L 33 LX
 Yr:Has P L 53 Xs
 Ys:Has P L 54 Xt
 Yt:Has P L 60 Xv
 Yu:Has P L 61 L3
 Qq:Has P L 63 L4
 Rw:Has P L 64 QS
 Yv:Has P L 65 QT
 Yw:Has P L 68 Xx
 h75:Has P L 75 Xz
 ayS:Has P L 112 Vz
 ayT:Has P L 113 Pz
 ayU:Has P L 114 VA
section
variable {P:aI} {L:Lib}
def Rx (h:Sp P L) {x y:List Nat} (hx:x.length<=1000000000) (hy:y.length<=1000000000):af P L 53 [gF x y] (aa (bn [aX x,aX y])):=by
 have e1:=Ro h.toCk hx;have e2:=Ro h.toCk hy;have e3:=qV h.nK (fN true [aX x,aX y]) (by simp);simp only [yy,yG,yd,yb,y8,wq] at e3;unfold af at e1 e2 ⊢;rw [aq h.Yr];simp only [go_sem,ya,yb,yt,ye,yi,Xs,aG,aZ,yd,cC,e1,e2,e3]
def A6 (h:Sp P L) {s:List Nat} (h0:aX s=0):∃r,af P L 62 [.str s] r/\cK r (aB s):=by
 obtain ⟨hR,_⟩:=DD h0;have kr:=kj h0 (yB 2400);have hl:=DY kr;obtain ⟨r,e,hr⟩:=m62 h.toTx (a:=aB s) (by omega)
 grind
def Yx (h:Sp P L) {s:List Nat} (hl:s.length<=1000000000) (m:Int):af P L 61 [.str s,aa m] (aa (iZ s m)):=by
 have e1:=Ro h.toCk hl;unfold af at e1 ⊢;rw [aq h.Yu];unfold iZ;by_cases h0:aX s=0
 ·obtain ⟨r,e2,hr⟩:=A6 h h0;have e3:=ax0 h.toFr' hr;obtain ⟨s1,w1,s2,w2,rfl,h1,h2⟩:=hr;obtain ⟨l1,u1⟩:=h1.aA;obtain ⟨l2,u2⟩:=h2.aA;rw [h0] at e1;rw [yF h0];have e4:=fun b=>nJ h.fF b 3
  by_cases hm:cA (aB s).num<m
  ·rw [yF hm];have e5:=e4 true;simp only [yV] at e5;simp only [go_sem,ya,L3,e1,yq,yM,e2,bB,bl,u1.ah,u2.ah,e3,hm,e5]
  ·rw [yr hm];have e5:=e4 false;simp only [Bool.false_eq_true,yN] at e5;simp only [go_sem,ya,L3,e1,yq,yM,e2,bB,bl,u1.ah,u2.ah,e3,hm,yp,e5]
 ·rw [yr h0];simp only [go_sem,ya,L3,e1,h0,yp,yI]
def m60 (h:Sp P L) {x y s:List Nat} (hx:x.length<=1000000000) (hy:y.length<=1000000000) (hs:s.length<=1000000000):af P L 60 [jm x y s] (aa (bn [bn [aX x,aX y],iZ s 0])):=by
 have e1:=Rx h hx hy;have e2:=Yx h hs 0;have e3:=qV h.nK (fN true [bn [aX x,aX y],iZ s 0]) (by simp);simp only [yy,yG,yd,yb,y8,wq] at e3;unfold af at e1 e2 ⊢;rw [aq h.Yt];simp only [go_sem,ya,yb,yt,ye,yi,Xv,bl,aG,aZ,yd,fy,e1,e2,B1,e3]
def awH (a b c d e f:List Nat):iV (.ag [2,2,2]) (jm a b c) (jm d e f)=some (cN a d&&(cN b e&&cN c f)):=by
 show ef [2,2,2] [.str a,.str b,.str c] [.str d,.str e,.str f]=_
 simp only [ef]
 grind
def Fz (a:List Nat):cN a a=true:=Og rfl
def m68 (h:Sp P L) (x y s:List Nat):af P L 68 [jm x y s] (.bool (cN s [48])):=by
 unfold af;rw [aq h.Yw];simp only [go_sem,ya,yb,ye,Xx,aG,aZ,yd,fy,lh,asg,awH,dA,Fz,xv]
def HL (h:Sp P L) {x y:List Nat} (hx:aX x=0) (hy:aX y=0):∃r,af P L 54 [gF x y] r/\mV r (aB x) (aB y):=by
 obtain ⟨p,e1,hp⟩:=A6 h hx;obtain ⟨q,e2,hq⟩:=A6 h hy;obtain ⟨s1,w1,s2,w2,rfl,h1,h2⟩:=hp;obtain ⟨s3,w3,s4,w4,rfl,h3,h4⟩:=hq;obtain ⟨l1,u1⟩:=h1.aA;obtain ⟨l2,u2⟩:=h2.aA;obtain ⟨l3,u3⟩:=h3.aA;obtain ⟨l4,u4⟩:=h4.aA;refine ⟨_,?_,s1,w1,s2,w2,s3,w3,s4,w4,rfl,h1,h2,h3,h4⟩;unfold af at e1 e2 ⊢;rw [aq h.Ys];simp only [go_sem,ya,yb,Xt,aG,aZ,yd,cC,e1,e2,bB,u1.one,u2.one,u3.one,u4.one,Ud,Ue,O7 u1 u2 u3 u4,dB,dD,yj,Cq,O8 u1 u2 u3 u4]
def MF (h:Sp P L) {v w:AV} {a b t:Rat} {K:Nat} (hv:mV v a b) (hw:cK w t) (ka:Hq K a) (kb:Hq K b) (kt:Hq K t) (hK:K<=10000000000):∃r,af P L 75 [v,w] r/\mV r (a*t) (b*t):=by
 obtain ⟨s1,w1,s2,w2,s3,w3,s4,w4,rfl,h1,h2,h3,h4⟩:=hv;obtain ⟨p,e1,hp⟩:=z7 h.toFr' ⟨s1,w1,s2,w2,rfl,h1,h2⟩ hw ka kt hK;obtain ⟨q,e2,hq⟩:=z7 h.toFr' ⟨s3,w3,s4,w4,rfl,h3,h4⟩ hw kb kt hK;obtain ⟨s5,w5,s6,w6,rfl,h5,h6⟩:=hw;obtain ⟨x1,y1,x2,y2,rfl,g1,g2⟩:=hp;obtain ⟨x3,y3,x4,y4,rfl,g3,g4⟩:=hq;obtain ⟨l1,u1⟩:=h1.aA;obtain ⟨l2,u2⟩:=h2.aA;obtain ⟨l3,u3⟩:=h3.aA;obtain ⟨l4,u4⟩:=h4.aA;obtain ⟨l5,u5⟩:=h5.aA;obtain ⟨l6,u6⟩:=h6.aA;obtain ⟨m1,v1⟩:=g1.aA;obtain ⟨m2,v2⟩:=g2.aA;obtain ⟨m3,v3⟩:=g3.aA;obtain ⟨m4,v4⟩:=g4.aA;refine ⟨_,?_,x1,y1,x2,y2,x3,y3,x4,y4,rfl,g1,g2,g3,g4⟩;unfold af at e1 e2 ⊢;rw [aq h.h75]
 simp only [go_sem,ya,yb,Xz,aG,aZ,yd,nT,mA,bl,u1.pu,u1.ah,u1.one,u2.pu,u2.ah,u2.one,u3.pu,u3.ah,u3.one,u4.pu,u4.ah,u4.one,u5.pu,u5.ah,u5.one,u6.pu,u6.ah,u6.one,v1.one,v2.one,v3.one,v4.one,e1,e2,bB,Ud,Ue,O7 v1 v2 v3 v4,dB,dD,yj,Cq,O8 v1 v2 v3 v4]
def Qd (h:Sp P L) {v w:AV} {a b c d:Rat} {K:Nat} (hv:mV v a b) (hw:mV w c d) (ka:Hq K a) (kb:Hq K b) (kc:Hq K c) (kd:Hq K d) (hK:K<=10000000000):∃r,af P L 112 [v,w] r/\mV r (a+c) (b+d):=by
 obtain ⟨s1,w1,s2,w2,s3,w3,s4,w4,rfl,h1,h2,h3,h4⟩:=hv;obtain ⟨s5,w5,s6,w6,s7,w7,s8,w8,rfl,h5,h6,h7,h8⟩:=hw;obtain ⟨p,e1,hp⟩:=Ri h.toFr' ⟨s1,w1,s2,w2,rfl,h1,h2⟩ ⟨s5,w5,s6,w6,rfl,h5,h6⟩ ka kc hK;obtain ⟨q,e2,hq⟩:=Ri h.toFr' ⟨s3,w3,s4,w4,rfl,h3,h4⟩ ⟨s7,w7,s8,w8,rfl,h7,h8⟩ kb kd hK;obtain ⟨x1,y1,x2,y2,rfl,g1,g2⟩:=hp;obtain ⟨x3,y3,x4,y4,rfl,g3,g4⟩:=hq;obtain ⟨l1,u1⟩:=h1.aA;obtain ⟨l2,u2⟩:=h2.aA;obtain ⟨l3,u3⟩:=h3.aA;obtain ⟨l4,u4⟩:=h4.aA;obtain ⟨l5,u5⟩:=h5.aA;obtain ⟨l6,u6⟩:=h6.aA;obtain ⟨l7,u7⟩:=h7.aA;obtain ⟨l8,u8⟩:=h8.aA;obtain ⟨m1,v1⟩:=g1.aA;obtain ⟨m2,v2⟩:=g2.aA;obtain ⟨m3,v3⟩:=g3.aA;obtain ⟨m4,v4⟩:=g4.aA;refine ⟨_,?_,x1,y1,x2,y2,x3,y3,x4,y4,rfl,g1,g2,g3,g4⟩;unfold af at e1 e2 ⊢;rw [aq h.ayS]
 simp only [go_sem,ya,yb,Vz,aG,aZ,yd,nT,mA,bl,u1.pu,u1.ah,u1.one,u2.pu,u2.ah,u2.one,u3.pu,u3.ah,u3.one,u4.pu,u4.ah,u4.one,u5.pu,u5.ah,u5.one,u6.pu,u6.ah,u6.one,u7.pu,u7.ah,u7.one,u8.pu,u8.ah,u8.one,v1.one,v2.one,v3.one,v4.one,e1,e2,bB,Ud,Ue,O7 v1 v2 v3 v4,dB,dD,yj,Cq,O8 v1 v2 v3 v4]
def ayV (h:Sp P L) {v:AV} {a b:Rat} {K:Nat} (hv:mV v a b) (ka:Hq K a) (kb:Hq K b) (hK:K<=4000000000):af P L 113 [v] (.bool (LG a||LG b)):=by
 obtain ⟨s1,w1,s2,w2,s3,w3,s4,w4,rfl,h1,h2,h3,h4⟩:=hv;have e1:=Wi h.toTx ⟨s1,w1,s2,w2,rfl,h1,h2⟩ ka hK;have e2:=Wi h.toTx ⟨s3,w3,s4,w4,rfl,h3,h4⟩ kb hK;obtain ⟨l1,u1⟩:=h1.aA;obtain ⟨l2,u2⟩:=h2.aA;obtain ⟨l3,u3⟩:=h3.aA;obtain ⟨l4,u4⟩:=h4.aA;unfold af at e1 e2 ⊢;rw [aq h.ayT]
 cases hb:LG a with
 | true=>
  rw [hb] at e1;simp only [go_sem,ya,yb,Pz,aG,aZ,yd,mA,bl,u1.pu,u1.ah,u1.one,u2.pu,u2.ah,u2.one,u3.pu,u3.one,u4.pu,u4.one,e1];rfl
 | false=>
  rw [hb] at e1;simp only [go_sem,ya,yb,Pz,aG,aZ,yd,nT,mA,bl,u1.pu,u1.ah,u1.one,u2.pu,u2.ah,u2.one,u3.pu,u3.ah,u3.one,u4.pu,u4.ah,u4.one,e1,e2];rfl
def ayW (h:Sp P L) {v:AV} {a b:Rat} {K:Nat} (hv:mV v a b) (ka:Hq K a) (kb:Hq K b) (hK:K<=4000000000):af P L 114 [v] (Yq a b):=by
 obtain ⟨s1,w1,s2,w2,s3,w3,s4,w4,rfl,h1,h2,h3,h4⟩:=hv;have e1:=Yc h.toTx ⟨s1,w1,s2,w2,rfl,h1,h2⟩ ka hK;have e2:=Yc h.toTx ⟨s3,w3,s4,w4,rfl,h3,h4⟩ kb hK;obtain ⟨l1,u1⟩:=h1.aA;obtain ⟨l2,u2⟩:=h2.aA;obtain ⟨l3,u3⟩:=h3.aA;obtain ⟨l4,u4⟩:=h4.aA;unfold af at e1 e2 ⊢;rw [aq h.ayU];simp only [go_sem,ya,yb,ye,VA,aG,aZ,yd,nT,mA,bl,u1.pu,u1.ah,u1.one,u2.pu,u2.ah,u2.one,u3.pu,u3.ah,u3.one,u4.pu,u4.ah,u4.one,e1,e2,fB];rfl
def m65 (h:Sp P L) {v:AV} {a b:Rat} {K:Nat} (hv:mV v a b) (ka:Hq K a) (kb:Hq K b) (hK:K<=4000000000):af P L 65 [v] (if (LG a||LG b)=true then .aw [gF [] [],aa 4] else .aw [Yq a b,aa 0]):=by
 have e1:=ayV h hv ka kb hK;have e2:=ayW h hv ka kb hK;obtain ⟨s1,w1,s2,w2,s3,w3,s4,w4,rfl,h1,h2,h3,h4⟩:=hv;obtain ⟨l1,u1⟩:=h1.aA;obtain ⟨l2,u2⟩:=h2.aA;obtain ⟨l3,u3⟩:=h3.aA;obtain ⟨l4,u4⟩:=h4.aA;unfold af at e1 e2 ⊢;rw [aq h.Yv]
 cases hb:(LG a||LG b) with
 | true=>
  rw [hb] at e1;simp only [go_sem,ya,yb,QT,aG,yd,Cq,bl,u1.pu,u1.ah,u1.one,u2.pu,u2.ah,u2.one,u3.pu,u3.ah,u3.one,u4.pu,u4.ah,u4.one,e1,fB];rfl
 | false=>
  rw [hb] at e1;simp only [go_sem,ya,yb,QT,aG,yd,Cq,bl,u1.pu,u1.ah,u1.one,u2.pu,u2.ah,u2.one,u3.pu,u3.ah,u3.one,u4.pu,u4.ah,u4.one,e1,e2,bB,fB];rfl
end
end
section
open Go (IntKind)
structure F4 (c1 c2 c3 c4:AV):Prop where
 ah:∀(n:Nat) (hp:Hp),freeze (n+20) hp (.agg [c1,c2,c3,c4])=some (.agg [c1,c2,c3,c4],hp)
 dM:∀hp:Hp,result hp (.agg [c1,c2,c3,c4])=some (.agg [c1,c2,c3,c4])
 st:∀(hp:Hp) (ct id:Nat) (a b c d:AV),fu hp ct id 0 4 [c1,c2,c3,c4] (some (.cells true true true 4 [a,b,c,d]))=some (.aw [],bf hp id (.cells true true true 4 [c1,c2,c3,c4]),ct)
 bx:∀ct:Nat,CD ct 4 [c1,c2,c3,c4]=some (.ptr ct 0,.cells true true true 4 [c1,c2,c3,c4])
 o1:bE c1=true
 o2:bE c2=true
 o3:bE c3=true
 o4:bE c4=true
 pu:aS (.agg [c1,c2,c3,c4])=true
 z1:∀(n:Nat) (hp:Hp),freeze (n+1) hp c1=some (c1,hp)
 z2:∀(n:Nat) (hp:Hp),freeze (n+1) hp c2=some (c2,hp)
 z3:∀(n:Nat) (hp:Hp),freeze (n+1) hp c3=some (c3,hp)
 z4:∀(n:Nat) (hp:Hp),freeze (n+1) hp c4=some (c4,hp)
structure F8 (c1 c2 c3 c4 c5 c6 c7 c8:AV):Prop where
 ah:∀(n:Nat) (hp:Hp),freeze (n+20) hp (.agg [c1,c2,c3,c4,c5,c6,c7,c8])=some (.agg [c1,c2,c3,c4,c5,c6,c7,c8],hp)
 dM:∀hp:Hp,result hp (.agg [c1,c2,c3,c4,c5,c6,c7,c8])=some (.agg [c1,c2,c3,c4,c5,c6,c7,c8])
 st:∀(hp:Hp) (ct id:Nat) (a b c d e f g h:AV),fu hp ct id 0 8 [c1,c2,c3,c4,c5,c6,c7,c8] (some (.cells true true true 8 [a,b,c,d,e,f,g,h]))=some (.aw [],bf hp id (.cells true true true 8 [c1,c2,c3,c4,c5,c6,c7,c8]),ct)
 bx:∀ct:Nat,CD ct 8 [c1,c2,c3,c4,c5,c6,c7,c8]=some (.ptr ct 0,.cells true true true 8 [c1,c2,c3,c4,c5,c6,c7,c8])
def cK.gen {v:AV} {a:Rat} (h:cK v a):∃c1 c2 c3 c4,v= .agg [c1,c2,c3,c4]/\F4 c1 c2 c3 c4:=by
 obtain ⟨s1,w1,s2,w2,rfl,h1,h2⟩:=h;obtain ⟨l1,u1⟩:=h1.aA;obtain ⟨l2,u2⟩:=h2.aA;refine ⟨_,_,_,_,rfl,fun n hp=>?_,mD u1 u2,fun hp ct id a b c d=>lZ u1 u2 hp ct id a b c d,fun ct=>by simp only [go_sem,yb,aG,u1.pu,u1.one,u2.pu,u2.one],rfl,u1.one,rfl,u2.one,by simp [aS,aK,u1.pu,u2.pu],fun _ _=>rfl,fun n _=>u1.ah n,fun _ _=>rfl,fun n _=>u2.ah n⟩;exact bl _ _ (by simp only [go_sem,u1.ah,u2.ah])
def mV.gen {v:AV} {a b:Rat} (h:mV v a b):∃c1 c2 c3 c4 c5 c6 c7 c8,v= .agg [c1,c2,c3,c4,c5,c6,c7,c8]/\F8 c1 c2 c3 c4 c5 c6 c7 c8:=by
 obtain ⟨s1,w1,s2,w2,s3,w3,s4,w4,rfl,h1,h2,h3,h4⟩:=h;obtain ⟨l1,u1⟩:=h1.aA;obtain ⟨l2,u2⟩:=h2.aA;obtain ⟨l3,u3⟩:=h3.aA;obtain ⟨l4,u4⟩:=h4.aA;refine ⟨_,_,_,_,_,_,_,_,rfl,fun n hp=>?_,O8 u1 u2 u3 u4,fun hp ct id a b c d e f g h=>O7 u1 u2 u3 u4 hp ct id a b c d e f g h,fun ct=>by simp only [go_sem,yb,aG,u1.pu,u1.one,u2.pu,u2.one,u3.pu,u3.one,u4.pu,u4.one]⟩;exact bl _ _ (by simp only [go_sem,u1.ah,u2.ah,u3.ah,u4.ah])
def Uf {a b:Int}:bn [a,b]=0↔a=0/\b=0:=by
 simp only [bn]
 grind
noncomputable def rF (x y s:List Nat):Int:=bn [bn [aX x,aX y],iZ s 0]
def acG {x y s:List Nat} (h:rF x y s=0):aX x=0/\aX y=0/\aX s=0/\0<=cA (aB s).num:=by
 obtain ⟨h1,h2⟩:=Uf.1 h;obtain ⟨h3,h4⟩:=Uf.1 h1;obtain ⟨h5,h6⟩:=Uc h2
 grind
section
variable {P:aI} {L:Lib}
def nat_eq {s:List Nat} (h:aX s=0):cN s [48]=decide (aB s=0):=by
 have:=afZ (aB s)
 rwa [<-(DD h).1] at this
def m63 (h:Sp P L) {x y s:List Nat} {w:AV} {hh:Rat} (hs:aX s=0) (hw:cK w hh) {K:Nat} (kh:Hq K hh) (hK:K<=1000000000):af P L 63 [jm x y s,w] (.bool (pV (aB s) hh)):=by
 have e1:=m68 h x y s;rw [nat_eq hs] at e1;obtain ⟨r,e2,hr⟩:=A6 h hs;have e3:=m71 h.toFr' hw hr (kh.mono (show K<=K+2400 by omega)) ((kj hs (yB 2400)).mono (show 2400<=K+2400 by omega)) (by omega);obtain ⟨s1,w1,s2,w2,rfl,h1,h2⟩:=hw;obtain ⟨s3,w3,s4,w4,rfl,h3,h4⟩:=hr;obtain ⟨l1,u1⟩:=h1.aA;obtain ⟨l2,u2⟩:=h2.aA;obtain ⟨l3,u3⟩:=h3.aA;obtain ⟨l4,u4⟩:=h4.aA;unfold pV;unfold af at e1 e2 e3 ⊢;rw [aq h.Qq];by_cases h0:aB s=0
 ·rw [xi h0] at e1 ⊢;simp only [go_sem,ya,yb,L4,bl,aG,lh,u1.pu,u1.one,u2.pu,u2.one,e1,yaM]
 ·rw [yR h0] at e1 ⊢;by_cases hb:hh<aB s
  ·have:=(NU _ _).2 hb
   rw [xi hb];simp only [go_sem,ya,yb,L4,bl,aG,lh,u1.pu,u1.ah,u1.one,u2.pu,u2.ah,u2.one,u3.ah,u4.ah,e1,mA,aZ,yd,B1,e2,bB,e3,this,yq,vI]
  ·have:¬A4 hh (aB s)<0:=fun e=>hb ((NU _ _).1 e)
   rw [yR hb];simp only [go_sem,ya,yb,L4,bl,aG,lh,u1.pu,u1.ah,u1.one,u2.pu,u2.ah,u2.one,u3.ah,u4.ah,e1,mA,aZ,yd,B1,e2,bB,e3,this,yp,Bool.or_self]
def m64 (h:Sp P L) {dx dy s x y:List Nat} {w:AV} {hh:Rat} (HE:aX dx=0) (hdy:aX dy=0) (hs:aX s=0) (hx:aX x=0) (hy:aX y=0) (hw:cK w hh) {K:Nat} (kh:Hq K hh) (hK:K<=100000000):
  ∃r,af P L 64 [jm dx dy s,w,gF x y] r/\mV r (jO (aB s) hh*aB x+hh*aB dx) (jO (aB s) hh*aB y+hh*aB dy):=by
 have e1:=m68 h dx dy s;rw [nat_eq hs] at e1;have kx:=(kj hx (yB 2400));have ky:=(kj hy (yB 2400));have kdx:=(kj HE (yB 2400));have kdy:=(kj hdy (yB 2400));have ks:=(kj hs (yB 2400));obtain ⟨M,hM⟩:∃M,M=2*K+8000:=⟨_,rfl⟩;obtain ⟨p,e2,hp⟩:=HL h hx hy;obtain ⟨d,e3,hd⟩:=HL h HE hdy;obtain ⟨d2,e4,et⟩:=MF h hd hw (kdx.mono (show 2400<=M by omega)) (kdy.mono (by omega)) (kh.mono (by omega)) (by omega);have Yy:=SO ks kh;have sum:∀{q:AV},mV q (jO (aB s) hh*aB x) (jO (aB s) hh*aB y)->∃r,af P L 112 [q,d2] r/\mV r (jO (aB s) hh*aB x+hh*aB dx) (jO (aB s) hh*aB y+hh*aB dy):=fun {q} hq=>by
  obtain ⟨r,e,hr⟩:=Qd h hq et ((Yy.mul kx).mono (show 2400+K+3+2400<=M by omega)) ((Yy.mul ky).mono (by omega)) ((kdx.mul kh).mono (by omega)) ((kdy.mul kh).mono (by omega)) (by omega);rw [wU (aB dx),wU (aB dy)] at hr;exact ⟨r,e,hr⟩
 by_cases h0:aB s=0
 ·rw [xi h0] at e1;have gO:jO (aB s) hh=1:=by unfold jO;rw [yF h0]
  obtain ⟨r,e5,hr⟩:=sum (q:=p) (by rw [gO,uY,uY];exact hp)
  refine ⟨r,?_,hr⟩;obtain ⟨w1,w2,w3,w4,rfl,gw⟩:=hw.gen;obtain ⟨p1,p2,p3,p4,p5,p6,p7,p8,rfl,gp⟩:=hp.gen;obtain ⟨d1,d2',d3,d4,d5,d6,d7,d8,rfl,gd⟩:=hd.gen;obtain ⟨f1,f2,f3,f4,f5,f6,f7,f8,rfl,gf⟩:=et.gen;obtain ⟨r1,r2,r3,r4,r5,r6,r7,r8,rfl,gr⟩:=hr.gen;unfold af at e1 e2 e3 e4 e5 ⊢;rw [aq h.Rw];simp only [go_sem,ya,yb,QS,bl,aG,fy,lh,mA,Cq,aZ,yd,gw.bx,gw.ah,gp.ah,gd.ah,gf.ah,e1,e2,e3,e4,e5,yM,bB,gp.st,gr.st,dB,dD,yj,gr.dM]
 ·rw [yR h0] at e1;have gO:jO (aB s) hh=1-hh/aB s:=by unfold jO;rw [yr h0]
  obtain ⟨o,e6,ho⟩:=E3 h.toFr' (z:=1) (by decide) (by decide);obtain ⟨f,e7,hf⟩:=A6 h hs;obtain ⟨g,e8,hg⟩:=m70 h.toFr' hw hf h0 (kh.mono (show K<=M by omega)) (ks.mono (by omega)) (by omega);have k1:Hq M ((1:Int):Rat):=qC.mono (by omega);obtain ⟨i,e9,hi⟩:=Mw h.toFr' ho hg k1 ((kh.div ks).mono (by omega)) (by omega);rw [show ((1:Int):Rat)-hh/aB s=jO (aB s) hh from gO.symm] at hi;obtain ⟨q,eA,hq⟩:=MF h hp hi (kx.mono (show 2400<=M by omega)) (ky.mono (by omega)) (Yy.mono (by omega)) (by omega);rw [wU (aB x),wU (aB y)] at hq;obtain ⟨r,e5,hr⟩:=sum hq;refine ⟨r,?_,hr⟩;obtain ⟨w1,w2,w3,w4,rfl,gw⟩:=hw.gen;obtain ⟨p1,p2,p3,p4,p5,p6,p7,p8,rfl,gp⟩:=hp.gen;obtain ⟨d1,d2',d3,d4,d5,d6,d7,d8,rfl,gd⟩:=hd.gen;obtain ⟨f1,f2,f3,f4,f5,f6,f7,f8,rfl,gf⟩:=et.gen;obtain ⟨r1,r2,r3,r4,r5,r6,r7,r8,rfl,gr⟩:=hr.gen;obtain ⟨q1,q2,q3,q4,q5,q6,q7,q8,rfl,gq⟩:=hq.gen
  obtain ⟨o1,o2,o3,o4,rfl,go⟩:=ho.gen;obtain ⟨x1,x2,x3,x4,rfl,gx⟩:=hf.gen;obtain ⟨y1,y2,y3,y4,rfl,gy⟩:=hg.gen;obtain ⟨z1,z2,z3,z4,rfl,gz⟩:=hi.gen;unfold af at e1 e2 e3 e4 e5 e6 e7 e8 e9 eA ⊢;rw [aq h.Rw];simp only [go_sem,ya,yb,QS,bl,aG,fy,lh,mA,Cq,aZ,yd,B1,gw.bx,gw.ah,gp.ah,gd.ah,gf.ah,go.ah,gx.ah,gy.ah,gz.ah,gq.ah,e1,e2,e3,e4,e5,e6,e7,e8,e9,eA,yI,bB,gp.st,gq.st,gr.st,dB,dD,yj,gr.dM]
end
end
section
open Go (IntKind)
def QL:List AV->List Rat->Prop
 | [],[]=>True
 | a::b::c::d::r,x::l=>cK (.agg [a,b,c,d]) x/\QL r l
 | _,_=>False
def QL.nil:QL [] []:=trivial
def QL.cons {a b c d:AV} {r:List AV} {x:Rat} {l:List Rat} (h1:cK (.agg [a,b,c,d]) x) (h2:QL r l):QL (a::b::c::d::r) (x::l):=⟨h1,h2⟩
def QL.inv {cs:List AV} {x:Rat} {l:List Rat} (h:QL cs (x::l)):∃a b c d r,cs=a::b::c::d::r/\cK (.agg [a,b,c,d]) x/\QL r l:=by
 match cs,h with
 | a::b::c::d::r,h=>exact ⟨a,b,c,d,r,rfl,h.1,h.2⟩
def QL.Lv {cs:List AV} (h:QL cs []):cs=[]:=by
 match cs,h with
 | [],_=>rfl
 | [_],h=>exact h.elim
 | [_,_],h=>exact h.elim
 | [_,_,_],h=>exact h.elim
 | _::_::_::_::_,h=>exact h.elim
def QL.len:∀{l:List Rat} {cs:List AV},QL cs l->cs.length=l.length*4
 | [],_,h=>by rw [h.Lv];rfl
 | x::l,cs,h=>by
  obtain ⟨a,b,c,d,r,rfl,_,h2⟩:=h.inv
  have:=h2.len
  grind
def F4.Ry {c1 c2 c3 c4:AV} (g:F4 c1 c2 c3 c4):aS c1=true/\aS c2=true/\aS c3=true/\aS c4=true:=by
 have:=g.pu
 simpa only [aS,aK,uD,yg] using this
def cK.f4 {a b c d:AV} {x:Rat} (h:cK (.agg [a,b,c,d]) x):F4 a b c d:=by
 obtain ⟨_,_,_,_,e,g⟩:=h.gen
 grind
def QL.pu:∀{l:List Rat} {cs:List AV},QL cs l->aK cs=true
 | [],_,h=>by rw [h.Lv];rfl
 | x::l,cs,h=>by
  obtain ⟨a,b,c,d,r,rfl,h1,h2⟩:=h.inv;obtain ⟨p1,p2,p3,p4⟩:=h1.f4.Ry;simp only [aK,p1,p2,p3,p4,h2.pu,wi]
def QL.one:∀{l:List Rat} {cs:List AV},QL cs l->cf cs=true
 | [],_,h=>by rw [h.Lv];rfl
 | x::l,cs,h=>by
  obtain ⟨a,b,c,d,r,rfl,h1,h2⟩:=h.inv;have g:=h1.f4;simp only [cf,g.o1,g.o2,g.o3,g.o4,h2.one,wi]
def QL.dV:∀{l m:List Rat} {cs ds:List AV},QL cs l->QL ds m->QL (cs++ds) (l++m)
 | [],m,cs,ds,h,k=>by rw [h.Lv];exact k
 | x::l,m,cs,ds,h,k=>by
  obtain ⟨a,b,c,d,r,rfl,h1,h2⟩:=h.inv;exact ⟨h1,h2.dV k⟩
def QL.snoc {l:List Rat} {x:Rat} {cs:List AV} {a b c d:AV} (h:QL cs l) (k:cK (.agg [a,b,c,d]) x):QL (cs++[a,b,c,d]) (l++[x]):=h.dV ⟨k,trivial⟩
def QL.get:∀{l:List Rat} {cs:List AV} {i:Nat},QL cs l->∀(hi:i<l.length),∃a b c d r,cs.drop (i*4)=a::b::c::d::r/\cK (.agg [a,b,c,d]) l[i]
 | [],_,i,_,hi=>absurd hi (Nat.not_lt_zero i)
 | x::l,cs,0,h,hi=>by
  obtain ⟨a,b,c,d,r,rfl,h1,_⟩:=h.inv
  grind
 | x::l,cs,i+1,h,hi=>by
  obtain ⟨a,b,c,d,r,rfl,_,h2⟩:=h.inv;obtain ⟨a',b',c',d',r',e,k⟩:=h2.get (i:=i) (by simpa using hi)
  grind
def jU (v:AV) (l:List Rat):Prop:=(v= .ae/\l=[])\/∃e cs,v= .aO e l.length cs/\QL cs l
section
variable {v:AV} {l:List Rat} {hp:Hp}
def jU.len (h:jU v l) {hp:Hp}:im hp 1 v=some (.int .i64 (l.length:Nat)):=by
 rcases h with ⟨rfl,rfl⟩ | ⟨e,cs,rfl,h⟩<;>rfl
def jU.pu (h:jU v l):aS v=true:=by
 rcases h with ⟨rfl,rfl⟩ | ⟨e,cs,rfl,h⟩<;>rfl
def jU.ah (h:jU v l) (n:Nat) {hp:Hp}:freeze (n+1) hp v=some (v,hp):=by
 rcases h with ⟨rfl,rfl⟩ | ⟨e,cs,rfl,h⟩<;>rfl
def jU.shut (h:jU v l):shut v=v:=by
 rcases h with ⟨rfl,rfl⟩ | ⟨e,cs,rfl,h⟩<;>rfl
def jU.bN (h:jU v l):bN v=v:=by
 rcases h with ⟨rfl,rfl⟩ | ⟨e,cs,rfl,h⟩<;>rfl
def jU.dM (h:jU v l) {hp:Hp}:result hp v=some v:=by
 rcases h with ⟨rfl,rfl⟩ | ⟨e,cs,rfl,h⟩<;>rfl
def jU.one (h:jU v l):bE v=true:=by
 rcases h with ⟨rfl,rfl⟩ | ⟨e,cs,rfl,h⟩<;>rfl
def jU.cells (h:jU v l):cellsOf v=[v]:=by
 rcases h with ⟨rfl,rfl⟩ | ⟨e,cs,rfl,h⟩<;>rfl
def jU.aY (h:jU v l) {i:Nat} (hi:i<l.length):∃a b c d r,iF 4 i v=some (.bi (a::b::c::d::r))/\cK (.agg [a,b,c,d]) l[i]:=by
 rcases h with ⟨rfl,rfl⟩ | ⟨e,cs,rfl,h⟩
 ·grind
 ·obtain ⟨a,b,c,d,r,e1,e2⟩:=h.get hi;refine ⟨a,b,c,d,r,?_,e2⟩;rw [Oa e _ hi,e1]
def apN {cs:List AV} (e:Bool) (h:QL cs l):jU (.aO e l.length cs) l:= .inr ⟨e,cs,rfl,h⟩
end
def avc {tm:Env} {a b c d x0 x1 x2 x3:AV} {r:List (Nat×Nat×X)} (h1:bE a=true) (h2:bE b=true) (h3:bE c=true) (h4:bE d=true):iG tm [x0,x1,x2,x3] 0 4 [a,b,c,d] r=fill tm [a,b,c,d] r:=by
 rw [nR (by rfl) (by simp) (by simp [cf,h1,h2,h3,h4])];rfl
def ahj (fm pu ex:Bool) (a b c d:AV):XI 0 1 4 (some (.cells fm pu ex 4 [a,b,c,d]))=some (1,[a,b,c,d]):=rfl
def ayX (hp:Hp) (cs:List AV):jx hp 4 true (.bi cs)=eY 4 true cs:=rfl
def rP (s:Rat) (l:List Rat):Rat:=l.foldl (·+·) s
def anA {s:Rat} {l:List Rat} {i:Nat} (h:i<l.length):rP s (l.take (i+1))=rP s (l.take i)+l[i]:=by
 rw [List.take_succ_eq_append_getElem h];simp only [rP,List.foldl_append,List.foldl_cons,List.foldl_nil]
def UF {K:Nat}:∀{l:List Rat} {s:Rat} {M:Nat},Hq M s->(∀x,x∈l->Hq K x)->Hq (M+l.length*(K+1)) (rP s l)
 | [],s,M,hs,_=>by simpa [rP] using hs
 | x::l,s,M,hs,hl=>by
  have:=UF (l:=l) (hs.add (hl x List.mem_cons_self)) (fun y hy=>hl y (List.mem_cons_of_mem _ hy))
  refine Hq.mono (m:=M+(x::l).length*(K+1)) this ?_;simp only [yy,Nat.add_mul];omega
def ash {K M:Nat} {l:List Rat} {s:Rat} (hs:Hq M s) (hl:∀x,x∈l->Hq K x) (i:Nat):Hq (M+l.length*(K+1)) (rP s (l.take i)):=
 (UF hs (fun x hx=>hl x (List.mem_of_mem_take hx))).mono (by rw [yS];have:=Nat.mul_le_mul_right (K+1) (Nat.min_le_right i l.length);omega)
end
section
open Go (IntKind)
section
variable {P:aI} {L:Lib}
def ayY (CJ:Has P L 150 GK) {v:AV} {z:Int} (hv:cO v z) (h1: -9223372036854775808<z) (h2:z<9223372036854775808):af P L 150 [v] (.aw [aa z,.bool true]):=by
 obtain ⟨s,w,rfl,hn⟩:=hv;rcases hn with ⟨rfl,rfl,_,_⟩ | ⟨e,l,rfl,g,n,hb,hs,h3⟩
 ·unfold af;rw [aq CJ];simp only [go_sem,ya,yb,GK,aG,aZ,yd,cC,hZ,dA];rfl
 ·omega
def Tv {a:Rat} {K:Nat} (h:Hq K a) (hK:1<=K):Hq K ((a.floor:Int):Rat):=by
 refine ⟨?_,?_⟩
 ·exact h.1.le (by
   rw [vh,ybM]
   exact Int.natAbs_ediv_le_natAbs _ _)
 ·rw [vR];exact vU (by omega)
def anB (n:Int) {s:Int} (hs:0<s):((n:Rat)-(s:Rat)*(((n:Rat)/(s:Rat)).floor:Int))=((n%s:Int):Rat):=by
 have h1:(n:Rat)/(s:Rat)=Rat.divInt n s:=(Rat.divInt_eq_div n s).symm;have h2:((n:Rat)/(s:Rat)).floor=n/s:=by
  rw [h1];obtain ⟨p1,p2⟩:=I4 (a:=n) hs;have hg:=FM (a:=n) hs;rw [ybM,p1,p2];have e1:=Gf n s;have e2:=Kh n s;show bM n s/bT n s=n/s
  have e3:=Int.mul_ediv_mul_of_pos (bM n s) (bT n s) hg
  grind
 rw [h2,Int.emod_def]
 grind
def aix (h:Fr' P L) (G5:Has P L 103 KF) (CJ:Has P L 150 GK) {v:AV} {a:Rat} {s:Int} {K:Nat} (hv:cK v a) (ka:Hq K a) (Yz:100<=K) (hK:K<=1000000000) (fQ:0<s) (hs:s<1000000):
  ∃f,af P L 103 [v,aa s] (.aw [aa (a.floor%s),f])/\cK f (a-(a.floor:Int)):=by
 obtain ⟨p,e1,hp⟩:=ah6 h hv ka (by omega);obtain ⟨w,e2,hw⟩:=Li h hp;obtain ⟨n,e3,hn⟩:=E3 h (z:=s) (by omega) (by omega);have kf:=Tv ka (by omega);have WZ:s.natAbs<2^64:=by omega
 have ks:Hq K (s:Rat):=⟨by rw [vh];exact yL WZ (xk (by decide) (by omega)),by rw [vR];exact vU (by omega)⟩
 have ayZ:(s:Rat)≠0:=fun e=>by
  have:=congrArg Rat.num e
  have:s=0:=this
  omega
 obtain ⟨d,e4,hd⟩:=m70 h hw hn ayZ kf ks (by omega);have kd:=kf.div ks;obtain ⟨g,e5,hg⟩:=ah6 h hd kd (by omega);obtain ⟨gw,e6,hgw⟩:=Li h hg;have kg:=Tv kd (by omega);obtain ⟨mu,e7,hmu⟩:=z7 h hn hgw (ks.mono (show K<=K+K by omega)) kg (by omega);obtain ⟨r,e8,hr⟩:=Mw h hw hmu (kf.mono (show K<=K+(K+K) by omega)) (ks.mul kg) (by omega);rw [anB _ fQ] at hr;obtain ⟨f,e9,hf⟩:=Mw h hv hw ka kf (by omega);have rL:=Int.emod_nonneg a.floor (show s≠0 by omega);have aCk:=Int.emod_lt_of_pos a.floor fQ;refine ⟨f,?_,hf⟩;obtain ⟨v1,v2,v3,v4,rfl,gv⟩:=hv.gen;obtain ⟨w1,w2,w3,w4,rfl,gw'⟩:=hw.gen;obtain ⟨n1,n2,n3,n4,rfl,gn⟩:=hn.gen;obtain ⟨d1,d2,d3,d4,rfl,gd⟩:=hd.gen;obtain ⟨x1,x2,x3,x4,rfl,gx⟩:=hgw.gen;obtain ⟨y1,y2,y3,y4,rfl,gy⟩:=hmu.gen;obtain ⟨f1,f2,f3,f4,rfl,gf⟩:=hf.gen;obtain ⟨ps,pw,rfl,ao⟩:=hp;obtain ⟨gs,gw2,rfl,BB⟩:=hg;obtain ⟨lp,up⟩:=ao.aA;obtain ⟨lg,ug⟩:=BB.aA
 obtain ⟨r1,r2,r3,r4,CY,bS,dQ⟩:=hr;subst CY;obtain ⟨l1,u1⟩:=bS.aA;obtain ⟨l2,u2⟩:=dQ.aA;rw [vh] at bS;have BD:=ayY (P:=P) (L:=L) CJ ⟨r1,r2,rfl,bS⟩ (by omega) (by omega);unfold af at e1 e2 e3 e4 e5 e6 e7 e8 e9 BD ⊢;rw [aq G5];simp only [go_sem,ya,yb,KF,gv.bx,gv.ah,gw'.ah,gn.ah,gd.ah,gx.ah,gy.ah,bl,up.ah,ug.ah,u1.ah,aG,aZ,yd,mA,fy,e1,e2,e3,e4,e5,e6,e7,e8,e9,BD,bB,gw'.st,lZ u1 u2,gf.st,dB,dD,yj];have ay0:∀i:Int,B2 [aa i,AV.agg [f1,f2,f3,f4]]=some []:=fun i=>by
  simp only [B2,gf.pu,Ga,ym]
 have ig:∀(hp:Hp) (i:Int),sP deep hp [aa i,AV.agg [f1,f2,f3,f4]]=some ([aa i,AV.agg [f1,f2,f3,f4]],hp):=fun hp i=>by
  have e1:pP deep hp (aa i)=some (aa i,hp):=rfl;have e2:pP deep hp (.agg [f1,f2,f3,f4])=some (.agg [f1,f2,f3,f4],hp):=gf.ah 980 hp;simp only [sP,e1,e2]
 simp only [result,ay0,ig]
end
end
section
open Go (IntKind)
section
variable {P:aI} {L:Lib}
def Ug {hs hh x dx:Rat} {K:Nat} (ks:Hq K hs) (kh:Hq K hh) (kx:Hq K x) (kd:Hq K dx):Hq (5*K+10) (jO hs hh*x+hh*dx):=
 (((SO ks kh).mul kx).add (kh.mul kd)).mono (by omega)
end
end
section
open Go (IntKind)
def awI (a b c d:List Nat):iV (.ag [2,2]) (gF a b) (gF c d)=some (cN a c&&cN b d):=by
 show ef [2,2] [.str a,.str b] [.str c,.str d]=_
 simp only [ef]
 grind
section
variable {P:aI} {L:Lib}
end
end
section
open Go (IntKind)
def EB (sc f o w:Rat) (fr:Int):Rat:=sc*f+1*o+(fr:Rat)*w
def avd {sc f o w:Rat} {fr:Int} {K J:Nat} (ks:Hq K sc) (kf:Hq J f) (ko:Hq K o) (kw:Hq K w) (ig:fr.natAbs<2^64) (hK:100<=K):Hq (4*K+J+100) (EB sc f o w fr):=by
 have sC:Hq 64 (fr:Rat):=⟨by rw [vh];exact ig,by rw [vR];exact vU (by omega)⟩
 exact (((ks.mul kf).add (qC.mul ko)).add (sC.mul kw)).mono (by omega)
section
variable {P:aI} {L:Lib}
end
end
section
open Go (IntKind)
section
variable {P:aI} {L:Lib}
def ay1 (h:Sp P L) (Ww:Has P L 116 PA) {scr st:AV} (o1:bE scr=true) (p1:aS scr=true) (o2:bE st=true) (p2:aS st=true) {dx dy s hh sc ox oy wx wy x y:List Nat} {fr:Int} (cdx:aX dx=0) (cdy:aX dy=0) (cs:aX s=0) (ch:aX hh=0) (HM:aX sc=0) (YA:aX ox=0) (YB:aX oy=0) (YC:aX wx=0) (YD:aX wy=0) (cx:aX x=0) (cy:aX y=0) (Hm: -9223372036854775808<=fr) (jj:fr<9223372036854775808):
  ∃r,af P L 116 [.agg [scr,.str hh,.str sc,st,.str ox,.str oy,.str wx,.str wy],jm dx dy s,gF x y,aa fr] r/\
   mV r (EB (aB sc) (jO (aB s) (aB hh)*aB x+aB hh*aB dx) (aB ox) (aB wx) fr) (EB (aB sc) (jO (aB s) (aB hh)*aB y+aB hh*aB dy) (aB oy) (aB wy) fr):=by
 have H:=fun {t:List Nat} (c:aX t=0)=>kj c (yB 2400)
 obtain ⟨M,hM⟩:∃M,M=100000:=⟨_,rfl⟩;obtain ⟨a,e1,ha⟩:=A6 h ch;obtain ⟨b,e2,hb⟩:=m64 h cdx cdy cs cx cy ha (H ch) (by omega);obtain ⟨c,e3,hc⟩:=A6 h HM;have YE:=Ug (H cs) (H ch) (H cx) (H cdx);have YF:=Ug (H cs) (H ch) (H cy) (H cdy);obtain ⟨d,e4,hd⟩:=MF h hb hc (YE.mono (show 5*2400+10<=M by omega)) (YF.mono (by omega)) ((H HM).mono (by omega)) (by omega);rw [wU _ (aB sc),wU _ (aB sc)] at hd;obtain ⟨o,e5,ho⟩:=HL h YA YB;obtain ⟨f,e6,hf⟩:=Qd h hd ho (((H HM).mul YE).mono (show 2400+(5*2400+10)<=M by omega)) (((H HM).mul YF).mono (by omega)) ((H YA).mono (by omega)) ((H YB).mono (by omega)) (by omega);obtain ⟨g,e7,hg⟩:=HL h YC YD;obtain ⟨i,e8,hi⟩:=E3 h.toFr' Hm jj;have sC:Hq 64 (fr:Rat):=⟨by rw [vh];unfold Bd;omega,by rw [vR];exact vU (by omega)⟩
 obtain ⟨j,e9,hj⟩:=MF h hg hi ((H YC).mono (show 2400<=M by omega)) ((H YD).mono (by omega)) (sC.mono (by omega)) (by omega);rw [wU _ (fr:Rat),wU _ (fr:Rat)] at hj;obtain ⟨r,BD,hr⟩:=Qd h hf hj ((((H HM).mul YE).add (H YA)).mono (show 2400+(5*2400+10)+2400+1<=M by omega)) ((((H HM).mul YF).add (H YB)).mono (by omega)) ((sC.mul (H YC)).mono (by omega)) ((sC.mul (H YD)).mono (by omega)) (by omega);have bW:=hr;refine ⟨r,?_,by unfold EB;rw [uY,uY];exact bW⟩
 obtain ⟨a1,a2,a3,a4,rfl,ga⟩:=ha.gen;obtain ⟨b1,b2,b3,b4,b5,b6,b7,b8,rfl,gb⟩:=hb.gen;obtain ⟨c1,c2,c3,c4,rfl,gc⟩:=hc.gen;obtain ⟨d1,d2,d3,d4,d5,d6,d7,d8,rfl,gd⟩:=hd.gen;obtain ⟨k1,k2,k3,k4,k5,k6,k7,k8,rfl,gk⟩:=ho.gen;obtain ⟨f1,f2,f3,f4,f5,f6,f7,f8,rfl,gf⟩:=hf.gen;obtain ⟨g1,g2,g3,g4,g5,g6,g7,g8,rfl,gg⟩:=hg.gen;obtain ⟨i1,i2,i3,i4,rfl,gi⟩:=hi.gen;obtain ⟨j1,j2,j3,j4,j5,j6,j7,j8,rfl,gj⟩:=hj.gen;obtain ⟨r1,r2,r3,r4,r5,r6,r7,r8,rfl,gr⟩:=hr.gen;have dd2:∀a b c d e f g i:AV,xz 2 [a,b,c,d,e,f,g,i]=[c,d,e,f,g,i]:=fun _ _ _ _ _ _ _ _=>rfl
 have dd6:∀a b c d e f g i:AV,xz 6 [a,b,c,d,e,f,g,i]=[g,i]:=fun _ _ _ _ _ _ _ _=>rfl
 unfold af at e1 e2 e3 e4 e5 e6 e7 e8 e9 BD ⊢;rw [aq Ww];simp only [go_sem,ya,yb,PA,bl,aG,o1,p1,o2,p2,aZ,yd,cC,dd2,nT,dd6,fy,lh,Cq,ga.ah,gb.ah,gc.ah,gd.ah,gk.ah,gf.ah,gg.ah,gi.ah,gj.ah,e1,e2,e3,e4,e5,e6,e7,e8,e9,BD,bB,gd.st,gr.st,dB,dD,yj,gr.dM]
end
end
section
open Go (IntKind)
def Dl (x:Rat):Rat:=x-(x.floor:Int)
def O9 {x:Rat} {K:Nat} (h:Hq K x) (hK:1<=K):Hq (2*K+1) (Dl x):=(h.sub (Tv h hK)).mono (by omega)
section
variable {P:aI} {L:Lib}
end
end
section
open Go (IntKind)
def apO {tm:Env} {a:AV} {r:List (Nat×Nat×X)} {x0 x1 x2 x3 x4 x5 x6 x7 x8 x9:AV} (h1:bE a=true):iG tm [x0,x1,x2,x3,x4,x5,x6,x7,x8,x9] 0 1 [a] r=fill tm [a,x1,x2,x3,x4,x5,x6,x7,x8,x9] r:=by
 rw [nR (by rfl) (by simp) (by simp [cf,h1])];rfl
def apP {tm:Env} {a:AV} {r:List (Nat×Nat×X)} {x0 x1 x2 x3 x4 x5 x6 x7 x8 x9:AV} (h1:bE a=true):iG tm [x0,x1,x2,x3,x4,x5,x6,x7,x8,x9] 1 1 [a] r=fill tm [x0,a,x2,x3,x4,x5,x6,x7,x8,x9] r:=by
 rw [nR (by rfl) (by simp) (by simp [cf,h1])];rfl
def apQ {tm:Env} {a b c d:AV} {r:List (Nat×Nat×X)} {x0 x1 x2 x3 x4 x5 x6 x7 x8 x9:AV} (h1:bE a=true) (h2:bE b=true) (h3:bE c=true) (h4:bE d=true):iG tm [x0,x1,x2,x3,x4,x5,x6,x7,x8,x9] 2 4 [a,b,c,d] r=fill tm [x0,x1,a,b,c,d,x6,x7,x8,x9] r:=by
 rw [nR (by rfl) (by simp) (by simp [cf,h1,h2,h3,h4])];rfl
def apR {tm:Env} {a b c d:AV} {r:List (Nat×Nat×X)} {x0 x1 x2 x3 x4 x5 x6 x7 x8 x9:AV} (h1:bE a=true) (h2:bE b=true) (h3:bE c=true) (h4:bE d=true):iG tm [x0,x1,x2,x3,x4,x5,x6,x7,x8,x9] 6 4 [a,b,c,d] r=fill tm [x0,x1,x2,x3,x4,x5,a,b,c,d] r:=by
 rw [nR (by rfl) (by simp) (by simp [cf,h1,h2,h3,h4])];rfl
def Gz (v:AV) (i j:Int) (f g:Rat):Prop:=∃c1 c2 c3 c4 d1 d2 d3 d4,v= .agg [aa i,aa j,c1,c2,c3,c4,d1,d2,d3,d4]/\cK (.agg [c1,c2,c3,c4]) f/\cK (.agg [d1,d2,d3,d4]) g
section
variable {P:aI} {L:Lib}
def m55 (h:Fr' P L) (MG:Has P L 55 QO) (G5:Has P L 103 KF) (CJ:Has P L 150 GK) {v:AV} {x y:Rat} {s:Int} {K:Nat} (hv:mV v x y) (kx:Hq K x) (ky:Hq K y) (Yz:100<=K) (hK:K<=1000000000) (fQ:0<s) (hs:s<1000000):
  ∃r,af P L 55 [v,aa s] r/\Gz r (x.floor%s) (y.floor%s) (Dl x) (Dl y):=by
 obtain ⟨s1,w1,s2,w2,s3,w3,s4,w4,rfl,h1,h2,h3,h4⟩:=hv;obtain ⟨f,e1,hf⟩:=aix h G5 CJ (v:= .agg [aa s1,w1,aa s2,w2]) (a:=x) ⟨s1,w1,s2,w2,rfl,h1,h2⟩ kx Yz hK fQ hs;obtain ⟨g,e2,hg⟩:=aix h G5 CJ (v:= .agg [aa s3,w3,aa s4,w4]) (a:=y) ⟨s3,w3,s4,w4,rfl,h3,h4⟩ ky Yz hK fQ hs;have nG:=hf;have BB:=hg;obtain ⟨c1,c2,c3,c4,rfl,gf⟩:=hf.gen;obtain ⟨d1,d2,d3,d4,rfl,gg⟩:=hg.gen;obtain ⟨l1,u1⟩:=h1.aA;obtain ⟨l2,u2⟩:=h2.aA;obtain ⟨l3,u3⟩:=h3.aA;obtain ⟨l4,u4⟩:=h4.aA;refine ⟨_,?_,c1,c2,c3,c4,d1,d2,d3,d4,rfl,nG,BB⟩;have p1:=gf.pu;have p2:=gg.pu;simp only [aS,aK,uD,yg] at p1 p2;obtain ⟨YG,YH,YI,YJ⟩:=p1;obtain ⟨YK,YL,YM,YN⟩:=p2
 have bh:∀(hp:Hp) (ct id:Nat) (i j:Int) (x0 x1 x2 x3 x4 x5 x6 x7 x8 x9:AV),fu hp ct id 0 10 [aa i,aa j,c1,c2,c3,c4,d1,d2,d3,d4] (some (.cells true true true 10 [x0,x1,x2,x3,x4,x5,x6,x7,x8,x9]))=some (.aw [],bf hp id (.cells true true true 10 [aa i,aa j,c1,c2,c3,c4,d1,d2,d3,d4]),ct):=fun hp ct id i j x0 x1 x2 x3 x4 x5 x6 x7 x8 x9=>by
  rw [lj (by rfl) (by simp) (by simp [cf,JK,gf.o1,gf.o2,gf.o3,gf.o4,gg.o1,gg.o2,gg.o3,gg.o4])];simp [aK,Ga,YG,YH,YI,YJ,YK,YL,YM,YN,over]
 have zq:∀(hp:Hp) (i j:Int),result hp (.agg [aa i,aa j,c1,c2,c3,c4,d1,d2,d3,d4])=some (.agg [aa i,aa j,c1,c2,c3,c4,d1,d2,d3,d4]):=fun hp i j=>by
  have e:freeze (980+20) hp (.agg [aa i,aa j,c1,c2,c3,c4,d1,d2,d3,d4])=some (.agg [aa i,aa j,c1,c2,c3,c4,d1,d2,d3,d4],hp):=
   bl _ _ (by simp only [go_sem,yb,gf.z1,gf.z2,gf.z3,gf.z4,gg.z1,gg.z2,gg.z3,gg.z4])
  show (match freeze (980+20) hp (.agg [aa i,aa j,c1,c2,c3,c4,d1,d2,d3,d4]) with | some (v',_)=>some v' | none=>none)=_
  rw [e]
 unfold af at e1 e2 ⊢;rw [aq MG];simp only [go_sem,ya,yb,QO,aG,bl,u1.pu,u1.ah,u1.one,u2.pu,u2.ah,u2.one,u3.pu,u3.ah,u3.one,u4.pu,u4.ah,u4.one,aZ,yd,nT,mA,e1,e2,gf.st,gg.st,apO,apP,apQ,apR,gf.o1,gf.o2,gf.o3,gf.o4,gg.o1,gg.o2,gg.o3,gg.o4,bh,dB,dD,yj];exact zq _ _ _
end
end
end VE
