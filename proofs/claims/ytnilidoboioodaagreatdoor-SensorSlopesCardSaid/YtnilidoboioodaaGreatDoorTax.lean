import Derived.Test.YtnilidoboioodaaGreatDoorTaw
import Derived.Test.YtnilidoboioodaaGreatDoorTau
import Derived.Test.YtnilidoboioodaaGreatDoorTaf
set_option linter.all false
set_option maxRecDepth 100000
open Go renaming Code→wF,Func→yaA,World→yh
open Go.Fence renaming wide→tQ
open List renaming append_assoc→xn,length_append→yU,length_cons→yH,length_nil→yM,map_append→xx,map_map→yaC,map_reverse→uR,nil_append→xL
open Nat renaming ble_eq_true_of_le→yu,div_eq_of_lt→wa,le_refl→yv,le_trans→xi,lt_of_lt_of_le→yR,mul_one→yo,pow_le_pow_right→xA,pow_pos→ybh,pow_succ→y9,reduceAdd→yc,reduceEqDiff→ya,reduceLT→yz,reduceLeDiff→yt,reduceMul→xk,zero_add→yj
open UInt8 renaming toNat→yZ
namespace VE
open Go (IntKind)
def Sx:∀j:Nat,fD [48] j++[48]=[48]++fD [48] j
 | 0=>rfl
 | j+1=>by
  show ([48]++fD [48] j)++[48]=[48]++([48]++fD [48] j)
  rw [xn,Sx j]
def BC:∀j:Nat,(fD [48] j).length=j
 | 0=>rfl
 | j+1=>by show ([48]++fD [48] j).length=_;rw [yU,BC j];simp;omega
def ac5:∀(k n:Nat),n<10^k->0<k->gg k n=fD [48] (k-(aw n).length)++aw n:=by
 intro k
 induction k with
 | zero=>intro n _ h;omega
 | succ k ih=>
  intro n hn _;rw [gg];by_cases fH:n<10
  ·rw [mo fH,Nat.mod_eq_of_lt fH]
   cases k with
   | zero=>rfl
   | succ k=>
    rw [ih (n/10) (by rw [wa fH];exact ybh (by decide)) (by omega),wa fH]
    rw [show aw 0=[48] by decide];rw [Sx];rfl
  ·have hk:0<k:=by
    grind
   rw [ih (n/10) (by rw [y9] at hn;omega) hk,nB fH,xn,yU]
   grind
def ac6 {m d r:Nat} (hd:d=m/1000000000000000000) (hr:r=m%1000000000000000000):(0<d->aw m=aw d++(fD [48] (18-(aw r).length)++aw r))/\(d=0->aw m=aw r):=by
 have P1:r<10^18:=by omega
 constructor
 ·intro h0;rw [<-ac5 18 r P1 (by decide),<-Im 18 d r h0 P1]
  grind
 ·grind
section
variable {P:aR} {L:Lib}
def akh {f:bZ} (h:L.pure 138=some rq) {n:Nat} (hn:n<18446744073709551616):bA P L f 138 [uc n,aa 10]=some (.str (aw n)):=by
 rw [gX h];show (bif Nat.blt n 18446744073709551616 then some (AV.str (aw n)) else none)=_
 rw [jd hn];rfl
def M7 {f:bZ} (h:L.pure 139=some rM) {n:Nat} (hn:n<=100):bA P L f 139 [.str [48],aa (n:Nat)]=some (.str (fD [48] n)):=by
 rw [gX h];show (bif Nat.ble n 1099511627776&&Nat.ble (1*n) 1099511627776 then some (AV.str (fD [48] n)) else none)=_
 rw [yu (by omega),yu (by omega)];rfl
def aki (h:Wd P L) (AQ:L.pure 138=some rq) (qG:L.pure 139=some rM) {neg:Bool} {M K:Nat} (hM0:0<M) (hK:K<=4000000000) (hlen:(aw M).length<=300000000000):
  ∀k s,(∃(m:Nat) (w:AV) (ps:List (List Nat)) (fl:Bool),m=k/\WN w m/\m<18446744073709551616^K/\aw M=(if m=0 then [] else aw m)++ps.reverse.flatten/\((ps=[]->m=M)/\18*ps.length<=(aw M).length+18)/\(m≠0->18*ps.length+(aw m).length=(aw M).length)/\
    ((ps=[]/\aV [3,4,5,6] s=⟨[(3,.bool neg),(4,w),(5,.ay 0 0 1),(6,.af)],[(0,.cells fl true true 1 [uc 1000000000000000000])],1,0⟩)\/
    (ps≠[]/\aV [3,4,5,6] s=⟨[(3,.bool neg),(4,w),(5,.ay 0 0 1),(6,.ay 1 0 ps.length)],[(1,.cells true true false 1 (ps.map .str)),(0,.cells fl true true 1 [uc 1000000000000000000])],2,0⟩)))->
   ∃ex s',D P L (.loop [3,4,5,6] mI) s=some (ex,s')/\∃tm ps fl,ex= .exit 0/\ps≠[]/\ps.length<=300000000000/\aw M=ps.reverse.flatten/\ah tm 3= .bool neg/\ah tm 6= .ay 1 0 ps.length/\s'=⟨tm,[(1,.cells true true false 1 (ps.map .str)),(0,.cells fl true true 1 [uc 1000000000000000000])],2,0⟩:=by
 intro dq sq;generalize bz:aV [3,4,5,6] sq=s0;revert bz s0 sq dq;apply eb;rintro k s ⟨m,w,ps,fl,rfl,hw,hmK,rk,Xj,kS,hs⟩;obtain ⟨lw,uw,gw,nw,vw⟩:=hw;by_cases hm:m=0
 ·right
  have iT:lw=[]:=List.eq_nil_of_length_eq_zero (Nat.le_zero.1 (lR (K:=0) nw vw (by rw [hm];decide)))
  subst iT;rw [yT hm,xL] at rk;have dV:ps≠[]:=fun e=>by have:=Xj.1 e;omega
  have KZ:ps.length<=300000000000:=by have:=Xj.2;omega
  rcases hs with ⟨h0,_⟩ | ⟨_,rfl⟩
  ·exact absurd h0 dV
  ·simp only [go_sem,ya,mI,uw.len,yM,show ¬(0:Int)<((0:Nat):Int) by omega];exact ⟨_,_,rfl,by simp,_,ps,fl,rfl,dV,KZ,rk,by simp only [go_sem,ya],by simp only [go_sem,ya],rfl⟩
 ·left
  have hw:WN w m:=⟨lw,uw,gw,nw,vw⟩;have hB:WN (.aq true 1 [uc 1000000000000000000]) 1000000000000000000:=⟨[1000000000000000000],kE true [1000000000000000000],BX.2 (by decide),by decide,by simp [bv]⟩;obtain ⟨q,r,e1,hq,hr⟩:=W5 h hw hB (K:=K+1) (by decide) (yR hmK (xA (by decide) (by omega))) (by rw [y9];have:=ybh (n:=K) (show 0<18446744073709551616 by decide);omega) (by omega)
  obtain ⟨t1,t2⟩:=ac6 (m:=m) rfl rfl;have eJ:=Nat.div_add_mod m 1000000000000000000;have hrB:=Nat.mod_lt m (show 0<1000000000000000000 by decide);obtain ⟨d,hd⟩:∃d,d=m/1000000000000000000:=⟨_,rfl⟩;obtain ⟨x,hx⟩:∃x,x=m%1000000000000000000:=⟨_,rfl⟩;rw [<-hd] at hq t1 t2 eJ;rw [<-hx] at hr t1 t2 eJ hrB;obtain ⟨lq,uq,gq,nq,vq⟩:=hq;obtain ⟨lr,ur,gr,nr,vr⟩:=hr;have OX:(aw x).length<=18:=oc (k:=17) (by omega);have hxp:=rJ x;have GY:(lr=[]/\x=0)\/lr=[x]:=by
   have h1:lr.length<=1:=lR (K:=1) nr vr (by rw [Nat.pow_one];omega)
   cases lr with
   | nil=>exact .inl ⟨rfl,by rw [<-vr];rfl⟩
   | cons a l=>
    cases l with
    | nil=>rw [rX] at vr;exact .inr (by rw [vr])
    | cons b l=>simp at h1
  have Hd:(lq=[]/\d=0)\/(0<lq.length/\0<d):=by
   cases lq with
   | nil=>exact .inl ⟨rfl,by rw [<-vq];rfl⟩
   | cons a l=>
    refine .inr ⟨by simp,?_⟩;rcases Nat.eq_zero_or_pos d with h0 | h0
    ·have:=lR (K:=0) nq vq (by rw [h0];decide)
     simp at this
    ·exact h0
  unfold ai at e1;have zu:(0:Int)<(lw.length:Int):=by
   have:lw≠[]:=fun e=>by subst e;simp [bv] at vw;omega
   have:=List.length_pos_iff.2 this
   omega
  have arD:=kS hm;have hmp:=rJ m;have new:∀t:List Nat,aw m=(if d=0 then [] else aw d)++t->(d≠0->t.length=18)->
    aw M=(if d=0 then [] else aw d)++(ps++[t]).reverse.flatten/\((ps++[t]=[]->d=M)/\18*(ps++[t]).length<=(aw M).length+18)/\(d≠0->18*(ps++[t]).length+(aw d).length=(aw M).length):=fun t h1 h2=>by
   rw [yE hm,h1] at rk;refine ⟨by rw [rk];simp,⟨by simp,by simp only [yU,yH,yM];omega⟩,fun h0=>?_⟩
   have h3:=congrArg List.length h1;rw [yE h0,yU,h2 h0] at h3;simp only [yU,yH,yM];omega
  have sL:d<m:=by omega
  have zx:WN q d:=⟨lq,uq,gq,nq,vq⟩;have mg:lr=[x]->iv 1 0 r=some (.bR (.int .u64 x::([]:List AV))):=fun e=>by
   subst e
   have:=ur.bt (i:=0) (by simp)
   simpa using this
  have f1:=akh (P:=P) (f:=D P L) AQ (n:=x) (by omega);have f2:=M7 (P:=P) (f:=D P L) qG (n:=18-(aw x).length) (by omega);have OA:(18:Int)-((aw x).length:Int)=((18-(aw x).length:Nat):Int):=by omega
  have arE:18*ps.length<=300000000000:=by omega
  have zl:(fD [48] (18-(aw x).length)++aw x).length=18:=by rw [yU,BC];omega
  obtain ⟨z,hz⟩:∃z,z=aw x:=⟨_,rfl⟩;have ij:x=0->z=[48]:=fun e=>by rw [hz,e];decide
  rw [<-hz] at f1 f2 OA OX hxp zl t1 t2;cases fl
  all_goals
   rcases Hd with ⟨rfl,fU⟩ | ⟨C4,fU⟩
   ·obtain ⟨n1,n2,n3⟩:=new z (by rw [yT fU,xL];exact t2 fU) (fun h=>absurd fU h)
    rcases GY with ⟨rfl,q8⟩ | rfl
    ·have jP:=ij q8;clear hz;subst jP;rcases hs with ⟨fR,rfl⟩ | ⟨fR,rfl⟩
     ·subst fR;simp only [go_sem,ya,yc,xk,yz,yt,yo,mI,uw.len,uw.ak,uq.len,uq.bG,ur.len,ur.bG,zu,e1,yM,yM,show ¬(0:Int)<((0:Nat):Int) by omega,js];refine ⟨_,d,rfl,sL,d,q,[]++[[48]],false,rfl,zx,by omega,n1,n2,n3,.inr ⟨by simp,?_⟩⟩;simp only [go_sem,ya,yc,aA,aB uq.pu,aE _ uq.pu]<;>rfl
     ·simp only [go_sem,ya,yc,yz,yt,yo,mI,uw.len,uw.ak,uq.len,uq.bG,ur.len,ur.bG,zu,e1,yM,yM,show ¬(0:Int)<((0:Nat):Int) by omega]
      rw [iq (ex:=false) (pu:=true) (cs:=ps.map .str) (by simp only [go_sem,ya]) (by simp) (by omega) (by omega) (by decide) (by simp only [go_sem])];simp only [go_sem,ya,yc];refine ⟨_,d,rfl,sL,d,q,ps++[[48]],false,rfl,zx,by omega,n1,n2,n3,.inr ⟨by simp,?_⟩⟩;rw [xx,yU];simp only [go_sem,ya,yc,aA,aB uq.pu,aE _ uq.pu]<;>rfl
    ·rcases hs with ⟨fR,rfl⟩ | ⟨fR,rfl⟩
     ·subst fR;simp only [go_sem,ya,yc,xk,yz,yt,yo,mI,uw.len,uw.ak,uq.len,uq.bG,ur.len,ur.bG,zu,e1,yH,yM,yj,show (0:Int)<((1:Nat):Int) by omega,mg rfl,f1,yM,show ¬(0:Int)<((0:Nat):Int) by omega,js];refine ⟨_,d,rfl,sL,d,q,[]++[z],false,rfl,zx,by omega,n1,n2,n3,.inr ⟨by simp,?_⟩⟩;simp only [go_sem,ya,yc,aA,aB uq.pu,aE _ uq.pu]<;>rfl
     ·simp only [go_sem,ya,yc,yz,yt,yo,mI,uw.len,uw.ak,uq.len,uq.bG,ur.len,ur.bG,zu,e1,yH,yM,yj,show (0:Int)<((1:Nat):Int) by omega,mg rfl,f1,yM,show ¬(0:Int)<((0:Nat):Int) by omega]
      rw [iq (ex:=false) (pu:=true) (cs:=ps.map .str) (by simp only [go_sem,ya]) (by simp) (by omega) (by omega) (by decide) (by simp only [go_sem])];simp only [go_sem,ya,yc];refine ⟨_,d,rfl,sL,d,q,ps++[z],false,rfl,zx,by omega,n1,n2,n3,.inr ⟨by simp,?_⟩⟩;rw [xx,yU];simp only [go_sem,ya,yc,aA,aB uq.pu,aE _ uq.pu]<;>rfl
   ·obtain ⟨n1,n2,n3⟩:=new (fD [48] (18-z.length)++z) (by rw [yE (by omega)];exact t1 fU) (fun _=>zl)
    rcases GY with ⟨rfl,q8⟩ | rfl
    ·have jP:=ij q8;clear hz;subst jP;rcases hs with ⟨fR,rfl⟩ | ⟨fR,rfl⟩
     ·subst fR
      simp only [go_sem,ya,yc,xk,yz,yt,yo,mI,uw.len,uw.ak,uq.len,uq.bG,ur.len,ur.bG,zu,e1,yM,show ¬(0:Int)<((0:Nat):Int) by omega,show (0:Int)<(lq.length:Int) by omega,show (18:Int)-((1:Nat):Int)=((17:Nat):Int) from rfl,wrapN (n:=17) (by omega),M7 (P:=P) (f:=D P L) qG (n:=17) (by omega),fc (a:=fD [48] 17) (b:=[48]) (by rw [BC];decide),js]
      refine ⟨_,d,rfl,sL,d,q,[]++[fD [48] 17++[48]],false,rfl,zx,by omega,n1,n2,n3,.inr ⟨by simp,?_⟩⟩;simp only [go_sem,ya,yc,aA,aB uq.pu,aE _ uq.pu]<;>rfl
     ·simp only [go_sem,ya,yc,yz,yt,yo,mI,uw.len,uw.ak,uq.len,uq.bG,ur.len,ur.bG,zu,e1,yM,show ¬(0:Int)<((0:Nat):Int) by omega,show (0:Int)<(lq.length:Int) by omega,show (18:Int)-((1:Nat):Int)=((17:Nat):Int) from rfl,wrapN (n:=17) (by omega),M7 (P:=P) (f:=D P L) qG (n:=17) (by omega),fc (a:=fD [48] 17) (b:=[48]) (by rw [BC];decide)]
      rw [iq (ex:=false) (pu:=true) (cs:=ps.map .str) (by simp only [go_sem,ya]) (by simp) (by omega) (by omega) (by decide) (by simp only [go_sem])];simp only [go_sem,ya,yc];refine ⟨_,d,rfl,sL,d,q,ps++[fD [48] 17++[48]],false,rfl,zx,by omega,n1,n2,n3,.inr ⟨by simp,?_⟩⟩;rw [xx,yU];simp only [go_sem,ya,yc,aA,aB uq.pu,aE _ uq.pu]<;>rfl
    ·rcases hs with ⟨fR,rfl⟩ | ⟨fR,rfl⟩
     ·subst fR
      simp only [go_sem,ya,yc,xk,yz,yt,yo,mI,uw.len,uw.ak,uq.len,uq.bG,ur.len,ur.bG,zu,e1,yH,yM,yj,show (0:Int)<((1:Nat):Int) by omega,mg rfl,f1,show (0:Int)<(lq.length:Int) by omega,OA,wrapN (n:=18-z.length) (by omega),f2,fc (a:=fD [48] (18-z.length)) (b:=z) (by rw [BC];omega),js];refine ⟨_,d,rfl,sL,d,q,[]++[fD [48] (18-z.length)++z],false,rfl,zx,by omega,n1,n2,n3,.inr ⟨by simp,?_⟩⟩;simp only [go_sem,ya,yc,aA,aB uq.pu,aE _ uq.pu]<;>rfl
     ·simp only [go_sem,ya,yc,yz,yt,yo,mI,uw.len,uw.ak,uq.len,uq.bG,ur.len,ur.bG,zu,e1,yH,yM,yj,show (0:Int)<((1:Nat):Int) by omega,mg rfl,f1,show (0:Int)<(lq.length:Int) by omega,OA,wrapN (n:=18-z.length) (by omega),f2,fc (a:=fD [48] (18-z.length)) (b:=z) (by rw [BC];omega)]
      rw [iq (ex:=false) (pu:=true) (cs:=ps.map .str) (by simp only [go_sem,ya]) (by simp) (by omega) (by omega) (by decide) (by simp only [go_sem])];simp only [go_sem,ya,yc];refine ⟨_,d,rfl,sL,d,q,ps++[fD [48] (18-z.length)++z],false,rfl,zx,by omega,n1,n2,n3,.inr ⟨by simp,?_⟩⟩;rw [xx,yU];simp only [go_sem,ya,yc,aA,aB uq.pu,aE _ uq.pu]<;>rfl
end
def Gf:Nat->VC->VC
 | 0,c=>bn c
 | n+1,c=> .seq (bn c) (Gf n (ax c))
section
variable {P:aR} {L:Lib}
def abv (h:Nu P L) (AQ:L.pure 138=some rq) (qG:L.pure 139=some rM) {s z:Int} {e:Bool} {l:List Nat} (hn:cU s (.aq e l.length (l.map uc)) z) {K:Nat} (jP:0<z.natAbs) (K0:z.natAbs<18446744073709551616^K) (hK:K<=4000000000) (hlen:(aw z.natAbs).length<=300000000000):
  ∃ps:List (List Nat),ps≠[]/\ps.length<=300000000000/\aw z.natAbs=ps.reverse.flatten/\D P L (Gf 5 A8.body) ⟨[(0,.agg [aa s,.aq e l.length (l.map uc)])],[],0,0⟩=some (.normal,⟨[(3,.bool (decide (z<0))),(6,.ay 0 0 ps.length)],[(0,.cells true true false 1 (ps.map .str))],1,0⟩):=by
 obtain ⟨r,e1,hr⟩:=qF h hn;have b9:=hr;obtain ⟨lr,ur,gr,nr,vr⟩:=hr;simp only [go_sem,ya,yc,yt,yo,A8,Gf,bn,ax,aZ,bL,yj,cB,lH,c8,bQ,bY,e1];generalize kz:D P L (.loop [3,4,5,6] mI) _=qq;obtain ⟨ex,st,rfl,tm,ps,fl,rfl,dV,KZ,rk,t3,t6,rfl⟩:=bP kz (aki (P:=P) (L:=L) h.toWd AQ qG (neg:=decide (z<0)) (M:=z.natAbs) (K:=K) jP hK hlen z.natAbs) ⟨z.natAbs,bG r,[],true,rfl,b9,K0,by rw [yE (by omega)];simp,⟨fun _=>rfl,by simp⟩,fun _=>by simp,.inl ⟨rfl,by
  simp only [go_sem,ya,yc,aA,aB ur.pu,aE _ ur.pu]<;>rfl⟩⟩
 refine ⟨ps,dV,KZ,rk,?_⟩;simp only [go_sem,yc,aA,t3,t6]
end
section
open Go
variable {O:bh}
def p7:Nat->wF->wF
 | 0,.seq _ b=>b
 | n+1,.seq _ b=>p7 n b
 | _,c=>c
def J8:Nat->wF->Prop
 | 0,.seq _ _=>True
 | n+1,.seq _ b=>J8 n b
 | _,_=>False
def Tq (hO:fw O) {h:Nat} {c:wF} {l k:Nat} {s:St} {ex:Ex} {s':St} (hv:D O.prog O.aG (comp O.P (O.hint h) c l k).1 s=some (ex,s')):sf O h c s ex s':=by
 obtain ⟨n,hn⟩:=N7 hv
 cases n with
 | zero=>rw [EC] at hn;cases hn
 | succ n=>
  exact Ua hO n (fun k _=>QN hO k) h c l k n (yv _) s ex s' hn
def UY (hO:fw O) {h:Nat} {ro:Option Nat} {lo:Nat} {Q:Exit->Act->yh->Prop}:∀(n:Nat) (c:wF) (l k:Nat),J8 n c->∀(s s1:St),D O.prog O.aG (Gf n (comp O.P (O.hint h) c l k).1) s=some (.normal,s1)->
  ∀(m:Mp) (S:Nat->Prop) (w:yh) (a:Act),pO ro w->bH O m S w s.tm a.tmps->aQ O m S w s.hp s.ct->s.base<=s.ct->(O.hint h).n<=a.tmps.size->O.w0.heap.size<=lo->lo<=w.heap.size->Marks lo S w a.defers->
  (∀a' w',dL O m S w s .normal s1 a.tmps.size lo .normal a' w'->(p7 n c).wpIn (WF ro) 0 O.P Q a' w')->c.wpIn (WF ro) 0 O.P Q a w
 | n,c,l,k,hc,s,s1,hv=>by
  intro m S w a cA ht hh hb hn aY eh b6 hQ
  cases c with
  | seq x y=>
   cases n with
   | zero=>
    refine wpIn_seq (wpIn_mono (Tq hO (show D O.prog O.aG (comp O.P (O.hint h) x l k).1 s=some (.normal,s1) from hv) ro lo m S w a cA ht hh hb hn aY eh b6) ?_);rintro e a' w' hp;have he:e= .normal:=hp.1;subst he;exact hQ a' w' hp
   | succ n=>
    have dN:D O.prog O.aG (.seq (comp O.P (O.hint h) x l k).1 (Gf n (comp O.P (O.hint h) y (comp O.P (O.hint h) x l k).2.1 (comp O.P (O.hint h) x l k).2.2).1)) s=some (.normal,s1):=hv;rw [j0] at dN
    cases hx:D O.prog O.aG (comp O.P (O.hint h) x l k).1 s with
    | none=>rw [hx] at dN;cases dN
    | some q=>
     obtain ⟨ex,st⟩:=q;rw [hx] at dN
     cases ex with
     | ret=>exact absurd dN (by intro h;cases h)
     | exit id=>exact absurd dN (by intro h;cases h)
     | normal=>
      refine wpIn_seq (wpIn_mono (Tq hO hx ro lo m S w a cA ht hh hb hn aY eh b6) ?_);rintro e a' w' ⟨rfl,m',S',k1,k2,k3,k4,k5,k6,k7⟩;refine UY hO n y _ _ hc st s1 dN m' S' w' a' (HX k5 cA) k1 k2 (by omega) (by omega) aY (xi eh k5.size) k7 ?_;rintro a2 w2 ⟨_,m2,S2,g1,g2,g3,g4,g5,g6,g7⟩;exact hQ a2 w2 ⟨rfl,m2,S2,g1,g2,by omega,by omega,k5.trans (by rw [<-k3];exact g5),by omega,g7⟩
  | _=>cases n<;>exact hc.elim
def akj (hO:fw O) {n:Nat} {F:aF} (hF:O.prog n=some F) {fn:yaA} {c:wF} (jn:O.P.funcs[O.ab n]? =some fn) (gT:fn.body=some c) {hp:Hp} {ct:Nat} {aj:List AV} {s:St}
  (hc:(comp O.P (O.hint n) c 0 0).1=F.body->∀m S w a,bH O m S w (eE 0 aj) a.tmps->aQ O m S w hp ct->(O.hint n).n<=a.tmps.size->a.tmps.size=max fn.ntmps aj.length->O.w0.heap.size<=w.heap.size->a.defers=[]->
   c.wpIn (WF none) 0 O.P (dL O m S w ⟨eE 0 aj,hp,ct,ct⟩ .ret s a.tmps.size w.heap.size) a w) {v:AV} (hr:gA s F.eT=some v):se O n hp ct aj v s.hp s.ct:=by
 intro m S w args hh dF;obtain ⟨fn',q1,q2,q3⟩:=hO.prog n F hF;rw [jn] at q1;cases q1;obtain ⟨c',q4,q5,q6,q7⟩:=Lh q2;rw [gT] at q4;cases q4;refine .inl ⟨Ij jn (by rw [gT];rfl) q3,?_⟩
 have hlen:aj.length=args.size:=by have:=(eZ _ _ dF).symm;simpa using this
 have hw:=hc q5.symm m S w {tmps:=args++Array.replicate (fn.ntmps-args.size) undef,defers:=[]} (Sg _ dF) hh (by simp;omega) (by simp;omega) hh.eK rfl
 refine callsIn_of_wp_marks (F:=tQ) jn gT trivial (wpIn_mono hw ?_);rintro e a' w' ⟨rfl,m',S',k1,k2,k3,k4,k5,k6,rs,k7,k8,k9⟩;show LeavesInM tQ 0 O.P fn a'.tmps (pE O m S w hp ct v s.hp s.ct) a'.defers .returning w'
 rw [k7];exact LL q6 hr k4 rs w' k8 k9 hh.eK k2 k1 k5
def afd (hO:fw O) {n:Nat} {F:aF} (hF:O.prog n=some F) {fn:yaA} {c:wF} (jn:O.P.funcs[O.ab n]? =some fn) (gT:fn.body=some c) {aj:List AV} {s:St}
  (hc:(comp O.P (O.hint n) c 0 0).1=F.body->∀m S w a,bH O m S w (eE 0 aj) a.tmps->aQ O m S w [] 0->(O.hint n).n<=a.tmps.size->a.tmps.size=max fn.ntmps aj.length->O.w0.heap.size<=w.heap.size->a.defers=[]->
   c.wpIn (WF none) 0 O.P (dL O m S w ⟨eE 0 aj,[],0,0⟩ .ret s a.tmps.size w.heap.size) a w) {v r:AV} (hv:gA s F.eT=some v) (hr:result s.hp v=some r):dG O n aj r:=
 K9 (akj hO hF jn gT hc hv) hr
end
section
open Go
def RG {ab:Nat->Nat} {m:Mp} {S:Nat->Prop} {w:yh} {b:Nat}:∀{ps:List (List Nat)} {o:Nat},bF ab m S w (ps.map .str) b o->
  ∃ts:List ByteArray,(ts.map fun t=>t.data.toList.map yZ)=ps/\∀i (h:i<ts.length),w.cell? ⟨b,o+i,none⟩=some (.string ts[i])
 | [],o,_=>⟨[],rfl,fun i h=>absurd h (Nat.not_lt_zero i)⟩
 | p::ps,o,h=>by
  obtain ⟨⟨u,h1,h2⟩,h3⟩:=h;obtain ⟨t,rfl,ht⟩:=h2;obtain ⟨ts,k1,k2⟩:=RG h3;refine ⟨t::ts,by rw [List.map_cons,ht,k1],fun i hi=>?_⟩
  cases i with
  | zero=>exact h1
  | succ i=>
   grind
def lS (ts:List ByteArray):List UInt8:=(ts.map fun t=>t.data.toList).flatten
def ahc {ts:List ByteArray} {ps:List (List Nat)} (h:(ts.map fun t=>t.data.toList.map yZ)=ps):(lS ts.reverse).map yZ=ps.reverse.flatten:=by
 subst h;unfold lS;rw [List.map_flatten,yaC,<-uR];rfl
def ahd {ts:List ByteArray} {ps:List (List Nat)} (h:(ts.map fun t=>t.data.toList.map yZ)=ps):(ts.map (·.size)).sum=ps.reverse.flatten.length:=by
 subst h;rw [List.length_flatten,uR,List.sum_reverse,yaC]
 congr 1
 simp_all
def MK (P:Program) (c:wF):Prop:=∀(Q:Exit->Act->yh->Prop) (a:Act) (w:yh) (neg:Bool) (ts:List ByteArray) (b o cc:Nat),a.tmps.size=69->a.tmps.getD 3 undef= .bool neg->a.tmps.getD 6 undef= .slice (some ⟨b,o,none⟩) ts.length cc->
  (∀i (h:i<ts.length),w.cell? ⟨b,o+i,none⟩=some (.string ts[i]))->(ts.map (·.size)).sum+1<=140737488355328->ts.length<=cc->ts.length<9223372036854775808->
  (∀a' w',Calm w w'->a'.tmps.size=69->a'.defers=a.defers->a'.tmps.getD 2 undef= .string ⟨((if neg then [45] else [])++lS ts.reverse).toArray⟩->Q .ret a' w')->
  (p7 5 c).wpIn Fence.wide 0 P Q a w
section
variable {O:bh}
def abw {n K:Nat} (h:n<18446744073709551616^K):(aw n).length<=20*K+1:=by
 refine oc (k:=20*K) (yR h ?_);have h1:(10:Nat)^(20*K)=(10^20)^K:=Nat.pow_mul ..;exact xi (by rw [h1];exact Nat.pow_le_pow_left (by decide) K) (xA (by decide) (Nat.le_succ _))
def afe (hO:fw O) (hN:Nu O.prog O.aG) (AQ:O.aG.pure 138=some rq) (qG:O.aG.pure 139=some rM) (C3:O.prog 99=some A8) {fn:yaA} {c:wF} (jn:O.P.funcs[O.ab 99]? =some fn) (gT:fn.body=some c) (Kp:fn.ntmps=69)
  (OB:J8 5 c) (ht:MK O.P c) {s z:Int} {e:Bool} {l:List Nat} (hn:cU s (.aq e l.length (l.map uc)) z) (jP:0<z.natAbs) (hK:l.length<=4000000000) (K0:z.natAbs<18446744073709551616^l.length):
  dG O 99 [.agg [aa s,.aq e l.length (l.map uc)]] (.str (aS z)):=by
 have hlen:=abw K0;obtain ⟨ps,dV,KZ,rk,e1⟩:=abv (P:=O.prog) (L:=O.aG) hN AQ qG hn jP K0 hK (by omega)
 refine afd hO C3 jn gT (s:=⟨[(2,.str (aS z))],[(0,.cells true true false 1 (ps.map .str))],1,0⟩) (v:= .str (aS z)) ?_ rfl rfl;intro alT m S w a htr hh ph dM hgs Bj;refine UY hO 5 c 0 0 OB _ _ (by rw [alT];exact e1) m S w a (fun l hl=>by cases hl) htr hh (yv _) ph hgs (yv _) ⟨[],by rw [Bj];rfl,by simp,by simp⟩ ?_
 rintro a' w' ⟨_,m',S',k1,k2,k3,k4,k5,k6,k7⟩;have r3:=k1 3;have r6:=k1 6;have g3:ah [(3,AV.bool (decide (z<0))),(6,.ay 0 0 ps.length)] 3= .bool (decide (z<0)):=rfl;have g6:ah [(3,AV.bool (decide (z<0))),(6,.ay 0 0 ps.length)] 6= .ay 0 0 ps.length:=rfl;rw [g3] at r3;rw [g6] at r6;simp only [ae] at r3 r6;obtain ⟨p,cc,hm,r6,hcc,_⟩:=r6;obtain ⟨p',arr,t,gk,_,_,_,_,_,AW,_⟩:=k2.obj 0 _ p rfl hm;rw [hm] at gk;cases gk;obtain ⟨ts,kq,At⟩:=RG AW;have lX:ts.length=ps.length:=by rw [<-kq,List.length_map]
 have sM:=ahd kq;rw [<-rk] at sM;have OC:=ahc kq;rw [<-rk] at OC;refine ht _ a' w' (decide (z<0)) ts p.b p.o cc ?_ r3 (by rw [lX];exact r6) At (by omega) (by omega) (by omega) ?_
 ·grind
 ·intro a2 w2 hc h1 h2 h3;have GK:=rC k2 hc (S':=S') (fun _ h=>h) (fun _ h=> .inl h) (fun b hb=>yR (k2.slt b hb) hc.size);refine ⟨rfl,m',S',?_,GK,rfl,Nat.zero_le _,k5.trans (pG k2 hc (fun _ h=>h) (fun _ h=> .inl h)),?_,?_⟩
  ·intro i;by_cases hi:i=2
   ·subst hi;rw [h3];show ae O.ab m' S' w2 (.str (aS z)) _
    simp only [ae];refine ⟨_,rfl,?_⟩;by_cases h0:z<0
    ·rw [lm h0,xo h0];simp only [xm,xx];rw [OC];rfl
    ·obtain ⟨n,rfl⟩:∃n:Nat,z=n:=⟨z.toNat,by omega⟩;rw [xb h0];simp only [Bool.false_eq_true,y8,xL];rw [OC];rfl
   ·have:ah [(2,AV.str (aS z))] i= .undef:=by
     have hb:Nat.beq 2 i=false:=by
      cases hq:Nat.beq 2 i with
      | false=>rfl
      | true=>exact absurd (Nat.eq_of_beq_eq_true hq).symm hi
     simp only [ah,hb,yI]
    show ae O.ab m' S' w2 (ah [(2,AV.str (aS z))] i) _
    rw [this];simp only [ae]
  ·rw [h1,dM,Kp];simp
  ·rw [h2]
   exact rD k2 (pG (base:=0) k2 hc (fun _ h=>h) (fun _ h=> .inl h)) k7
end
end
end VE
