import Derived.Test.YtjemkccfpkgopaaGreatDoorUas
import Derived.Test.YtjemkccfpkgopaaGreatDoorUaq
import Derived.Test.YtjemkccfpkgopaaGreatDoorUae
set_option linter.all false
set_option maxRecDepth 100000
open Go renaming Code→wL,Func→tD,World→yh
open Go.Fence renaming wide→yam
open List renaming append_assoc→xu,length_append→yL,length_cons→yG,length_nil→yO,map_append→xy,map_map→vT,map_reverse→tx,nil_append→wh
open Nat renaming ble_eq_true_of_le→yt,div_eq_of_lt→wB,le_refl→yo,le_trans→xf,lt_of_lt_of_le→yV,mul_one→yi,pow_le_pow_right→xb,pow_pos→ybN,pow_succ→xc,reduceAdd→yb,reduceEqDiff→ya,reduceLT→yM,reduceLeDiff→yy,reduceMul→xM,zero_add→yg
open UInt8 renaming toNat→y9
namespace VE
section
open Go (IntKind)
def abw:∀j:Nat,gm [48] j++[48]=[48]++gm [48] j
 | 0=>rfl
 | j+1=>by
  show ([48]++gm [48] j)++[48]=[48]++([48]++gm [48] j)
  rw [xu,abw j]
def Dz:∀j:Nat,(gm [48] j).length=j
 | 0=>rfl
 | j+1=>by show ([48]++gm [48] j).length=_;rw [yL,Dz j];simp;omega
def ao5:∀(k n:Nat),n<10^k->0<k->ib k n=gm [48] (k-(aw n).length)++aw n:=by
 intro k
 induction k with
 | zero=>intro n _ h;omega
 | succ k ih=>
  intro n hn _;rw [ib];by_cases ig:n<10
  ·rw [mX ig,Nat.mod_eq_of_lt ig]
   cases k with
   | zero=>rfl
   | succ k=>
    rw [ih (n/10) (by rw [wB ig];exact ybN (by decide)) (by omega),wB ig]
    rw [show aw 0=[48] by decide];rw [abw];rfl
  ·have hk:0<k:=by
    grind
   rw [ih (n/10) (by rw [xc] at hn;omega) hk,nX ig,xu,yL]
   grind
def ao6 {m d r:Nat} (hd:d=m/1000000000000000000) (hr:r=m%1000000000000000000):(0<d->aw m=aw d++(gm [48] (18-(aw r).length)++aw r))/\(d=0->aw m=aw r):=by
 have Y5:r<10^18:=by omega
 constructor
 ·intro h0;rw [<-ao5 18 r Y5 (by decide),<-Lp 18 d r h0 Y5]
  grind
 ·grind
section
variable {P:aH} {L:Lib}
def axd {f:cy} (h:L.pure 138=some zK) {n:Nat} (hn:n<18446744073709551616):bH P L f 138 [uc n,ab 10]=some (.str (aw n)):=by
 rw [iL h];show (bif Nat.blt n 18446744073709551616 then some (AV.str (aw n)) else none)=_
 rw [jS hn];rfl
def RF {f:cy} (h:L.pure 139=some zZ) {n:Nat} (hn:n<=100):bH P L f 139 [.str [48],ab (n:Nat)]=some (.str (gm [48] n)):=by
 rw [iL h];show (bif Nat.ble n 1099511627776&&Nat.ble (1*n) 1099511627776 then some (AV.str (gm [48] n)) else none)=_
 rw [yt (by omega),yt (by omega)];rfl
def axe (h:Wd P L) (CF:L.pure 138=some zK) (ze:L.pure 139=some zZ) {neg:Bool} {M K:Nat} (hM0:0<M) (hK:K<=4000000000) (hlen:(aw M).length<=300000000000):
  ∀k s,(∃(m:Nat) (w:AV) (ps:List (List Nat)) (fl:Bool),m=k/\WN w m/\m<18446744073709551616^K/\aw M=(if m=0 then [] else aw m)++ps.reverse.flatten/\((ps=[]->m=M)/\18*ps.length<=(aw M).length+18)/\(m≠0->18*ps.length+(aw m).length=(aw M).length)/\
    ((ps=[]/\aQ [3,4,5,6] s=⟨[(3,.bool neg),(4,w),(5,.aC 0 0 1),(6,.aa)],[(0,.cells fl true true 1 [uc 1000000000000000000])],1,0⟩)\/
    (ps≠[]/\aQ [3,4,5,6] s=⟨[(3,.bool neg),(4,w),(5,.aC 0 0 1),(6,.aC 1 0 ps.length)],[(1,.cells true true false 1 (ps.map .str)),(0,.cells fl true true 1 [uc 1000000000000000000])],2,0⟩)))->
   ∃ex s',D P L (.loop [3,4,5,6] oz) s=some (ex,s')/\∃tm ps fl,ex= .exit 0/\ps≠[]/\ps.length<=300000000000/\aw M=ps.reverse.flatten/\aj tm 3= .bool neg/\aj tm 6= .aC 1 0 ps.length/\s'=⟨tm,[(1,.cells true true false 1 (ps.map .str)),(0,.cells fl true true 1 [uc 1000000000000000000])],2,0⟩:=by
 intro dq sq;generalize bk:aQ [3,4,5,6] sq=s0;revert bk s0 sq dq;apply di;rintro k s ⟨m,w,ps,fl,rfl,hw,hmK,zJ,ajF,fe,hs⟩;obtain ⟨lw,uw,gw,nw,vw⟩:=hw;by_cases hm:m=0
 ·right
  have ko:lw=[]:=List.eq_nil_of_length_eq_zero (Nat.le_zero.1 (nB (K:=0) nw vw (by rw [hm];decide)))
  subst ko;rw [yE hm,wh] at zJ;have bN:ps≠[]:=fun e=>by have:=ajF.1 e;omega
  have O9:ps.length<=300000000000:=by have:=ajF.2;omega
  rcases hs with ⟨h0,_⟩ | ⟨_,rfl⟩
  ·exact absurd h0 bN
  ·simp only [go_sem,ya,oz,uw.len,yO,show ¬(0:Int)<((0:Nat):Int) by omega];exact ⟨_,_,rfl,by simp,_,ps,fl,rfl,bN,O9,zJ,by simp only [go_sem,ya],by simp only [go_sem,ya],rfl⟩
 ·left
  have hw:WN w m:=⟨lw,uw,gw,nw,vw⟩;have hB:WN (.ai true 1 [uc 1000000000000000000]) 1000000000000000000:=⟨[1000000000000000000],mw true [1000000000000000000],D6.2 (by decide),by decide,by simp [bv]⟩;obtain ⟨q,r,e1,hq,hr⟩:=ajp h hw hB (K:=K+1) (by decide) (yV hmK (xb (by decide) (by omega))) (by rw [xc];have:=ybN (n:=K) (show 0<18446744073709551616 by decide);omega) (by omega)
  obtain ⟨t1,t2⟩:=ao6 (m:=m) rfl rfl;have fy:=Nat.div_add_mod m 1000000000000000000;have hrB:=Nat.mod_lt m (show 0<1000000000000000000 by decide);obtain ⟨d,hd⟩:∃d,d=m/1000000000000000000:=⟨_,rfl⟩;obtain ⟨x,hx⟩:∃x,x=m%1000000000000000000:=⟨_,rfl⟩;rw [<-hd] at hq t1 t2 fy;rw [<-hx] at hr t1 t2 fy hrB;obtain ⟨lq,uq,gq,nq,vq⟩:=hq;obtain ⟨lr,ur,gr,nr,vr⟩:=hr;have hxl:(aw x).length<=18:=qw (k:=17) (by omega);have hxp:=qB x;have Kc:(lr=[]/\x=0)\/lr=[x]:=by
   have h1:lr.length<=1:=nB (K:=1) nr vr (by rw [Nat.pow_one];omega)
   cases lr with
   | nil=>exact .inl ⟨rfl,by rw [<-vr];rfl⟩
   | cons a l=>
    cases l with
    | nil=>rw [Af] at vr;exact .inr (by rw [vr])
    | cons b l=>simp at h1
  have Kr:(lq=[]/\d=0)\/(0<lq.length/\0<d):=by
   cases lq with
   | nil=>exact .inl ⟨rfl,by rw [<-vq];rfl⟩
   | cons a l=>
    refine .inr ⟨by simp,?_⟩;rcases Nat.eq_zero_or_pos d with h0 | h0
    ·have:=nB (K:=0) nq vq (by rw [h0];decide)
     simp at this
    ·exact h0
  unfold ak at e1;have Bh:(0:Int)<(lw.length:Int):=by
   have:lw≠[]:=fun e=>by subst e;simp [bv] at vw;omega
   have:=List.length_pos_iff.2 this
   omega
  have aHg:=fe hm;have hmp:=qB m;have new:∀t:List Nat,aw m=(if d=0 then [] else aw d)++t->(d≠0->t.length=18)->
    aw M=(if d=0 then [] else aw d)++(ps++[t]).reverse.flatten/\((ps++[t]=[]->d=M)/\18*(ps++[t]).length<=(aw M).length+18)/\(d≠0->18*(ps++[t]).length+(aw d).length=(aw M).length):=fun t h1 h2=>by
   rw [yr hm,h1] at zJ;refine ⟨by rw [zJ];simp,⟨by simp,by simp only [yL,yG,yO];omega⟩,fun h0=>?_⟩
   have h3:=congrArg List.length h1;rw [yr h0,yL,h2 h0] at h3;simp only [yL,yG,yO];omega
  have AK:d<m:=by omega
  have Bi:WN q d:=⟨lq,uq,gq,nq,vq⟩;have nM:lr=[x]->jv 1 0 r=some (.bZ (.int .u64 x::([]:List AV))):=fun e=>by
   subst e
   have:=ur.aM (i:=0) (by simp)
   simpa using this
  have f1:=axd (P:=P) (f:=D P L) CF (n:=x) (by omega);have f2:=RF (P:=P) (f:=D P L) ze (n:=18-(aw x).length) (by omega);have Xx:(18:Int)-((aw x).length:Int)=((18-(aw x).length:Nat):Int):=by omega
  have aHh:18*ps.length<=300000000000:=by omega
  have zl:(gm [48] (18-(aw x).length)++aw x).length=18:=by rw [yL,Dz];omega
  obtain ⟨z,hz⟩:∃z,z=aw x:=⟨_,rfl⟩;have jb:x=0->z=[48]:=fun e=>by rw [hz,e];decide
  rw [<-hz] at f1 f2 Xx hxl hxp zl t1 t2;cases fl
  all_goals
   rcases Kr with ⟨rfl,fX⟩ | ⟨Pa,fX⟩
   ·obtain ⟨n1,n2,n3⟩:=new z (by rw [yE fX,wh];exact t2 fX) (fun h=>absurd fX h)
    rcases Kc with ⟨rfl,zD⟩ | rfl
    ·have lh:=jb zD;clear hz;subst lh;rcases hs with ⟨gQ,rfl⟩ | ⟨gQ,rfl⟩
     ·subst gQ;simp only [go_sem,ya,yb,xM,yM,yy,yi,oz,uw.len,uw.ao,uq.len,uq.bT,ur.len,ur.bT,Bh,e1,yO,yO,show ¬(0:Int)<((0:Nat):Int) by omega,im];refine ⟨_,d,rfl,AK,d,q,[]++[[48]],false,rfl,Bi,by omega,n1,n2,n3,.inr ⟨by simp,?_⟩⟩;simp only [go_sem,ya,yb,av,au uq.pu,ax _ uq.pu]<;>rfl
     ·simp only [go_sem,ya,yb,yM,yy,yi,oz,uw.len,uw.ao,uq.len,uq.bT,ur.len,ur.bT,Bh,e1,yO,yO,show ¬(0:Int)<((0:Nat):Int) by omega]
      rw [gY (ex:=false) (pu:=true) (cs:=ps.map .str) (by simp only [go_sem,ya]) (by simp) (by omega) (by omega) (by decide) (by simp only [go_sem])];simp only [go_sem,ya,yb];refine ⟨_,d,rfl,AK,d,q,ps++[[48]],false,rfl,Bi,by omega,n1,n2,n3,.inr ⟨by simp,?_⟩⟩;rw [xy,yL];simp only [go_sem,ya,yb,av,au uq.pu,ax _ uq.pu]<;>rfl
    ·rcases hs with ⟨gQ,rfl⟩ | ⟨gQ,rfl⟩
     ·subst gQ;simp only [go_sem,ya,yb,xM,yM,yy,yi,oz,uw.len,uw.ao,uq.len,uq.bT,ur.len,ur.bT,Bh,e1,yG,yO,yg,show (0:Int)<((1:Nat):Int) by omega,nM rfl,f1,yO,show ¬(0:Int)<((0:Nat):Int) by omega,im];refine ⟨_,d,rfl,AK,d,q,[]++[z],false,rfl,Bi,by omega,n1,n2,n3,.inr ⟨by simp,?_⟩⟩;simp only [go_sem,ya,yb,av,au uq.pu,ax _ uq.pu]<;>rfl
     ·simp only [go_sem,ya,yb,yM,yy,yi,oz,uw.len,uw.ao,uq.len,uq.bT,ur.len,ur.bT,Bh,e1,yG,yO,yg,show (0:Int)<((1:Nat):Int) by omega,nM rfl,f1,yO,show ¬(0:Int)<((0:Nat):Int) by omega]
      rw [gY (ex:=false) (pu:=true) (cs:=ps.map .str) (by simp only [go_sem,ya]) (by simp) (by omega) (by omega) (by decide) (by simp only [go_sem])];simp only [go_sem,ya,yb];refine ⟨_,d,rfl,AK,d,q,ps++[z],false,rfl,Bi,by omega,n1,n2,n3,.inr ⟨by simp,?_⟩⟩;rw [xy,yL];simp only [go_sem,ya,yb,av,au uq.pu,ax _ uq.pu]<;>rfl
   ·obtain ⟨n1,n2,n3⟩:=new (gm [48] (18-z.length)++z) (by rw [yr (by omega)];exact t1 fX) (fun _=>zl)
    rcases Kc with ⟨rfl,zD⟩ | rfl
    ·have lh:=jb zD;clear hz;subst lh;rcases hs with ⟨gQ,rfl⟩ | ⟨gQ,rfl⟩
     ·subst gQ
      simp only [go_sem,ya,yb,xM,yM,yy,yi,oz,uw.len,uw.ao,uq.len,uq.bT,ur.len,ur.bT,Bh,e1,yO,show ¬(0:Int)<((0:Nat):Int) by omega,show (0:Int)<(lq.length:Int) by omega,show (18:Int)-((1:Nat):Int)=((17:Nat):Int) from rfl,wrapN (n:=17) (by omega),RF (P:=P) (f:=D P L) ze (n:=17) (by omega),fZ (a:=gm [48] 17) (b:=[48]) (by rw [Dz];decide),im]
      refine ⟨_,d,rfl,AK,d,q,[]++[gm [48] 17++[48]],false,rfl,Bi,by omega,n1,n2,n3,.inr ⟨by simp,?_⟩⟩;simp only [go_sem,ya,yb,av,au uq.pu,ax _ uq.pu]<;>rfl
     ·simp only [go_sem,ya,yb,yM,yy,yi,oz,uw.len,uw.ao,uq.len,uq.bT,ur.len,ur.bT,Bh,e1,yO,show ¬(0:Int)<((0:Nat):Int) by omega,show (0:Int)<(lq.length:Int) by omega,show (18:Int)-((1:Nat):Int)=((17:Nat):Int) from rfl,wrapN (n:=17) (by omega),RF (P:=P) (f:=D P L) ze (n:=17) (by omega),fZ (a:=gm [48] 17) (b:=[48]) (by rw [Dz];decide)]
      rw [gY (ex:=false) (pu:=true) (cs:=ps.map .str) (by simp only [go_sem,ya]) (by simp) (by omega) (by omega) (by decide) (by simp only [go_sem])];simp only [go_sem,ya,yb];refine ⟨_,d,rfl,AK,d,q,ps++[gm [48] 17++[48]],false,rfl,Bi,by omega,n1,n2,n3,.inr ⟨by simp,?_⟩⟩;rw [xy,yL];simp only [go_sem,ya,yb,av,au uq.pu,ax _ uq.pu]<;>rfl
    ·rcases hs with ⟨gQ,rfl⟩ | ⟨gQ,rfl⟩
     ·subst gQ
      simp only [go_sem,ya,yb,xM,yM,yy,yi,oz,uw.len,uw.ao,uq.len,uq.bT,ur.len,ur.bT,Bh,e1,yG,yO,yg,show (0:Int)<((1:Nat):Int) by omega,nM rfl,f1,show (0:Int)<(lq.length:Int) by omega,Xx,wrapN (n:=18-z.length) (by omega),f2,fZ (a:=gm [48] (18-z.length)) (b:=z) (by rw [Dz];omega),im];refine ⟨_,d,rfl,AK,d,q,[]++[gm [48] (18-z.length)++z],false,rfl,Bi,by omega,n1,n2,n3,.inr ⟨by simp,?_⟩⟩;simp only [go_sem,ya,yb,av,au uq.pu,ax _ uq.pu]<;>rfl
     ·simp only [go_sem,ya,yb,yM,yy,yi,oz,uw.len,uw.ao,uq.len,uq.bT,ur.len,ur.bT,Bh,e1,yG,yO,yg,show (0:Int)<((1:Nat):Int) by omega,nM rfl,f1,show (0:Int)<(lq.length:Int) by omega,Xx,wrapN (n:=18-z.length) (by omega),f2,fZ (a:=gm [48] (18-z.length)) (b:=z) (by rw [Dz];omega)]
      rw [gY (ex:=false) (pu:=true) (cs:=ps.map .str) (by simp only [go_sem,ya]) (by simp) (by omega) (by omega) (by decide) (by simp only [go_sem])];simp only [go_sem,ya,yb];refine ⟨_,d,rfl,AK,d,q,ps++[gm [48] (18-z.length)++z],false,rfl,Bi,by omega,n1,n2,n3,.inr ⟨by simp,?_⟩⟩;rw [xy,yL];simp only [go_sem,ya,yb,av,au uq.pu,ax _ uq.pu]<;>rfl
end
end
section
open Go (IntKind)
def zg:Nat->VC->VC
 | 0,c=>bB c
 | n+1,c=> .seq (bB c) (zg n (aA c))
def Cd:Nat->VC->VC
 | 0,c=>aA c
 | n+1,c=>Cd n (aA c)
def ajG:Nat->VC->Prop
 | 0,c=>c= .seq (bB c) (aA c)
 | n+1,c=>c= .seq (bB c) (aA c)/\ajG n (aA c)
def afH {P:aH} {L:Lib}:∀(n:Nat) {c:VC},ajG n c->∀s,D P L c s=mC P L (D P L (zg n c) s) (Cd n c)
 | 0,c,h,s=>by
  conv=>lhs;rw [show c= .seq (bB c) (aA c) from h]
  rw [jw];rfl
 | n+1,c,h,s=>by
  conv=>lhs;rw [show c= .seq (bB c) (aA c) from h.1]
  show _=mC P L (D P L (.seq (bB c) (zg n (aA c))) s) (Cd n (aA c))
  rw [jw,jw]
  cases D P L (bB c) s with
  | none=>rfl
  | some q=>
   obtain ⟨ex,st⟩:=q
   cases ex with
   | normal=>rw [fD,fD];exact afH n h.2 st
   | ret=>rfl
   | exit id=>rfl
end
section
open Go (IntKind)
section
variable {P:aH} {L:Lib}
def anA (h:Nu P L) (CF:L.pure 138=some zK) (ze:L.pure 139=some zZ) {s z:Int} {e:Bool} {l:List Nat} (hn:dh s (.ai e l.length (l.map uc)) z) {K:Nat} (lh:0<z.natAbs) (Pb:z.natAbs<18446744073709551616^K) (hK:K<=4000000000) (hlen:(aw z.natAbs).length<=300000000000):
  ∃ps:List (List Nat),ps≠[]/\ps.length<=300000000000/\aw z.natAbs=ps.reverse.flatten/\D P L (zg 5 CQ.body) ⟨[(0,.agg [ab s,.ai e l.length (l.map uc)])],[],0,0⟩=some (.normal,⟨[(3,.bool (decide (z<0))),(6,.aC 0 0 ps.length)],[(0,.cells true true false 1 (ps.map .str))],1,0⟩):=by
 obtain ⟨r,e1,hr⟩:=zd h hn;have bR:=hr;obtain ⟨lr,ur,gr,nr,vr⟩:=hr;simp only [go_sem,ya,yb,yy,yi,CQ,zg,bB,aA,bg,bY,yg,cX,nj,ed,cd,cG,e1];generalize mj:D P L (.loop [3,4,5,6] oz) _=qq;obtain ⟨ex,st,rfl,tm,ps,fl,rfl,bN,O9,zJ,t3,t6,rfl⟩:=bI mj (axe (P:=P) (L:=L) h.toWd CF ze (neg:=decide (z<0)) (M:=z.natAbs) (K:=K) lh hK hlen z.natAbs) ⟨z.natAbs,bT r,[],true,rfl,bR,Pb,by rw [yr (by omega)];simp,⟨fun _=>rfl,by simp⟩,fun _=>by simp,.inl ⟨rfl,by
  simp only [go_sem,ya,yb,av,au ur.pu,ax _ ur.pu]<;>rfl⟩⟩
 refine ⟨ps,bN,O9,zJ,?_⟩;simp only [go_sem,yb,av,t3,t6]
end
end
section
open Go
variable {O:bl}
def sL:Nat->wL->wL
 | 0,.seq _ b=>b
 | n+1,.seq _ b=>sL n b
 | _,c=>c
def Od:Nat->wL->Prop
 | 0,.seq _ _=>True
 | n+1,.seq _ b=>Od n b
 | _,_=>False
def acs (hO:eA O) {h:Nat} {c:wL} {l k:Nat} {s:St} {ex:Ex} {s':St} (hv:D O.prog O.aD (comp O.P (O.hint h) c l k).1 s=some (ex,s')):An O h c s ex s':=by
 obtain ⟨n,hn⟩:=W6 hv
 cases n with
 | zero=>rw [Hu] at hn;cases hn
 | succ n=>
  exact ac1 hO n (fun k _=>Z4 hO k) h c l k n (yo _) s ex s' hn
def agT (hO:eA O) {h:Nat} {ro:Option Nat} {lo:Nat} {Q:Exit->Act->yh->Prop}:∀(n:Nat) (c:wL) (l k:Nat),Od n c->∀(s s1:St),D O.prog O.aD (zg n (comp O.P (O.hint h) c l k).1) s=some (.normal,s1)->
  ∀(m:Mp) (S:Nat->Prop) (w:yh) (a:Act),su ro w->b7 O m S w s.tm a.tmps->aT O m S w s.hp s.ct->s.base<=s.ct->(O.hint h).n<=a.tmps.size->O.w0.heap.size<=lo->lo<=w.heap.size->Marks lo S w a.defers->
  (∀a' w',eC O m S w s .normal s1 a.tmps.size lo .normal a' w'->(sL n c).wpIn (WF ro) 0 O.P Q a' w')->c.wpIn (WF ro) 0 O.P Q a w
 | n,c,l,k,hc,s,s1,hv=>by
  intro m S w a cD ht hh hb hn bf eL cL hQ
  cases c with
  | seq x y=>
   cases n with
   | zero=>
    refine wpIn_seq (wpIn_mono (acs hO (show D O.prog O.aD (comp O.P (O.hint h) x l k).1 s=some (.normal,s1) from hv) ro lo m S w a cD ht hh hb hn bf eL cL) ?_);rintro e a' w' hp;have he:e= .normal:=hp.1;subst he;exact hQ a' w' hp
   | succ n=>
    have ek:D O.prog O.aD (.seq (comp O.P (O.hint h) x l k).1 (zg n (comp O.P (O.hint h) y (comp O.P (O.hint h) x l k).2.1 (comp O.P (O.hint h) x l k).2.2).1)) s=some (.normal,s1):=hv;rw [jw] at ek
    cases hx:D O.prog O.aD (comp O.P (O.hint h) x l k).1 s with
    | none=>rw [hx] at ek;cases ek
    | some q=>
     obtain ⟨ex,st⟩:=q;rw [hx] at ek
     cases ex with
     | ret=>exact absurd ek (by intro h;cases h)
     | exit id=>exact absurd ek (by intro h;cases h)
     | normal=>
      refine wpIn_seq (wpIn_mono (acs hO hx ro lo m S w a cD ht hh hb hn bf eL cL) ?_);rintro e a' w' ⟨rfl,m',S',k1,k2,k3,k4,k5,k6,k7⟩;refine agT hO n y _ _ hc st s1 ek m' S' w' a' (K4 k5 cD) k1 k2 (by omega) (by omega) bf (xf eL k5.size) k7 ?_;rintro a2 w2 ⟨_,m2,S2,g1,g2,g3,g4,g5,g6,g7⟩;exact hQ a2 w2 ⟨rfl,m2,S2,g1,g2,by omega,by omega,k5.trans (by rw [<-k3];exact g5),by omega,g7⟩
  | _=>cases n<;>exact hc.elim
def axf (hO:eA O) {n:Nat} {F:aX} (hF:O.prog n=some F) {fn:tD} {c:wL} (kC:O.P.funcs[O.af n]? =some fn) (iH:fn.body=some c) {hp:Hp} {ct:Nat} {aq:List AV} {s:St}
  (hc:(comp O.P (O.hint n) c 0 0).1=F.body->∀m S w a,b7 O m S w (eO 0 aq) a.tmps->aT O m S w hp ct->(O.hint n).n<=a.tmps.size->a.tmps.size=max fn.ntmps aq.length->O.w0.heap.size<=w.heap.size->a.defers=[]->
   c.wpIn (WF none) 0 O.P (eC O m S w ⟨eO 0 aq,hp,ct,ct⟩ .ret s a.tmps.size w.heap.size) a w) {v:AV} (hr:ik s F.fT=some v):Am O n hp ct aq v s.hp s.ct:=by
 intro m S w args hh gh;obtain ⟨fn',q1,q2,q3⟩:=hO.prog n F hF;rw [kC] at q1;cases q1;obtain ⟨c',q4,q5,q6,q7⟩:=PD q2;rw [iH] at q4;cases q4;refine .inl ⟨Ln kC (by rw [iH];rfl) q3,?_⟩
 have hlen:aq.length=args.size:=by have:=(il _ _ gh).symm;simpa using this
 have hw:=hc q5.symm m S w {tmps:=args++Array.replicate (fn.ntmps-args.size) undef,defers:=[]} (abg _ gh) hh (by simp;omega) (by simp;omega) hh.fB rfl
 refine callsIn_of_wp_marks (F:=yam) kC iH trivial (wpIn_mono hw ?_);rintro e a' w' ⟨rfl,m',S',k1,k2,k3,k4,k5,k6,rs,k7,k8,k9⟩;show LeavesInM yam 0 O.P fn a'.tmps (r5 O m S w hp ct v s.hp s.ct) a'.defers .returning w'
 rw [k7];exact P7 q6 hr k4 rs w' k8 k9 hh.fB k2 k1 k5
def ara (hO:eA O) {n:Nat} {F:aX} (hF:O.prog n=some F) {fn:tD} {c:wL} (kC:O.P.funcs[O.af n]? =some fn) (iH:fn.body=some c) {aq:List AV} {s:St}
  (hc:(comp O.P (O.hint n) c 0 0).1=F.body->∀m S w a,b7 O m S w (eO 0 aq) a.tmps->aT O m S w [] 0->(O.hint n).n<=a.tmps.size->a.tmps.size=max fn.ntmps aq.length->O.w0.heap.size<=w.heap.size->a.defers=[]->
   c.wpIn (WF none) 0 O.P (eC O m S w ⟨eO 0 aq,[],0,0⟩ .ret s a.tmps.size w.heap.size) a w) {v r:AV} (hv:ik s F.fT=some v) (hr:result s.hp v=some r):ef O n aq r:=
 Px (axf hO hF kC iH hc hv) hr
end
section
open Go
def aaP {af:Nat->Nat} {m:Mp} {S:Nat->Prop} {w:yh} {b:Nat}:∀{ps:List (List Nat)} {o:Nat},bP af m S w (ps.map .str) b o->
  ∃ts:List ByteArray,(ts.map fun t=>t.data.toList.map y9)=ps/\∀i (h:i<ts.length),w.cell? ⟨b,o+i,none⟩=some (.string ts[i])
 | [],o,_=>⟨[],rfl,fun i h=>absurd h (Nat.not_lt_zero i)⟩
 | p::ps,o,h=>by
  obtain ⟨⟨u,h1,h2⟩,h3⟩:=h;obtain ⟨t,rfl,ht⟩:=h2;obtain ⟨ts,k1,k2⟩:=aaP h3;refine ⟨t::ts,by rw [List.map_cons,ht,k1],fun i hi=>?_⟩
  cases i with
  | zero=>exact h1
  | succ i=>
   grind
def nC (ts:List ByteArray):List UInt8:=(ts.map fun t=>t.data.toList).flatten
def atj {ts:List ByteArray} {ps:List (List Nat)} (h:(ts.map fun t=>t.data.toList.map y9)=ps):(nC ts.reverse).map y9=ps.reverse.flatten:=by
 subst h;unfold nC;rw [List.map_flatten,vT,<-tx];rfl
def atk {ts:List ByteArray} {ps:List (List Nat)} (h:(ts.map fun t=>t.data.toList.map y9)=ps):(ts.map (·.size)).sum=ps.reverse.flatten.length:=by
 subst h;rw [List.length_flatten,tx,List.sum_reverse,vT]
 congr 1
 simp_all
def Q2 (P:Program) (c:wL):Prop:=∀(Q:Exit->Act->yh->Prop) (a:Act) (w:yh) (neg:Bool) (ts:List ByteArray) (b o cc:Nat),a.tmps.size=69->a.tmps.getD 3 undef= .bool neg->a.tmps.getD 6 undef= .slice (some ⟨b,o,none⟩) ts.length cc->
  (∀i (h:i<ts.length),w.cell? ⟨b,o+i,none⟩=some (.string ts[i]))->(ts.map (·.size)).sum+1<=140737488355328->ts.length<=cc->ts.length<9223372036854775808->
  (∀a' w',Calm w w'->a'.tmps.size=69->a'.defers=a.defers->a'.tmps.getD 2 undef= .string ⟨((if neg then [45] else [])++nC ts.reverse).toArray⟩->Q .ret a' w')->
  (sL 5 c).wpIn Fence.wide 0 P Q a w
section
variable {O:bl}
def anB {n K:Nat} (h:n<18446744073709551616^K):(aw n).length<=20*K+1:=by
 refine qw (k:=20*K) (yV h ?_);have h1:(10:Nat)^(20*K)=(10^20)^K:=Nat.pow_mul ..;exact xf (by rw [h1];exact Nat.pow_le_pow_left (by decide) K) (xb (by decide) (Nat.le_succ _))
def arb (hO:eA O) (hN:Nu O.prog O.aD) (CF:O.aD.pure 138=some zK) (ze:O.aD.pure 139=some zZ) (FH:O.prog 99=some CQ) {fn:tD} {c:wL} (kC:O.P.funcs[O.af 99]? =some fn) (iH:fn.body=some c) (Ov:fn.ntmps=69)
  (Xy:Od 5 c) (ht:Q2 O.P c) {s z:Int} {e:Bool} {l:List Nat} (hn:dh s (.ai e l.length (l.map uc)) z) (lh:0<z.natAbs) (hK:l.length<=4000000000) (Pb:z.natAbs<18446744073709551616^l.length):
  ef O 99 [.agg [ab s,.ai e l.length (l.map uc)]] (.str (aU z)):=by
 have hlen:=anB Pb;obtain ⟨ps,bN,O9,zJ,e1⟩:=anA (P:=O.prog) (L:=O.aD) hN CF ze hn lh Pb hK (by omega)
 refine ara hO FH kC iH (s:=⟨[(2,.str (aU z))],[(0,.cells true true false 1 (ps.map .str))],1,0⟩) (v:= .str (aU z)) ?_ rfl rfl;intro ay8 m S w a htr hh zu eh hgs C3;refine agT hO 5 c 0 0 Xy _ _ (by rw [ay8];exact e1) m S w a (fun l hl=>by cases hl) htr hh (yo _) zu hgs (yo _) ⟨[],by rw [C3];rfl,by simp,by simp⟩ ?_
 rintro a' w' ⟨_,m',S',k1,k2,k3,k4,k5,k6,k7⟩;have r3:=k1 3;have r6:=k1 6;have g3:aj [(3,AV.bool (decide (z<0))),(6,.aC 0 0 ps.length)] 3= .bool (decide (z<0)):=rfl;have g6:aj [(3,AV.bool (decide (z<0))),(6,.aC 0 0 ps.length)] 6= .aC 0 0 ps.length:=rfl;rw [g3] at r3;rw [g6] at r6;simp only [ah] at r3 r6;obtain ⟨p,cc,hm,r6,hcc,_⟩:=r6;obtain ⟨p',arr,t,gE,_,_,_,_,_,CJ,_⟩:=k2.obj 0 _ p rfl hm;rw [hm] at gE;cases gE;obtain ⟨ts,oS,sG⟩:=aaP CJ;have mO:ts.length=ps.length:=by rw [<-oS,List.length_map]
 have AL:=atk oS;rw [<-zJ] at AL;have Xz:=atj oS;rw [<-zJ] at Xz;refine ht _ a' w' (decide (z<0)) ts p.b p.o cc ?_ r3 (by rw [mO];exact r6) sG (by omega) (by omega) (by omega) ?_
 ·grind
 ·intro a2 w2 hc h1 h2 h3;have JS:=Ds k2 hc (S':=S') (fun _ h=>h) (fun _ h=> .inl h) (fun b hb=>yV (k2.slt b hb) hc.size);refine ⟨rfl,m',S',?_,JS,rfl,Nat.zero_le _,k5.trans (BA k2 hc (fun _ h=>h) (fun _ h=> .inl h)),?_,?_⟩
  ·intro i;by_cases hi:i=2
   ·subst hi;rw [h3];show ah O.af m' S' w2 (.str (aU z)) _
    simp only [ah];refine ⟨_,rfl,?_⟩;by_cases h0:z<0
    ·rw [lC h0,xi h0];simp only [xA,xy];rw [Xz];rfl
    ·obtain ⟨n,rfl⟩:∃n:Nat,z=n:=⟨z.toNat,by omega⟩;rw [y7 h0];simp only [Bool.false_eq_true,xd,wh];rw [Xz];rfl
   ·have:aj [(2,AV.str (aU z))] i= .undef:=by
     have hb:Nat.beq 2 i=false:=by
      cases hq:Nat.beq 2 i with
      | false=>rfl
      | true=>exact absurd (Nat.eq_of_beq_eq_true hq).symm hi
     simp only [aj,hb,yS]
    show ah O.af m' S' w2 (aj [(2,AV.str (aU z))] i) _
    rw [this];simp only [ah]
  ·rw [h1,eh,Ov];simp
  ·rw [h2]
   exact zQ k2 (BA (base:=0) k2 hc (fun _ h=>h) (fun _ h=> .inl h)) k7
end
end
end VE
