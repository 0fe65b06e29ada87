import Derived.Test.YtfohkkaphnfgoabGreatDoorTan
import Derived.Test.YtfohkkaphnfgoabGreatDoorTal
import Derived.Test.YtfohkkaphnfgoabGreatDoorTae
set_option linter.all false
set_option maxRecDepth 100000
open Go renaming Code→wL,Func→td,World→yg
open Go.Fence renaming wide→tV
open List renaming append_assoc→xC,length_append→yW,length_cons→yu,length_nil→yA,map_append→xy,map_map→yaI,map_reverse→uV,nil_append→xW
open Nat renaming ble_eq_true_of_le→yz,div_eq_of_lt→wk,le_refl→yv,le_trans→xj,lt_of_lt_of_le→yN,mul_one→yj,pow_le_pow_right→xA,pow_pos→ybt,pow_succ→xg,reduceAdd→yb,reduceEqDiff→ya,reduceLT→yq,reduceLeDiff→yh,reduceMul→xt,zero_add→yd
open UInt8 renaming toNat→y7
namespace VE
section
open Go (IntKind)
def XY:∀j:Nat,gI [48] j++[48]=[48]++gI [48] j
 | 0=>rfl
 | j+1=>by
  show ([48]++gI [48] j)++[48]=[48]++([48]++gI [48] j)
  rw [xC,XY j]
def DA:∀j:Nat,(gI [48] j).length=j
 | 0=>rfl
 | j+1=>by show ([48]++gI [48] j).length=_;rw [yW,DA j];simp;omega
def ajh:∀(k n:Nat),n<10^k->0<k->ie k n=gI [48] (k-(ax n).length)++ax n:=by
 intro k
 induction k with
 | zero=>intro n _ h;omega
 | succ k ih=>
  intro n hn _;rw [ie];by_cases il:n<10
  ·rw [nD il,Nat.mod_eq_of_lt il]
   cases k with
   | zero=>rfl
   | succ k=>
    rw [ih (n/10) (by rw [wk il];exact ybt (by decide)) (by omega),wk il]
    rw [show ax 0=[48] by decide];rw [XY];rfl
  ·have hk:0<k:=by
    grind
   rw [ih (n/10) (by rw [xg] at hn;omega) hk,oO il,xC,yW]
   grind
def aji {m d r:Nat} (hd:d=m/1000000000000000000) (hr:r=m%1000000000000000000):(0<d->ax m=ax d++(gI [48] (18-(ax r).length)++ax r))/\(d=0->ax m=ax r):=by
 have U8:r<10^18:=by omega
 constructor
 ·intro h0;rw [<-ajh 18 r U8 (by decide),<-Lb 18 d r h0 U8]
  grind
 ·grind
section
variable {P:aI} {L:Lib}
def aqd {f:cF} (h:L.pure 138=some zu) {n:Nat} (hn:n<18446744073709551616):bN P L f 138 [uc n,aa 10]=some (.str (ax n)):=by
 rw [iM h];show (bif Nat.blt n 18446744073709551616 then some (AV.str (ax n)) else none)=_
 rw [ji hn];rfl
def Q0 {f:cF} (h:L.pure 139=some zN) {n:Nat} (hn:n<=100):bN P L f 139 [.str [48],aa (n:Nat)]=some (.str (gI [48] n)):=by
 rw [iM h];show (bif Nat.ble n 1099511627776&&Nat.ble (1*n) 1099511627776 then some (AV.str (gI [48] n)) else none)=_
 rw [yz (by omega),yz (by omega)];rfl
def aqe (h:Wd P L) (Cz:L.pure 138=some zu) (sK:L.pure 139=some zN) {neg:Bool} {M K:Nat} (hM0:0<M) (hK:K<=4000000000) (hlen:(ax M).length<=300000000000):
  ∀k s,(∃(m:Nat) (w:AV) (ps:List (List Nat)) (fl:Bool),m=k/\WN w m/\m<18446744073709551616^K/\ax M=(if m=0 then [] else ax m)++ps.reverse.flatten/\((ps=[]->m=M)/\18*ps.length<=(ax M).length+18)/\(m≠0->18*ps.length+(ax m).length=(ax M).length)/\
    ((ps=[]/\bf [3,4,5,6] s=⟨[(3,.bool neg),(4,w),(5,.aE 0 0 1),(6,.ab)],[(0,.cells fl true true 1 [uc 1000000000000000000])],1,0⟩)\/
    (ps≠[]/\bf [3,4,5,6] s=⟨[(3,.bool neg),(4,w),(5,.aE 0 0 1),(6,.aE 1 0 ps.length)],[(1,.cells true true false 1 (ps.map .str)),(0,.cells fl true true 1 [uc 1000000000000000000])],2,0⟩)))->
   ∃ex s',D P L (.loop [3,4,5,6] nT) s=some (ex,s')/\∃tm ps fl,ex= .exit 0/\ps≠[]/\ps.length<=300000000000/\ax M=ps.reverse.flatten/\aj tm 3= .bool neg/\aj tm 6= .aE 1 0 ps.length/\s'=⟨tm,[(1,.cells true true false 1 (ps.map .str)),(0,.cells fl true true 1 [uc 1000000000000000000])],2,0⟩:=by
 intro dq sq;generalize bQ:bf [3,4,5,6] sq=s0;revert bQ s0 sq dq;apply eO;rintro k s ⟨m,w,ps,fl,rfl,hw,hmK,zp,ad0,iX,hs⟩;obtain ⟨lw,uw,gw,nw,vw⟩:=hw;by_cases hm:m=0
 ·right
  have iW:lw=[]:=List.eq_nil_of_length_eq_zero (Nat.le_zero.1 (mS (K:=0) nw vw (by rw [hm];decide)))
  subst iW;rw [yL hm,xW] at zp;have fC:ps≠[]:=fun e=>by have:=ad0.1 e;omega
  have OL:ps.length<=300000000000:=by have:=ad0.2;omega
  rcases hs with ⟨h0,_⟩ | ⟨_,rfl⟩
  ·exact absurd h0 fC
  ·simp only [go_sem,ya,nT,uw.len,yA,show ¬(0:Int)<((0:Nat):Int) by omega];exact ⟨_,_,rfl,by simp,_,ps,fl,rfl,fC,OL,zp,by simp only [go_sem,ya],by simp only [go_sem,ya],rfl⟩
 ·left
  have hw:WN w m:=⟨lw,uw,gw,nw,vw⟩;have hB:WN (.aH true 1 [uc 1000000000000000000]) 1000000000000000000:=⟨[1000000000000000000],mb true [1000000000000000000],D1.2 (by decide),by decide,by simp [bv]⟩;obtain ⟨q,r,e1,hq,hr⟩:=adL h hw hB (K:=K+1) (by decide) (yN hmK (xA (by decide) (by omega))) (by rw [xg];have:=ybt (n:=K) (show 0<18446744073709551616 by decide);omega) (by omega)
  obtain ⟨t1,t2⟩:=aji (m:=m) rfl rfl;have eU:=Nat.div_add_mod m 1000000000000000000;have hrB:=Nat.mod_lt m (show 0<1000000000000000000 by decide);obtain ⟨d,hd⟩:∃d,d=m/1000000000000000000:=⟨_,rfl⟩;obtain ⟨x,hx⟩:∃x,x=m%1000000000000000000:=⟨_,rfl⟩;rw [<-hd] at hq t1 t2 eU;rw [<-hx] at hr t1 t2 eU hrB;obtain ⟨lq,uq,gq,nq,vq⟩:=hq;obtain ⟨lr,ur,gr,nr,vr⟩:=hr;have hxl:(ax x).length<=18:=oP (k:=17) (by omega);have hxp:=rI x;have JW:(lr=[]/\x=0)\/lr=[x]:=by
   have h1:lr.length<=1:=mS (K:=1) nr vr (by rw [Nat.pow_one];omega)
   cases lr with
   | nil=>exact .inl ⟨rfl,by rw [<-vr];rfl⟩
   | cons a l=>
    cases l with
    | nil=>rw [zV] at vr;exact .inr (by rw [vr])
    | cons b l=>simp at h1
  have Ft:(lq=[]/\d=0)\/(0<lq.length/\0<d):=by
   cases lq with
   | nil=>exact .inl ⟨rfl,by rw [<-vq];rfl⟩
   | cons a l=>
    refine .inr ⟨by simp,?_⟩;rcases Nat.eq_zero_or_pos d with h0 | h0
    ·have:=mS (K:=0) nq vq (by rw [h0];decide)
     simp at this
    ·exact h0
  unfold ae at e1;have Bb:(0:Int)<(lw.length:Int):=by
   have:lw≠[]:=fun e=>by subst e;simp [bv] at vw;omega
   have:=List.length_pos_iff.2 this
   omega
  have ayG:=iX hm;have hmp:=rI m;have new:∀t:List Nat,ax m=(if d=0 then [] else ax d)++t->(d≠0->t.length=18)->
    ax M=(if d=0 then [] else ax d)++(ps++[t]).reverse.flatten/\((ps++[t]=[]->d=M)/\18*(ps++[t]).length<=(ax M).length+18)/\(d≠0->18*(ps++[t]).length+(ax d).length=(ax M).length):=fun t h1 h2=>by
   rw [yF hm,h1] at zp;refine ⟨by rw [zp];simp,⟨by simp,by simp only [yW,yu,yA];omega⟩,fun h0=>?_⟩
   have h3:=congrArg List.length h1;rw [yF h0,yW,h2 h0] at h3;simp only [yW,yu,yA];omega
  have AB:d<m:=by omega
  have Bc:WN q d:=⟨lq,uq,gq,nq,vq⟩;have nj:lr=[x]->gU 1 0 r=some (.aO (.int .u64 x::([]:List AV))):=fun e=>by
   subst e
   have:=ur.a8 (i:=0) (by simp)
   simpa using this
  have f1:=aqd (P:=P) (f:=D P L) Cz (n:=x) (by omega);have f2:=Q0 (P:=P) (f:=D P L) sK (n:=18-(ax x).length) (by omega);have SZ:(18:Int)-((ax x).length:Int)=((18-(ax x).length:Nat):Int):=by omega
  have ayH:18*ps.length<=300000000000:=by omega
  have zl:(gI [48] (18-(ax x).length)++ax x).length=18:=by rw [yW,DA];omega
  obtain ⟨z,hz⟩:∃z,z=ax x:=⟨_,rfl⟩;have ja:x=0->z=[48]:=fun e=>by rw [hz,e];decide
  rw [<-hz] at f1 f2 SZ hxl hxp zl t1 t2;cases fl
  all_goals
   rcases Ft with ⟨rfl,hX⟩ | ⟨OM,hX⟩
   ·obtain ⟨n1,n2,n3⟩:=new z (by rw [yL hX,xW];exact t2 hX) (fun h=>absurd hX h)
    rcases JW with ⟨rfl,zi⟩ | rfl
    ·have kU:=ja zi;clear hz;subst kU;rcases hs with ⟨eP,rfl⟩ | ⟨eP,rfl⟩
     ·subst eP;simp only [go_sem,ya,yb,xt,yq,yh,yj,nT,uw.len,uw.af,uq.len,uq.bT,ur.len,ur.bT,Bb,e1,yA,yA,show ¬(0:Int)<((0:Nat):Int) by omega,ix];refine ⟨_,d,rfl,AB,d,q,[]++[[48]],false,rfl,Bc,by omega,n1,n2,n3,.inr ⟨by simp,?_⟩⟩;simp only [go_sem,ya,yb,ao,aA uq.pu,aF _ uq.pu]<;>rfl
     ·simp only [go_sem,ya,yb,yq,yh,yj,nT,uw.len,uw.af,uq.len,uq.bT,ur.len,ur.bT,Bb,e1,yA,yA,show ¬(0:Int)<((0:Nat):Int) by omega]
      rw [hZ (ex:=false) (pu:=true) (cs:=ps.map .str) (by simp only [go_sem,ya]) (by simp) (by omega) (by omega) (by decide) (by simp only [go_sem])];simp only [go_sem,ya,yb];refine ⟨_,d,rfl,AB,d,q,ps++[[48]],false,rfl,Bc,by omega,n1,n2,n3,.inr ⟨by simp,?_⟩⟩;rw [xy,yW];simp only [go_sem,ya,yb,ao,aA uq.pu,aF _ uq.pu]<;>rfl
    ·rcases hs with ⟨eP,rfl⟩ | ⟨eP,rfl⟩
     ·subst eP;simp only [go_sem,ya,yb,xt,yq,yh,yj,nT,uw.len,uw.af,uq.len,uq.bT,ur.len,ur.bT,Bb,e1,yu,yA,yd,show (0:Int)<((1:Nat):Int) by omega,nj rfl,f1,yA,show ¬(0:Int)<((0:Nat):Int) by omega,ix];refine ⟨_,d,rfl,AB,d,q,[]++[z],false,rfl,Bc,by omega,n1,n2,n3,.inr ⟨by simp,?_⟩⟩;simp only [go_sem,ya,yb,ao,aA uq.pu,aF _ uq.pu]<;>rfl
     ·simp only [go_sem,ya,yb,yq,yh,yj,nT,uw.len,uw.af,uq.len,uq.bT,ur.len,ur.bT,Bb,e1,yu,yA,yd,show (0:Int)<((1:Nat):Int) by omega,nj rfl,f1,yA,show ¬(0:Int)<((0:Nat):Int) by omega]
      rw [hZ (ex:=false) (pu:=true) (cs:=ps.map .str) (by simp only [go_sem,ya]) (by simp) (by omega) (by omega) (by decide) (by simp only [go_sem])];simp only [go_sem,ya,yb];refine ⟨_,d,rfl,AB,d,q,ps++[z],false,rfl,Bc,by omega,n1,n2,n3,.inr ⟨by simp,?_⟩⟩;rw [xy,yW];simp only [go_sem,ya,yb,ao,aA uq.pu,aF _ uq.pu]<;>rfl
   ·obtain ⟨n1,n2,n3⟩:=new (gI [48] (18-z.length)++z) (by rw [yF (by omega)];exact t1 hX) (fun _=>zl)
    rcases JW with ⟨rfl,zi⟩ | rfl
    ·have kU:=ja zi;clear hz;subst kU;rcases hs with ⟨eP,rfl⟩ | ⟨eP,rfl⟩
     ·subst eP
      simp only [go_sem,ya,yb,xt,yq,yh,yj,nT,uw.len,uw.af,uq.len,uq.bT,ur.len,ur.bT,Bb,e1,yA,show ¬(0:Int)<((0:Nat):Int) by omega,show (0:Int)<(lq.length:Int) by omega,show (18:Int)-((1:Nat):Int)=((17:Nat):Int) from rfl,wrapN (n:=17) (by omega),Q0 (P:=P) (f:=D P L) sK (n:=17) (by omega),fS (a:=gI [48] 17) (b:=[48]) (by rw [DA];decide),ix]
      refine ⟨_,d,rfl,AB,d,q,[]++[gI [48] 17++[48]],false,rfl,Bc,by omega,n1,n2,n3,.inr ⟨by simp,?_⟩⟩;simp only [go_sem,ya,yb,ao,aA uq.pu,aF _ uq.pu]<;>rfl
     ·simp only [go_sem,ya,yb,yq,yh,yj,nT,uw.len,uw.af,uq.len,uq.bT,ur.len,ur.bT,Bb,e1,yA,show ¬(0:Int)<((0:Nat):Int) by omega,show (0:Int)<(lq.length:Int) by omega,show (18:Int)-((1:Nat):Int)=((17:Nat):Int) from rfl,wrapN (n:=17) (by omega),Q0 (P:=P) (f:=D P L) sK (n:=17) (by omega),fS (a:=gI [48] 17) (b:=[48]) (by rw [DA];decide)]
      rw [hZ (ex:=false) (pu:=true) (cs:=ps.map .str) (by simp only [go_sem,ya]) (by simp) (by omega) (by omega) (by decide) (by simp only [go_sem])];simp only [go_sem,ya,yb];refine ⟨_,d,rfl,AB,d,q,ps++[gI [48] 17++[48]],false,rfl,Bc,by omega,n1,n2,n3,.inr ⟨by simp,?_⟩⟩;rw [xy,yW];simp only [go_sem,ya,yb,ao,aA uq.pu,aF _ uq.pu]<;>rfl
    ·rcases hs with ⟨eP,rfl⟩ | ⟨eP,rfl⟩
     ·subst eP
      simp only [go_sem,ya,yb,xt,yq,yh,yj,nT,uw.len,uw.af,uq.len,uq.bT,ur.len,ur.bT,Bb,e1,yu,yA,yd,show (0:Int)<((1:Nat):Int) by omega,nj rfl,f1,show (0:Int)<(lq.length:Int) by omega,SZ,wrapN (n:=18-z.length) (by omega),f2,fS (a:=gI [48] (18-z.length)) (b:=z) (by rw [DA];omega),ix];refine ⟨_,d,rfl,AB,d,q,[]++[gI [48] (18-z.length)++z],false,rfl,Bc,by omega,n1,n2,n3,.inr ⟨by simp,?_⟩⟩;simp only [go_sem,ya,yb,ao,aA uq.pu,aF _ uq.pu]<;>rfl
     ·simp only [go_sem,ya,yb,yq,yh,yj,nT,uw.len,uw.af,uq.len,uq.bT,ur.len,ur.bT,Bb,e1,yu,yA,yd,show (0:Int)<((1:Nat):Int) by omega,nj rfl,f1,show (0:Int)<(lq.length:Int) by omega,SZ,wrapN (n:=18-z.length) (by omega),f2,fS (a:=gI [48] (18-z.length)) (b:=z) (by rw [DA];omega)]
      rw [hZ (ex:=false) (pu:=true) (cs:=ps.map .str) (by simp only [go_sem,ya]) (by simp) (by omega) (by omega) (by decide) (by simp only [go_sem])];simp only [go_sem,ya,yb];refine ⟨_,d,rfl,AB,d,q,ps++[gI [48] (18-z.length)++z],false,rfl,Bc,by omega,n1,n2,n3,.inr ⟨by simp,?_⟩⟩;rw [xy,yW];simp only [go_sem,ya,yb,ao,aA uq.pu,aF _ uq.pu]<;>rfl
end
end
section
open Go (IntKind)
def I4:Nat->VC->VC
 | 0,c=>bE c
 | n+1,c=> .seq (bE c) (I4 n (ay c))
end
section
open Go (IntKind)
section
variable {P:aI} {L:Lib}
def ahC (h:Nu P L) (Cz:L.pure 138=some zu) (sK:L.pure 139=some zN) {s z:Int} {e:Bool} {l:List Nat} (hn:cV s (.aH e l.length (l.map uc)) z) {K:Nat} (kU:0<z.natAbs) (ON:z.natAbs<18446744073709551616^K) (hK:K<=4000000000) (hlen:(ax z.natAbs).length<=300000000000):
  ∃ps:List (List Nat),ps≠[]/\ps.length<=300000000000/\ax z.natAbs=ps.reverse.flatten/\D P L (I4 5 CO.body) ⟨[(0,.agg [aa s,.aH e l.length (l.map uc)])],[],0,0⟩=some (.normal,⟨[(3,.bool (decide (z<0))),(6,.aE 0 0 ps.length)],[(0,.cells true true false 1 (ps.map .str))],1,0⟩):=by
 obtain ⟨r,e1,hr⟩:=sI h hn;have bY:=hr;obtain ⟨lr,ur,gr,nr,vr⟩:=hr;simp only [go_sem,ya,yb,yh,yj,CO,I4,bE,ay,aG,aZ,yd,bX,mI,dK,cr,aY,e1];generalize lX:D P L (.loop [3,4,5,6] nT) _=qq;obtain ⟨ex,st,rfl,tm,ps,fl,rfl,fC,OL,zp,t3,t6,rfl⟩:=bI lX (aqe (P:=P) (L:=L) h.toWd Cz sK (neg:=decide (z<0)) (M:=z.natAbs) (K:=K) kU hK hlen z.natAbs) ⟨z.natAbs,bT r,[],true,rfl,bY,ON,by rw [yF (by omega)];simp,⟨fun _=>rfl,by simp⟩,fun _=>by simp,.inl ⟨rfl,by
  simp only [go_sem,ya,yb,ao,aA ur.pu,aF _ ur.pu]<;>rfl⟩⟩
 refine ⟨ps,fC,OL,zp,?_⟩;simp only [go_sem,yb,ao,t3,t6]
end
end
section
open Go
variable {O:bq}
def sj:Nat->wL->wL
 | 0,.seq _ b=>b
 | n+1,.seq _ b=>sj n b
 | _,c=>c
def Ns:Nat->wL->Prop
 | 0,.seq _ _=>True
 | n+1,.seq _ b=>Ns n b
 | _,_=>False
def YM (hO:ej O) {h:Nat} {c:wL} {l k:Nat} {s:St} {ex:Ex} {s':St} (hv:D O.prog O.aT (comp O.P (O.hint h) c l k).1 s=some (ex,s')):Ab O h c s ex s':=by
 obtain ⟨n,hn⟩:=Sw hv
 cases n with
 | zero=>rw [Ha] at hn;cases hn
 | succ n=>
  exact Zk hO n (fun k _=>Wo hO k) h c l k n (yv _) s ex s' hn
def abj (hO:ej O) {h:Nat} {ro:Option Nat} {lo:Nat} {Q:Exit->Act->yg->Prop}:∀(n:Nat) (c:wL) (l k:Nat),Ns n c->∀(s s1:St),D O.prog O.aT (I4 n (comp O.P (O.hint h) c l k).1) s=some (.normal,s1)->
  ∀(m:Mp) (S:Nat->Prop) (w:yg) (a:Act),rT ro w->cf O m S w s.tm a.tmps->aV O m S w s.hp s.ct->s.base<=s.ct->(O.hint h).n<=a.tmps.size->O.w0.heap.size<=lo->lo<=w.heap.size->Marks lo S w a.defers->
  (∀a' w',eE O m S w s .normal s1 a.tmps.size lo .normal a' w'->(sj n c).wpIn (WF ro) 0 O.P Q a' w')->c.wpIn (WF ro) 0 O.P Q a w
 | n,c,l,k,hc,s,s1,hv=>by
  intro m S w a cU ht hh hb hn bi eQ cM hQ
  cases c with
  | seq x y=>
   cases n with
   | zero=>
    refine wpIn_seq (wpIn_mono (YM hO (show D O.prog O.aT (comp O.P (O.hint h) x l k).1 s=some (.normal,s1) from hv) ro lo m S w a cU ht hh hb hn bi eQ cM) ?_);rintro e a' w' hp;have he:e= .normal:=hp.1;subst he;exact hQ a' w' hp
   | succ n=>
    have ef:D O.prog O.aT (.seq (comp O.P (O.hint h) x l k).1 (I4 n (comp O.P (O.hint h) y (comp O.P (O.hint h) x l k).2.1 (comp O.P (O.hint h) x l k).2.2).1)) s=some (.normal,s1):=hv;rw [lD] at ef
    cases hx:D O.prog O.aT (comp O.P (O.hint h) x l k).1 s with
    | none=>rw [hx] at ef;cases ef
    | some q=>
     obtain ⟨ex,st⟩:=q;rw [hx] at ef
     cases ex with
     | ret=>exact absurd ef (by intro h;cases h)
     | exit id=>exact absurd ef (by intro h;cases h)
     | normal=>
      refine wpIn_seq (wpIn_mono (YM hO hx ro lo m S w a cU ht hh hb hn bi eQ cM) ?_);rintro e a' w' ⟨rfl,m',S',k1,k2,k3,k4,k5,k6,k7⟩;refine abj hO n y _ _ hc st s1 ef m' S' w' a' (KR k5 cU) k1 k2 (by omega) (by omega) bi (xj eQ k5.size) k7 ?_;rintro a2 w2 ⟨_,m2,S2,g1,g2,g3,g4,g5,g6,g7⟩;exact hQ a2 w2 ⟨rfl,m2,S2,g1,g2,by omega,by omega,k5.trans (by rw [<-k3];exact g5),by omega,g7⟩
  | _=>cases n<;>exact hc.elim
def aqf (hO:ej O) {n:Nat} {F:aB} (hF:O.prog n=some F) {fn:td} {c:wL} (kq:O.P.funcs[O.ah n]? =some fn) (iJ:fn.body=some c) {hp:Hp} {ct:Nat} {ak:List AV} {s:St}
  (hc:(comp O.P (O.hint n) c 0 0).1=F.body->∀m S w a,cf O m S w (fm 0 ak) a.tmps->aV O m S w hp ct->(O.hint n).n<=a.tmps.size->a.tmps.size=max fn.ntmps ak.length->O.w0.heap.size<=w.heap.size->a.defers=[]->
   c.wpIn (WF none) 0 O.P (eE O m S w ⟨fm 0 ak,hp,ct,ct⟩ .ret s a.tmps.size w.heap.size) a w) {v:AV} (hr:iv s F.dY=some v):Aa O n hp ct ak v s.hp s.ct:=by
 intro m S w args hh gE;obtain ⟨fn',q1,q2,q3⟩:=hO.prog n F hF;rw [kq] at q1;cases q1;obtain ⟨c',q4,q5,q6,q7⟩:=O5 q2;rw [iJ] at q4;cases q4;refine .inl ⟨K8 kq (by rw [iJ];rfl) q3,?_⟩
 have hlen:ak.length=args.size:=by have:=(iw _ _ gE).symm;simpa using this
 have hw:=hc q5.symm m S w {tmps:=args++Array.replicate (fn.ntmps-args.size) undef,defers:=[]} (XH _ gE) hh (by simp;omega) (by simp;omega) hh.fF rfl
 refine callsIn_of_wp_marks (F:=tV) kq iJ trivial (wpIn_mono hw ?_);rintro e a' w' ⟨rfl,m',S',k1,k2,k3,k4,k5,k6,rs,k7,k8,k9⟩;show LeavesInM tV 0 O.P fn a'.tmps (rF O m S w hp ct v s.hp s.ct) a'.defers .returning w'
 rw [k7];exact PB q6 hr k4 rs w' k8 k9 hh.fF k2 k1 k5
def alo (hO:ej O) {n:Nat} {F:aB} (hF:O.prog n=some F) {fn:td} {c:wL} (kq:O.P.funcs[O.ah n]? =some fn) (iJ:fn.body=some c) {ak:List AV} {s:St}
  (hc:(comp O.P (O.hint n) c 0 0).1=F.body->∀m S w a,cf O m S w (fm 0 ak) a.tmps->aV O m S w [] 0->(O.hint n).n<=a.tmps.size->a.tmps.size=max fn.ntmps ak.length->O.w0.heap.size<=w.heap.size->a.defers=[]->
   c.wpIn (WF none) 0 O.P (eE O m S w ⟨fm 0 ak,[],0,0⟩ .ret s a.tmps.size w.heap.size) a w) {v r:AV} (hv:iv s F.dY=some v) (hr:result s.hp v=some r):ez O n ak r:=
 O2 (aqf hO hF kq iJ hc hv) hr
end
section
open Go
def Xd {ah:Nat->Nat} {m:Mp} {S:Nat->Prop} {w:yg} {b:Nat}:∀{ps:List (List Nat)} {o:Nat},bR ah m S w (ps.map .str) b o->
  ∃ts:List ByteArray,(ts.map fun t=>t.data.toList.map y7)=ps/\∀i (h:i<ts.length),w.cell? ⟨b,o+i,none⟩=some (.string ts[i])
 | [],o,_=>⟨[],rfl,fun i h=>absurd h (Nat.not_lt_zero i)⟩
 | p::ps,o,h=>by
  obtain ⟨⟨u,h1,h2⟩,h3⟩:=h;obtain ⟨t,rfl,ht⟩:=h2;obtain ⟨ts,k1,k2⟩:=Xd h3;refine ⟨t::ts,by rw [List.map_cons,ht,k1],fun i hi=>?_⟩
  cases i with
  | zero=>exact h1
  | succ i=>
   grind
def mU (ts:List ByteArray):List UInt8:=(ts.map fun t=>t.data.toList).flatten
def anC {ts:List ByteArray} {ps:List (List Nat)} (h:(ts.map fun t=>t.data.toList.map y7)=ps):(mU ts.reverse).map y7=ps.reverse.flatten:=by
 subst h;unfold mU;rw [List.map_flatten,yaI,<-uV];rfl
def anD {ts:List ByteArray} {ps:List (List Nat)} (h:(ts.map fun t=>t.data.toList.map y7)=ps):(ts.map (·.size)).sum=ps.reverse.flatten.length:=by
 subst h;rw [List.length_flatten,uV,List.sum_reverse,yaI]
 congr 1
 simp_all
def Qs (P:Program) (c:wL):Prop:=∀(Q:Exit->Act->yg->Prop) (a:Act) (w:yg) (neg:Bool) (ts:List ByteArray) (b o cc:Nat),a.tmps.size=69->a.tmps.getD 3 undef= .bool neg->a.tmps.getD 6 undef= .slice (some ⟨b,o,none⟩) ts.length cc->
  (∀i (h:i<ts.length),w.cell? ⟨b,o+i,none⟩=some (.string ts[i]))->(ts.map (·.size)).sum+1<=140737488355328->ts.length<=cc->ts.length<9223372036854775808->
  (∀a' w',Calm w w'->a'.tmps.size=69->a'.defers=a.defers->a'.tmps.getD 2 undef= .string ⟨((if neg then [45] else [])++mU ts.reverse).toArray⟩->Q .ret a' w')->
  (sj 5 c).wpIn Fence.wide 0 P Q a w
section
variable {O:bq}
def ahD {n K:Nat} (h:n<18446744073709551616^K):(ax n).length<=20*K+1:=by
 refine oP (k:=20*K) (yN h ?_);have h1:(10:Nat)^(20*K)=(10^20)^K:=Nat.pow_mul ..;exact xj (by rw [h1];exact Nat.pow_le_pow_left (by decide) K) (xA (by decide) (Nat.le_succ _))
def alp (hO:ej O) (hN:Nu O.prog O.aT) (Cz:O.aT.pure 138=some zu) (sK:O.aT.pure 139=some zN) (Fs:O.prog 99=some CO) {fn:td} {c:wL} (kq:O.P.funcs[O.ah 99]? =some fn) (iJ:fn.body=some c) (NX:fn.ntmps=69)
  (S3:Ns 5 c) (ht:Qs O.P c) {s z:Int} {e:Bool} {l:List Nat} (hn:cV s (.aH e l.length (l.map uc)) z) (kU:0<z.natAbs) (hK:l.length<=4000000000) (ON:z.natAbs<18446744073709551616^l.length):
  ez O 99 [.agg [aa s,.aH e l.length (l.map uc)]] (.str (aW z)):=by
 have hlen:=ahD ON;obtain ⟨ps,fC,OL,zp,e1⟩:=ahC (P:=O.prog) (L:=O.aT) hN Cz sK hn kU ON hK (by omega)
 refine alo hO Fs kq iJ (s:=⟨[(2,.str (aW z))],[(0,.cells true true false 1 (ps.map .str))],1,0⟩) (v:= .str (aW z)) ?_ rfl rfl;intro ar1 m S w a htr hh AU eF hgs zq;refine abj hO 5 c 0 0 S3 _ _ (by rw [ar1];exact e1) m S w a (fun l hl=>by cases hl) htr hh (yv _) AU hgs (yv _) ⟨[],by rw [zq];rfl,by simp,by simp⟩ ?_
 rintro a' w' ⟨_,m',S',k1,k2,k3,k4,k5,k6,k7⟩;have r3:=k1 3;have r6:=k1 6;have g3:aj [(3,AV.bool (decide (z<0))),(6,.aE 0 0 ps.length)] 3= .bool (decide (z<0)):=rfl;have g6:aj [(3,AV.bool (decide (z<0))),(6,.aE 0 0 ps.length)] 6= .aE 0 0 ps.length:=rfl;rw [g3] at r3;rw [g6] at r6;simp only [ai] at r3 r6;obtain ⟨p,cc,hm,r6,hcc,_⟩:=r6;obtain ⟨p',arr,t,fK,_,_,_,_,_,CF,_⟩:=k2.obj 0 _ p rfl hm;rw [hm] at fK;cases fK;obtain ⟨ts,ol,B6⟩:=Xd CF;have mq:ts.length=ps.length:=by rw [<-ol,List.length_map]
 have AD:=anD ol;rw [<-zp] at AD;have S4:=anC ol;rw [<-zp] at S4;refine ht _ a' w' (decide (z<0)) ts p.b p.o cc ?_ r3 (by rw [mq];exact r6) B6 (by omega) (by omega) (by omega) ?_
 ·grind
 ·intro a2 w2 hc h1 h2 h3;have JC:=Dw k2 hc (S':=S') (fun _ h=>h) (fun _ h=> .inl h) (fun b hb=>yN (k2.slt b hb) hc.size);refine ⟨rfl,m',S',?_,JC,rfl,Nat.zero_le _,k5.trans (Bs k2 hc (fun _ h=>h) (fun _ h=> .inl h)),?_,?_⟩
  ·intro i;by_cases hi:i=2
   ·subst hi;rw [h3];show ai O.ah m' S' w2 (.str (aW z)) _
    simp only [ai];refine ⟨_,rfl,?_⟩;by_cases h0:z<0
    ·rw [lZ h0,xi h0];simp only [xh,xy];rw [S4];rfl
    ·obtain ⟨n,rfl⟩:∃n:Nat,z=n:=⟨z.toNat,by omega⟩;rw [yX h0];simp only [Bool.false_eq_true,y8,xW];rw [S4];rfl
   ·have:aj [(2,AV.str (aW z))] i= .undef:=by
     have hb:Nat.beq 2 i=false:=by
      cases hq:Nat.beq 2 i with
      | false=>rfl
      | true=>exact absurd (Nat.eq_of_beq_eq_true hq).symm hi
     simp only [aj,hb,yM]
    show ai O.ah m' S' w2 (aj [(2,AV.str (aW z))] i) _
    rw [this];simp only [ai]
  ·rw [h1,eF,NX];simp
  ·rw [h2]
   exact zD k2 (Bs (base:=0) k2 hc (fun _ h=>h) (fun _ h=> .inl h)) k7
end
end
end VE
