import Derived.Test.YtflgmingejdfnaaGreatDoorUat
import Derived.Test.YtflgmingejdfnaaGreatDoorUau
import Derived.Test.YtflgmingejdfnaaGreatDoorUaq
import Derived.Test.YtflgmingejdfnaaGreatDoorUag
set_option linter.all false
set_option maxRecDepth 100000
open Go renaming Code→wM,Func→tC,World→yh
open Go.Fence renaming wide→yaC
open List renaming append_assoc→xo,length_append→yO,length_cons→yy,length_nil→yG,map_append→xt,map_map→ybt,map_reverse→tu,nil_append→xN
open Nat renaming ble_eq_true_of_le→yu,div_eq_of_lt→wR,le_refl→yB,le_trans→xp,lt_of_lt_of_le→yL,mul_one→yi,pow_le_pow_right→xk,pow_pos→ybK,pow_succ→xj,reduceAdd→yb,reduceEqDiff→ya,reduceLT→yt,reduceLeDiff→ye,reduceMul→xK,zero_add→yd
open UInt8 renaming toNat→yX
namespace VE
section
open Go (IntKind)
def abL:∀j:Nat,iv [48] j++[48]=[48]++iv [48] j
 | 0=>rfl
 | j+1=>by
  show ([48]++iv [48] j)++[48]=[48]++([48]++iv [48] j)
  rw [xo,abL j]
def FE:∀j:Nat,(iv [48] j).length=j
 | 0=>rfl
 | j+1=>by show ([48]++iv [48] j).length=_;rw [yO,FE j];simp;omega
def anJ:∀(k n:Nat),n<10^k->0<k->iX k n=iv [48] (k-(an n).length)++an n:=by
 intro k
 induction k with
 | zero=>intro n _ h;omega
 | succ k ih=>
  intro n hn _;rw [iX];by_cases iy:n<10
  ·rw [oD iy,Nat.mod_eq_of_lt iy]
   cases k with
   | zero=>rfl
   | succ k=>
    rw [ih (n/10) (by rw [wR iy];exact ybK (by decide)) (by omega),wR iy]
    rw [show an 0=[48] by decide];rw [abL];rfl
  ·have hk:0<k:=by
    grind
   rw [ih (n/10) (by rw [xj] at hn;omega) hk,pJ iy,xo,yO]
   grind
def anK {m d r:Nat} (hd:d=m/1000000000000000000) (hr:r=m%1000000000000000000):(0<d->an m=an d++(iv [48] (18-(an r).length)++an r))/\(d=0->an m=an r):=by
 have X4:r<10^18:=by omega
 constructor
 ·intro h0;rw [<-anJ 18 r X4 (by decide),<-NO 18 d r h0 X4]
  grind
 ·grind
section
variable {P:aI} {L:Lib}
def avh {f:cT} (h:L.pure 138=some BI) {n:Nat} (hn:n<18446744073709551616):bY P L f 138 [uc n,aa 10]=some (.str (an n)):=by
 rw [iP h];show (bif Nat.blt n 18446744073709551616 then some (AV.str (an n)) else none)=_
 rw [lk hn];rfl
def UJ {f:cT} (h:L.pure 139=some BZ) {n:Nat} (hn:n<=100):bY P L f 139 [.str [48],aa (n:Nat)]=some (.str (iv [48] n)):=by
 rw [iP h];show (bif Nat.ble n 1099511627776&&Nat.ble (1*n) 1099511627776 then some (AV.str (iv [48] n)) else none)=_
 rw [yu (by omega),yu (by omega)];rfl
def avi (h:Wd P L) (ED:L.pure 138=some BI) (A8:L.pure 139=some BZ) {neg:Bool} {M K:Nat} (hM0:0<M) (hK:K<=4000000000) (hlen:(an M).length<=300000000000):
  ∀k s,(∃(m:Nat) (w:AV) (ps:List (List Nat)) (fl:Bool),m=k/\WN w m/\m<18446744073709551616^K/\an M=(if m=0 then [] else an m)++ps.reverse.flatten/\((ps=[]->m=M)/\18*ps.length<=(an M).length+18)/\(m≠0->18*ps.length+(an m).length=(an M).length)/\
    ((ps=[]/\bA [3,4,5,6] s=⟨[(3,.bool neg),(4,w),(5,.ak 0 0 1),(6,.ae)],[(0,.cells fl true true 1 [uc 1000000000000000000])],1,0⟩)\/
    (ps≠[]/\bA [3,4,5,6] s=⟨[(3,.bool neg),(4,w),(5,.ak 0 0 1),(6,.ak 1 0 ps.length)],[(1,.cells true true false 1 (ps.map .str)),(0,.cells fl true true 1 [uc 1000000000000000000])],2,0⟩)))->
   ∃ex s',D P L (.loop [3,4,5,6] p9) s=some (ex,s')/\∃tm ps fl,ex= .exit 0/\ps≠[]/\ps.length<=300000000000/\an M=ps.reverse.flatten/\ab tm 3= .bool neg/\ab tm 6= .ak 1 0 ps.length/\s'=⟨tm,[(1,.cells true true false 1 (ps.map .str)),(0,.cells fl true true 1 [uc 1000000000000000000])],2,0⟩:=by
 refine cg (I:=fun k s=>∃(m:Nat) (w:AV) (ps:List (List Nat)) (fl:Bool),m=k/\WN w m/\m<18446744073709551616^K/\an M=(if m=0 then [] else an m)++ps.reverse.flatten/\((ps=[]->m=M)/\18*ps.length<=(an M).length+18)/\(m≠0->18*ps.length+(an m).length=(an M).length)/\
    ((ps=[]/\s=⟨[(3,.bool neg),(4,w),(5,.ak 0 0 1),(6,.ae)],[(0,.cells fl true true 1 [uc 1000000000000000000])],1,0⟩)\/
    (ps≠[]/\s=⟨[(3,.bool neg),(4,w),(5,.ak 0 0 1),(6,.ak 1 0 ps.length)],[(1,.cells true true false 1 (ps.map .str)),(0,.cells fl true true 1 [uc 1000000000000000000])],2,0⟩))) (Q:=fun ex s'=>∃tm ps fl,ex= .exit 0/\ps≠[]/\ps.length<=300000000000/\an M=ps.reverse.flatten/\ab tm 3= .bool neg/\ab tm 6= .ak 1 0 ps.length/\s'=⟨tm,[(1,.cells true true false 1 (ps.map .str)),(0,.cells fl true true 1 [uc 1000000000000000000])],2,0⟩) ?_
 rintro k s ⟨m,w,ps,fl,rfl,hw,hmK,BF,aiB,qK,hs⟩;obtain ⟨lw,uw,gw,nw,vw⟩:=hw;by_cases hm:m=0
 ·right
  have mM:lw=[]:=List.eq_nil_of_length_eq_zero (Nat.le_zero.1 (oW (K:=0) nw vw (by rw [hm];decide)))
  subst mM;rw [yF hm,xN] at BF;have ew:ps≠[]:=fun e=>by have:=aiB.1 e;omega
  have RE:ps.length<=300000000000:=by have:=aiB.2;omega
  rcases hs with ⟨h0,_⟩ | ⟨_,rfl⟩
  ·exact absurd h0 ew
  ·simp only [go_sem,ya,p9,uw.len,yG,show ¬(0:Int)<((0:Nat):Int) by omega];exact ⟨_,_,rfl,by simp,_,ps,fl,rfl,ew,RE,BF,by simp only [go_sem,ya],by simp only [go_sem,ya],rfl⟩
 ·left
  have hw:WN w m:=⟨lw,uw,gw,nw,vw⟩;have hB:WN (.aO true 1 [uc 1000000000000000000]) 1000000000000000000:=⟨[1000000000000000000],nS true [1000000000000000000],F6.2 (by decide),by decide,by simp [bv]⟩;obtain ⟨q,r,e1,hq,hr⟩:=ahW h hw hB (K:=K+1) (by decide) (yL hmK (xk (by decide) (by omega))) (by rw [xj];have:=ybK (n:=K) (show 0<18446744073709551616 by decide);omega) (by omega)
  obtain ⟨t1,t2⟩:=anK (m:=m) rfl rfl;have fS:=Nat.div_add_mod m 1000000000000000000;have hrB:=Nat.mod_lt m (show 0<1000000000000000000 by decide);obtain ⟨d,hd⟩:∃d,d=m/1000000000000000000:=⟨_,rfl⟩;obtain ⟨x,hx⟩:∃x,x=m%1000000000000000000:=⟨_,rfl⟩;rw [<-hd] at hq t1 t2 fS;rw [<-hx] at hr t1 t2 fS hrB;obtain ⟨lq,uq,gq,nq,vq⟩:=hq;obtain ⟨lr,ur,gr,nr,vr⟩:=hr;have hxl:(an x).length<=18:=sO (k:=17) (by omega);have hxp:=rn x;have Mf:(lr=[]/\x=0)\/lr=[x]:=by
   have h1:lr.length<=1:=oW (K:=1) nr vr (by rw [Nat.pow_one];omega)
   cases lr with
   | nil=>exact .inl ⟨rfl,by rw [<-vr];rfl⟩
   | cons a l=>
    cases l with
    | nil=>rw [B8] at vr;exact .inr (by rw [vr])
    | cons b l=>simp at h1
  have Mz:(lq=[]/\d=0)\/(0<lq.length/\0<d):=by
   cases lq with
   | nil=>exact .inl ⟨rfl,by rw [<-vq];rfl⟩
   | cons a l=>
    refine .inr ⟨by simp,?_⟩;rcases Nat.eq_zero_or_pos d with h0 | h0
    ·have:=oW (K:=0) nq vq (by rw [h0];decide)
     simp at this
    ·exact h0
  unfold af at e1;have Dp:(0:Int)<(lw.length:Int):=by
   have:lw≠[]:=fun e=>by subst e;simp [bv] at vw;omega
   have:=List.length_pos_iff.2 this
   omega
  have aCA:=qK hm;have hmp:=rn m;have new:∀t:List Nat,an m=(if d=0 then [] else an d)++t->(d≠0->t.length=18)->
    an M=(if d=0 then [] else an d)++(ps++[t]).reverse.flatten/\((ps++[t]=[]->d=M)/\18*(ps++[t]).length<=(an M).length+18)/\(d≠0->18*(ps++[t]).length+(an d).length=(an M).length):=fun t h1 h2=>by
   rw [yr hm,h1] at BF;refine ⟨by rw [BF];simp,⟨by simp,by simp only [yO,yy,yG];omega⟩,fun h0=>?_⟩
   have h3:=congrArg List.length h1;rw [yr h0,yO,h2 h0] at h3;simp only [yO,yy,yG];omega
  have CL:d<m:=by omega
  have Dq:WN q d:=⟨lq,uq,gq,nq,vq⟩;have py:lr=[x]->iF 1 0 r=some (.bi (.int .u64 x::([]:List AV))):=fun e=>by
   subst e
   have:=ur.aY (i:=0) (by simp)
   simpa using this
  have f1:=avh (P:=P) (f:=D P L) ED (n:=x) (by omega);have f2:=UJ (P:=P) (f:=D P L) A8 (n:=18-(an x).length) (by omega);have WI:(18:Int)-((an x).length:Int)=((18-(an x).length:Nat):Int):=by omega
  have aCB:18*ps.length<=300000000000:=by omega
  have zl:(iv [48] (18-(an x).length)++an x).length=18:=by rw [yO,FE];omega
  obtain ⟨z,hz⟩:∃z,z=an x:=⟨_,rfl⟩;have j0:x=0->z=[48]:=fun e=>by rw [hz,e];decide
  rw [<-hz] at f1 f2 WI hxl hxp zl t1 t2;cases fl
  all_goals
   rcases Mz with ⟨rfl,gN⟩ | ⟨Ru,gN⟩
   ·obtain ⟨n1,n2,n3⟩:=new z (by rw [yF gN,xN];exact t2 gN) (fun h=>absurd gN h)
    rcases Mf with ⟨rfl,Bu⟩ | rfl
    ·have mS:=j0 Bu;clear hz;subst mS;rcases hs with ⟨fH,rfl⟩ | ⟨fH,rfl⟩
     ·subst fH;simp only [go_sem,ya,yb,xK,yt,ye,yi,p9,uw.len,uw.ah,uq.len,uq.bN,ur.len,ur.bN,Dp,e1,yG,yG,show ¬(0:Int)<((0:Nat):Int) by omega,ki];refine ⟨_,d,rfl,CL,d,q,[]++[[48]],false,rfl,Dq,by omega,n1,n2,n3,.inr ⟨by simp,?_⟩⟩;simp only [go_sem,ya,yb,av,az uq.pu,aE _ uq.pu]<;>rfl
     ·simp only [go_sem,ya,yb,yt,ye,yi,p9,uw.len,uw.ah,uq.len,uq.bN,ur.len,ur.bN,Dp,e1,yG,yG,show ¬(0:Int)<((0:Nat):Int) by omega]
      rw [jN (ex:=false) (pu:=true) (cs:=ps.map .str) (by simp only [go_sem,ya]) (by simp) (by omega) (by omega) (by decide) (by simp only [go_sem])];simp only [go_sem,ya,yb];refine ⟨_,d,rfl,CL,d,q,ps++[[48]],false,rfl,Dq,by omega,n1,n2,n3,.inr ⟨by simp,?_⟩⟩;rw [xt,yO];simp only [go_sem,ya,yb,av,az uq.pu,aE _ uq.pu]<;>rfl
    ·rcases hs with ⟨fH,rfl⟩ | ⟨fH,rfl⟩
     ·subst fH;simp only [go_sem,ya,yb,xK,yt,ye,yi,p9,uw.len,uw.ah,uq.len,uq.bN,ur.len,ur.bN,Dp,e1,yy,yG,yd,show (0:Int)<((1:Nat):Int) by omega,py rfl,f1,yG,show ¬(0:Int)<((0:Nat):Int) by omega,ki];refine ⟨_,d,rfl,CL,d,q,[]++[z],false,rfl,Dq,by omega,n1,n2,n3,.inr ⟨by simp,?_⟩⟩;simp only [go_sem,ya,yb,av,az uq.pu,aE _ uq.pu]<;>rfl
     ·simp only [go_sem,ya,yb,yt,ye,yi,p9,uw.len,uw.ah,uq.len,uq.bN,ur.len,ur.bN,Dp,e1,yy,yG,yd,show (0:Int)<((1:Nat):Int) by omega,py rfl,f1,yG,show ¬(0:Int)<((0:Nat):Int) by omega]
      rw [jN (ex:=false) (pu:=true) (cs:=ps.map .str) (by simp only [go_sem,ya]) (by simp) (by omega) (by omega) (by decide) (by simp only [go_sem])];simp only [go_sem,ya,yb];refine ⟨_,d,rfl,CL,d,q,ps++[z],false,rfl,Dq,by omega,n1,n2,n3,.inr ⟨by simp,?_⟩⟩;rw [xt,yO];simp only [go_sem,ya,yb,av,az uq.pu,aE _ uq.pu]<;>rfl
   ·obtain ⟨n1,n2,n3⟩:=new (iv [48] (18-z.length)++z) (by rw [yr (by omega)];exact t1 gN) (fun _=>zl)
    rcases Mf with ⟨rfl,Bu⟩ | rfl
    ·have mS:=j0 Bu;clear hz;subst mS;rcases hs with ⟨fH,rfl⟩ | ⟨fH,rfl⟩
     ·subst fH
      simp only [go_sem,ya,yb,xK,yt,ye,yi,p9,uw.len,uw.ah,uq.len,uq.bN,ur.len,ur.bN,Dp,e1,yG,show ¬(0:Int)<((0:Nat):Int) by omega,show (0:Int)<(lq.length:Int) by omega,show (18:Int)-((1:Nat):Int)=((17:Nat):Int) from rfl,wrapN (n:=17) (by omega),UJ (P:=P) (f:=D P L) A8 (n:=17) (by omega),gH (a:=iv [48] 17) (b:=[48]) (by rw [FE];decide),ki]
      refine ⟨_,d,rfl,CL,d,q,[]++[iv [48] 17++[48]],false,rfl,Dq,by omega,n1,n2,n3,.inr ⟨by simp,?_⟩⟩;simp only [go_sem,ya,yb,av,az uq.pu,aE _ uq.pu]<;>rfl
     ·simp only [go_sem,ya,yb,yt,ye,yi,p9,uw.len,uw.ah,uq.len,uq.bN,ur.len,ur.bN,Dp,e1,yG,show ¬(0:Int)<((0:Nat):Int) by omega,show (0:Int)<(lq.length:Int) by omega,show (18:Int)-((1:Nat):Int)=((17:Nat):Int) from rfl,wrapN (n:=17) (by omega),UJ (P:=P) (f:=D P L) A8 (n:=17) (by omega),gH (a:=iv [48] 17) (b:=[48]) (by rw [FE];decide)]
      rw [jN (ex:=false) (pu:=true) (cs:=ps.map .str) (by simp only [go_sem,ya]) (by simp) (by omega) (by omega) (by decide) (by simp only [go_sem])];simp only [go_sem,ya,yb];refine ⟨_,d,rfl,CL,d,q,ps++[iv [48] 17++[48]],false,rfl,Dq,by omega,n1,n2,n3,.inr ⟨by simp,?_⟩⟩;rw [xt,yO];simp only [go_sem,ya,yb,av,az uq.pu,aE _ uq.pu]<;>rfl
    ·rcases hs with ⟨fH,rfl⟩ | ⟨fH,rfl⟩
     ·subst fH
      simp only [go_sem,ya,yb,xK,yt,ye,yi,p9,uw.len,uw.ah,uq.len,uq.bN,ur.len,ur.bN,Dp,e1,yy,yG,yd,show (0:Int)<((1:Nat):Int) by omega,py rfl,f1,show (0:Int)<(lq.length:Int) by omega,WI,wrapN (n:=18-z.length) (by omega),f2,gH (a:=iv [48] (18-z.length)) (b:=z) (by rw [FE];omega),ki];refine ⟨_,d,rfl,CL,d,q,[]++[iv [48] (18-z.length)++z],false,rfl,Dq,by omega,n1,n2,n3,.inr ⟨by simp,?_⟩⟩;simp only [go_sem,ya,yb,av,az uq.pu,aE _ uq.pu]<;>rfl
     ·simp only [go_sem,ya,yb,yt,ye,yi,p9,uw.len,uw.ah,uq.len,uq.bN,ur.len,ur.bN,Dp,e1,yy,yG,yd,show (0:Int)<((1:Nat):Int) by omega,py rfl,f1,show (0:Int)<(lq.length:Int) by omega,WI,wrapN (n:=18-z.length) (by omega),f2,gH (a:=iv [48] (18-z.length)) (b:=z) (by rw [FE];omega)]
      rw [jN (ex:=false) (pu:=true) (cs:=ps.map .str) (by simp only [go_sem,ya]) (by simp) (by omega) (by omega) (by decide) (by simp only [go_sem])];simp only [go_sem,ya,yb];refine ⟨_,d,rfl,CL,d,q,ps++[iv [48] (18-z.length)++z],false,rfl,Dq,by omega,n1,n2,n3,.inr ⟨by simp,?_⟩⟩;rw [xt,yO];simp only [go_sem,ya,yb,av,az uq.pu,aE _ uq.pu]<;>rfl
end
end
section
open Go (IntKind)
section
variable {P:aI} {L:Lib}
def alV (h:Nu P L) (ED:L.pure 138=some BI) (A8:L.pure 139=some BZ) {s z:Int} {e:Bool} {l:List Nat} (hn:cZ s (.aO e l.length (l.map uc)) z) {K:Nat} (mS:0<z.natAbs) (RF:z.natAbs<18446744073709551616^K) (hK:K<=4000000000) (hlen:(an z.natAbs).length<=300000000000):
  ∃ps:List (List Nat),ps≠[]/\ps.length<=300000000000/\an z.natAbs=ps.reverse.flatten/\D P L (Lk 5 Bn.body) ⟨[(0,.agg [aa s,.aO e l.length (l.map uc)])],[],0,0⟩=some (.normal,⟨[(3,.bool (decide (z<0))),(6,.ak 0 0 ps.length)],[(0,.cells true true false 1 (ps.map .str))],1,0⟩):=by
 obtain ⟨r,e1,hr⟩:=A3 h hn;have bW:=hr;obtain ⟨lr,ur,gr,nr,vr⟩:=hr;simp only [go_sem,ya,yb,ye,yi,Bn,Lk,bP,aD,aG,aZ,yd,cC,oL,dA,bZ,bl,e1];generalize mT:D P L (.loop [3,4,5,6] p9) _=qq;obtain ⟨ex,st,rfl,tm,ps,fl,rfl,ew,RE,BF,t3,t6,rfl⟩:=bV mT (avi (P:=P) (L:=L) h.toWd ED A8 (neg:=decide (z<0)) (M:=z.natAbs) (K:=K) mS hK hlen z.natAbs) ⟨z.natAbs,bN r,[],true,rfl,bW,RF,by rw [yr (by omega)];simp,⟨fun _=>rfl,by simp⟩,fun _=>by simp,.inl ⟨rfl,by
  simp only [go_sem,ya,yb,av,az ur.pu,aE _ ur.pu]<;>rfl⟩⟩
 refine ⟨ps,ew,RE,BF,?_⟩;simp only [go_sem,yb,av,t3,t6]
end
end
section
open Go
variable {O:bD}
def AQ:Nat->wM->wM
 | 0,.seq _ b=>b
 | n+1,.seq _ b=>AQ n b
 | _,c=>c
def Qh:Nat->wM->Prop
 | 0,.seq _ _=>True
 | n+1,.seq _ b=>Qh n b
 | _,_=>False
def acO (hO:eP O) {h:Nat} {c:wM} {l k:Nat} {s:St} {ex:Ex} {s':St} (hv:D O.prog O.aU (comp O.P (O.hint h) c l k).1 s=some (ex,s')):Cj O h c s ex s':=by
 obtain ⟨n,hn⟩:=VN hv
 cases n with
 | zero=>rw [JG] at hn;cases hn
 | succ n=>
  exact adl hO n (fun k _=>ZN hO k) h c l k n (yB _) s ex s' hn
def af5 (hO:eP O) {h:Nat} {ro:Option Nat} {lo:Nat} {Q:Exit->Act->yh->Prop}:∀(n:Nat) (c:wM) (l k:Nat),Qh n c->∀(s s1:St),D O.prog O.aU (Lk n (comp O.P (O.hint h) c l k).1) s=some (.normal,s1)->
  ∀(m:Mp) (S:Nat->Prop) (w:yh) (a:Act),Au ro w->cF O m S w s.tm a.tmps->bg O m S w s.hp s.ct->s.base<=s.ct->(O.hint h).n<=a.tmps.size->O.w0.heap.size<=lo->lo<=w.heap.size->Marks lo S w a.defers->
  (∀a' w',fj O m S w s .normal s1 a.tmps.size lo .normal a' w'->(AQ n c).wpIn (WF ro) 0 O.P Q a' w')->c.wpIn (WF ro) 0 O.P Q a w
 | n,c,l,k,hc,s,s1,hv=>by
  intro m S w a dF ht hh hb hn bt fJ dc hQ
  cases c with
  | seq x y=>
   cases n with
   | zero=>
    refine wpIn_seq (wpIn_mono (acO hO (show D O.prog O.aU (comp O.P (O.hint h) x l k).1 s=some (.normal,s1) from hv) ro lo m S w a dF ht hh hb hn bt fJ dc) ?_);rintro e a' w' hp;have he:e= .normal:=hp.1;subst he;exact hQ a' w' hp
   | succ n=>
    have eZ:D O.prog O.aU (.seq (comp O.P (O.hint h) x l k).1 (Lk n (comp O.P (O.hint h) y (comp O.P (O.hint h) x l k).2.1 (comp O.P (O.hint h) x l k).2.2).1)) s=some (.normal,s1):=hv;rw [kE] at eZ
    cases hx:D O.prog O.aU (comp O.P (O.hint h) x l k).1 s with
    | none=>rw [hx] at eZ;cases eZ
    | some q=>
     obtain ⟨ex,st⟩:=q;rw [hx] at eZ
     cases ex with
     | ret=>exact absurd eZ (by intro h;cases h)
     | exit id=>exact absurd eZ (by intro h;cases h)
     | normal=>
      refine wpIn_seq (wpIn_mono (acO hO hx ro lo m S w a dF ht hh hb hn bt fJ dc) ?_);rintro e a' w' ⟨rfl,m',S',k1,k2,k3,k4,k5,k6,k7⟩;refine af5 hO n y _ _ hc st s1 eZ m' S' w' a' (No k5 dF) k1 k2 (by omega) (by omega) bt (xp fJ k5.size) k7 ?_;rintro a2 w2 ⟨_,m2,S2,g1,g2,g3,g4,g5,g6,g7⟩;exact hQ a2 w2 ⟨rfl,m2,S2,g1,g2,by omega,by omega,k5.trans (by rw [<-k3];exact g5),by omega,g7⟩
  | _=>cases n<;>exact hc.elim
def avj (hO:eP O) {n:Nat} {F:aJ} (hF:O.prog n=some F) {fn:tC} {c:wM} (kM:O.P.funcs[O.ai n]? =some fn) (jF:fn.body=some c) {hp:Hp} {ct:Nat} {vals:List AV} {s:St}
  (hc:(comp O.P (O.hint n) c 0 0).1=F.body->∀m S w a,cF O m S w (fM 0 vals) a.tmps->bg O m S w hp ct->(O.hint n).n<=a.tmps.size->a.tmps.size=max fn.ntmps vals.length->O.w0.heap.size<=w.heap.size->a.defers=[]->
   c.wpIn (WF none) 0 O.P (fj O m S w ⟨fM 0 vals,hp,ct,ct⟩ .ret s a.tmps.size w.heap.size) a w) {v:AV} (hr:gX s F.dM=some v):Ci O n hp ct vals v s.hp s.ct:=by
 intro m S w args hh iq;obtain ⟨fn',q1,q2,q3⟩:=hO.prog n F hF;rw [kM] at q1;cases q1;obtain ⟨c',q4,q5,q6,q7⟩:=RY q2;rw [jF] at q4;cases q4;refine .inl ⟨NL kM (by rw [jF];rfl) q3,?_⟩
 have hlen:vals.length=args.size:=by have:=(jo _ _ iq).symm;simpa using this
 have hw:=hc q5.symm m S w {tmps:=args++Array.replicate (fn.ntmps-args.size) undef,defers:=[]} (aba _ iq) hh (by simp;omega) (by simp;omega) hh.gK rfl
 refine callsIn_of_wp_marks (F:=yaC) kM jF trivial (wpIn_mono hw ?_);rintro e a' w' ⟨rfl,m',S',k1,k2,k3,k4,k5,k6,rs,k7,k8,k9⟩;show LeavesInM yaC 0 O.P fn a'.tmps (Ae O m S w hp ct v s.hp s.ct) a'.defers .returning w'
 rw [k7];exact SC q6 hr k4 rs w' k8 k9 hh.gK k2 k1 k5
def ap8 (hO:eP O) {n:Nat} {F:aJ} (hF:O.prog n=some F) {fn:tC} {c:wM} (kM:O.P.funcs[O.ai n]? =some fn) (jF:fn.body=some c) {vals:List AV} {s:St}
  (hc:(comp O.P (O.hint n) c 0 0).1=F.body->∀m S w a,cF O m S w (fM 0 vals) a.tmps->bg O m S w [] 0->(O.hint n).n<=a.tmps.size->a.tmps.size=max fn.ntmps vals.length->O.w0.heap.size<=w.heap.size->a.defers=[]->
   c.wpIn (WF none) 0 O.P (fj O m S w ⟨fM 0 vals,[],0,0⟩ .ret s a.tmps.size w.heap.size) a w) {v r:AV} (hv:gX s F.dM=some v) (hr:result s.hp v=some r):eX O n vals r:=
 RU (avj hO hF kM jF hc hv) hr
end
section
open Go
def aaL {ai:Nat->Nat} {m:Mp} {S:Nat->Prop} {w:yh} {b:Nat}:∀{ps:List (List Nat)} {o:Nat},ck ai m S w (ps.map .str) b o->
  ∃ts:List ByteArray,(ts.map fun t=>t.data.toList.map yX)=ps/\∀i (h:i<ts.length),w.cell? ⟨b,o+i,none⟩=some (.string ts[i])
 | [],o,_=>⟨[],rfl,fun i h=>absurd h (Nat.not_lt_zero i)⟩
 | p::ps,o,h=>by
  obtain ⟨⟨u,h1,h2⟩,h3⟩:=h;obtain ⟨t,rfl,ht⟩:=h2;obtain ⟨ts,k1,k2⟩:=aaL h3;refine ⟨t::ts,by rw [List.map_cons,ht,k1],fun i hi=>?_⟩
  cases i with
  | zero=>exact h1
  | succ i=>
   grind
def oY (ts:List ByteArray):List UInt8:=(ts.map fun t=>t.data.toList).flatten
def aso {ts:List ByteArray} {ps:List (List Nat)} (h:(ts.map fun t=>t.data.toList.map yX)=ps):(oY ts.reverse).map yX=ps.reverse.flatten:=by
 subst h;unfold oY;rw [List.map_flatten,ybt,<-tu];rfl
def asp {ts:List ByteArray} {ps:List (List Nat)} (h:(ts.map fun t=>t.data.toList.map yX)=ps):(ts.map (·.size)).sum=ps.reverse.flatten.length:=by
 subst h;rw [List.length_flatten,tu,List.sum_reverse,ybt]
 congr 1
 simp_all
def Ui (P:Program) (c:wM):Prop:=∀(Q:Exit->Act->yh->Prop) (a:Act) (w:yh) (neg:Bool) (ts:List ByteArray) (b o cc:Nat),a.tmps.size=69->a.tmps.getD 3 undef= .bool neg->a.tmps.getD 6 undef= .slice (some ⟨b,o,none⟩) ts.length cc->
  (∀i (h:i<ts.length),w.cell? ⟨b,o+i,none⟩=some (.string ts[i]))->(ts.map (·.size)).sum+1<=140737488355328->ts.length<=cc->ts.length<9223372036854775808->
  (∀a' w',Calm w w'->a'.tmps.size=69->a'.defers=a.defers->a'.tmps.getD 2 undef= .string ⟨((if neg then [45] else [])++oY ts.reverse).toArray⟩->Q .ret a' w')->
  (AQ 5 c).wpIn Fence.wide 0 P Q a w
section
variable {O:bD}
def alW {n K:Nat} (h:n<18446744073709551616^K):(an n).length<=20*K+1:=by
 refine sO (k:=20*K) (yL h ?_);have h1:(10:Nat)^(20*K)=(10^20)^K:=Nat.pow_mul ..;exact xp (by rw [h1];exact Nat.pow_le_pow_left (by decide) K) (xk (by decide) (Nat.le_succ _))
def ap9 (hO:eP O) (hN:Nu O.prog O.aU) (ED:O.aU.pure 138=some BI) (A8:O.aU.pure 139=some BZ) (Dd:O.prog 99=some Bn) {fn:tC} {c:wM} (kM:O.P.funcs[O.ai 99]? =some fn) (jF:fn.body=some c) (Qt:fn.ntmps=69)
  (WJ:Qh 5 c) (ht:Ui O.P c) {s z:Int} {e:Bool} {l:List Nat} (hn:cZ s (.aO e l.length (l.map uc)) z) (mS:0<z.natAbs) (hK:l.length<=4000000000) (RF:z.natAbs<18446744073709551616^l.length):
  eX O 99 [.agg [aa s,.aO e l.length (l.map uc)]] (.str (aW z)):=by
 have hlen:=alW RF;obtain ⟨ps,ew,RE,BF,e1⟩:=alV (P:=O.prog) (L:=O.aU) hN ED A8 hn mS RF hK (by omega)
 refine ap8 hO Dd kM jF (s:=⟨[(2,.str (aW z))],[(0,.cells true true false 1 (ps.map .str))],1,0⟩) (v:= .str (aW z)) ?_ rfl rfl;intro awM m S w a htr hh Bk fk hgs BA;refine af5 hO 5 c 0 0 WJ _ _ (by rw [awM];exact e1) m S w a (fun l hl=>by cases hl) htr hh (yB _) Bk hgs (yB _) ⟨[],by rw [BA];rfl,by simp,by simp⟩ ?_
 rintro a' w' ⟨_,m',S',k1,k2,k3,k4,k5,k6,k7⟩;have r3:=k1 3;have r6:=k1 6;have g3:ab [(3,AV.bool (decide (z<0))),(6,.ak 0 0 ps.length)] 3= .bool (decide (z<0)):=rfl;have g6:ab [(3,AV.bool (decide (z<0))),(6,.ak 0 0 ps.length)] 6= .ak 0 0 ps.length:=rfl;rw [g3] at r3;rw [g6] at r6;simp only [aj] at r3 r6;obtain ⟨p,cc,hm,r6,hcc,_⟩:=r6;obtain ⟨p',arr,t,fR,_,_,_,_,_,EG,_⟩:=k2.obj 0 _ p rfl hm;rw [hm] at fR;cases fR;obtain ⟨ts,qO,nl⟩:=aaL EG;have og:ts.length=ps.length:=by rw [<-qO,List.length_map]
 have zD:=asp qO;rw [<-BF] at zD;have WK:=aso qO;rw [<-BF] at WK;refine ht _ a' w' (decide (z<0)) ts p.b p.o cc ?_ r3 (by rw [og];exact r6) nl (by omega) (by omega) (by omega) ?_
 ·grind
 ·intro a2 w2 hc h1 h2 h3;have LS:=Fw k2 hc (S':=S') (fun _ h=>h) (fun _ h=> .inl h) (fun b hb=>yL (k2.slt b hb) hc.size);refine ⟨rfl,m',S',?_,LS,rfl,Nat.zero_le _,k5.trans (Dz k2 hc (fun _ h=>h) (fun _ h=> .inl h)),?_,?_⟩
  ·intro i;by_cases hi:i=2
   ·subst hi;rw [h3];show aj O.ai m' S' w2 (.str (aW z)) _
    simp only [aj];refine ⟨_,rfl,?_⟩;by_cases h0:z<0
    ·rw [kS h0,xi h0];simp only [yV,xt];rw [WK];rfl
    ·obtain ⟨n,rfl⟩:∃n:Nat,z=n:=⟨z.toNat,by omega⟩;rw [yR h0];simp only [Bool.false_eq_true,yN,xN];rw [WK];rfl
   ·have:ab [(2,AV.str (aW z))] i= .undef:=by
     have hb:Nat.beq 2 i=false:=by
      cases hq:Nat.beq 2 i with
      | false=>rfl
      | true=>exact absurd (Nat.eq_of_beq_eq_true hq).symm hi
     simp only [ab,hb,yD]
    show aj O.ai m' S' w2 (ab [(2,AV.str (aW z))] i) _
    rw [this];simp only [aj]
  ·rw [h1,fk,Qt];simp
  ·rw [h2]
   exact BP k2 (Dz (base:=0) k2 hc (fun _ h=>h) (fun _ h=> .inl h)) k7
end
end
end VE
