import Derived.Test.YtfohkkaphnfgoaaGreatDoorTan
import Derived.Test.YtfohkkaphnfgoaaGreatDoorTal
import Derived.Test.YtfohkkaphnfgoaaGreatDoorTae
set_option linter.all false
set_option maxRecDepth 100000
open Go renaming Code→wQ,Func→tv,World→yj
open Go.Fence renaming wide→yae
open List renaming append_assoc→xF,length_append→yW,length_cons→yC,length_nil→yK,map_append→xq,map_map→yaR,map_reverse→th,nil_append→xM
open Nat renaming ble_eq_true_of_le→yx,div_eq_of_lt→wC,le_refl→yr,le_trans→xn,lt_of_lt_of_le→yP,mul_one→yh,pow_le_pow_right→xD,pow_pos→ybD,pow_succ→xk,reduceAdd→yb,reduceEqDiff→ya,reduceLT→yt,reduceLeDiff→yi,reduceMul→xj,zero_add→yd
open UInt8 renaming toNat→y9
namespace VE
section
open Go (IntKind)
def ZW:∀j:Nat,ig [48] j++[48]=[48]++ig [48] j
 | 0=>rfl
 | j+1=>by
  show ([48]++ig [48] j)++[48]=[48]++([48]++ig [48] j)
  rw [xF,ZW j]
def E4:∀j:Nat,(ig [48] j).length=j
 | 0=>rfl
 | j+1=>by show ([48]++ig [48] j).length=_;rw [yW,E4 j];simp;omega
def alt:∀(k n:Nat),n<10^k->0<k->iU k n=ig [48] (k-(aB n).length)++aB n:=by
 intro k
 induction k with
 | zero=>intro n _ h;omega
 | succ k ih=>
  intro n hn _;rw [iU];by_cases iY:n<10
  ·rw [oY iY,Nat.mod_eq_of_lt iY]
   cases k with
   | zero=>rfl
   | succ k=>
    rw [ih (n/10) (by rw [wC iY];exact ybD (by decide)) (by omega),wC iY]
    rw [show aB 0=[48] by decide];rw [ZW];rfl
  ·have hk:0<k:=by
    grind
   rw [ih (n/10) (by rw [xk] at hn;omega) hk,qM iY,xF,yW]
   grind
def alu {m d r:Nat} (hd:d=m/1000000000000000000) (hr:r=m%1000000000000000000):(0<d->aB m=aB d++(ig [48] (18-(aB r).length)++aB r))/\(d=0->aB m=aB r):=by
 have Xm:r<10^18:=by omega
 constructor
 ·intro h0;rw [<-alt 18 r Xm (by decide),<-Nj 18 d r h0 Xm]
  grind
 ·grind
section
variable {P:aG} {L:Lib}
def ast {f:cD} (h:L.pure 138=some AT) {n:Nat} (hn:n<18446744073709551616):bQ P L f 138 [uc n,aa 10]=some (.str (aB n)):=by
 rw [js h];show (bif Nat.blt n 18446744073709551616 then some (AV.str (aB n)) else none)=_
 rw [jM hn];rfl
def TC {f:cD} (h:L.pure 139=some Ba) {n:Nat} (hn:n<=100):bQ P L f 139 [.str [48],aa (n:Nat)]=some (.str (ig [48] n)):=by
 rw [js h];show (bif Nat.ble n 1099511627776&&Nat.ble (1*n) 1099511627776 then some (AV.str (ig [48] n)) else none)=_
 rw [yx (by omega),yx (by omega)];rfl
def asu (h:Wd P L) (D0:L.pure 138=some AT) (Al:L.pure 139=some Ba) {neg:Bool} {M K:Nat} (Hb:0<M) (hK:K<=4000000000) (hlen:(aB M).length<=300000000000):
  ∀k s,(∃(m:Nat) (w:AV) (ps:List (List Nat)) (fl:Bool),m=k/\WN w m/\m<18446744073709551616^K/\aB M=(if m=0 then [] else aB m)++ps.reverse.flatten/\((ps=[]->m=M)/\18*ps.length<=(aB M).length+18)/\(m≠0->18*ps.length+(aB m).length=(aB M).length)/\
    ((ps=[]/\aT [3,4,5,6] s=⟨[(3,.bool neg),(4,w),(5,.aC 0 0 1),(6,.ab)],[(0,.cells fl true true 1 [uc 1000000000000000000])],1,0⟩)\/
    (ps≠[]/\aT [3,4,5,6] s=⟨[(3,.bool neg),(4,w),(5,.aC 0 0 1),(6,.aC 1 0 ps.length)],[(1,.cells true true false 1 (ps.map .str)),(0,.cells fl true true 1 [uc 1000000000000000000])],2,0⟩)))->
   ∃ex s',D P L (.loop [3,4,5,6] pI) s=some (ex,s')/\∃tm ps fl,ex= .exit 0/\ps≠[]/\ps.length<=300000000000/\aB M=ps.reverse.flatten/\ah tm 3= .bool neg/\ah tm 6= .aC 1 0 ps.length/\s'=⟨tm,[(1,.cells true true false 1 (ps.map .str)),(0,.cells fl true true 1 [uc 1000000000000000000])],2,0⟩:=by
 intro dq sq;generalize bw:aT [3,4,5,6] sq=s0;revert bw s0 sq dq;apply dn;rintro k s ⟨m,w,ps,fl,rfl,hw,hmK,AP,af5,fm,hs⟩;obtain ⟨lw,uw,gw,nw,vw⟩:=hw;by_cases hm:m=0
 ·right
  have jB:lw=[]:=List.eq_nil_of_length_eq_zero (Nat.le_zero.1 (oz (K:=0) nw vw (by rw [hm];decide)))
  subst jB;rw [yH hm,xM] at AP;have fU:ps≠[]:=fun e=>by have:=af5.1 e;omega
  have Hc:ps.length<=300000000000:=by have:=af5.2;omega
  rcases hs with ⟨h0,_⟩ | ⟨_,rfl⟩
  ·exact absurd h0 fU
  ·simp only [go_sem,ya,pI,uw.len,yK,show ¬(0:Int)<((0:Nat):Int) by omega];exact ⟨_,_,rfl,by simp,_,ps,fl,rfl,fU,Hc,AP,by simp only [go_sem,ya],by simp only [go_sem,ya],rfl⟩
 ·left
  have hw:WN w m:=⟨lw,uw,gw,nw,vw⟩;have hB:WN (.aJ true 1 [uc 1000000000000000000]) 1000000000000000000:=⟨[1000000000000000000],nj true [1000000000000000000],FG.2 (by decide),by decide,by simp [bv]⟩;obtain ⟨q,r,e1,hq,hr⟩:=afQ h hw hB (K:=K+1) (by decide) (yP hmK (xD (by decide) (by omega))) (by rw [xk];have:=ybD (n:=K) (show 0<18446744073709551616 by decide);omega) (by omega)
  obtain ⟨t1,t2⟩:=alu (m:=m) rfl rfl;have fu:=Nat.div_add_mod m 1000000000000000000;have hrB:=Nat.mod_lt m (show 0<1000000000000000000 by decide);obtain ⟨d,hd⟩:∃d,d=m/1000000000000000000:=⟨_,rfl⟩;obtain ⟨x,hx⟩:∃x,x=m%1000000000000000000:=⟨_,rfl⟩;rw [<-hd] at hq t1 t2 fu;rw [<-hx] at hr t1 t2 fu hrB;obtain ⟨lq,uq,gq,nq,vq⟩:=hq;obtain ⟨lr,ur,gr,nr,vr⟩:=hr;have hxl:(aB x).length<=18:=qO (k:=17) (by omega);have hxp:=zD x;have Ch:(lr=[]/\x=0)\/lr=[x]:=by
   have h1:lr.length<=1:=oz (K:=1) nr vr (by rw [Nat.pow_one];omega)
   cases lr with
   | nil=>exact .inl ⟨rfl,by rw [<-vr];rfl⟩
   | cons a l=>
    cases l with
    | nil=>rw [Bj] at vr;exact .inr (by rw [vr])
    | cons b l=>simp at h1
  have Hd:(lq=[]/\d=0)\/(0<lq.length/\0<d):=by
   cases lq with
   | nil=>exact .inl ⟨rfl,by rw [<-vq];rfl⟩
   | cons a l=>
    refine .inr ⟨by simp,?_⟩;rcases Nat.eq_zero_or_pos d with h0 | h0
    ·have:=oz (K:=0) nq vq (by rw [h0];decide)
     simp at this
    ·exact h0
  unfold ae at e1;have Cp:(0:Int)<(lw.length:Int):=by
   have:lw≠[]:=fun e=>by subst e;simp [bv] at vw;omega
   have:=List.length_pos_iff.2 this
   omega
  have aBn:=fm hm;have hmp:=zD m;have new:∀t:List Nat,aB m=(if d=0 then [] else aB d)++t->(d≠0->t.length=18)->
    aB M=(if d=0 then [] else aB d)++(ps++[t]).reverse.flatten/\((ps++[t]=[]->d=M)/\18*(ps++[t]).length<=(aB M).length+18)/\(d≠0->18*(ps++[t]).length+(aB d).length=(aB M).length):=fun t h1 h2=>by
   rw [yA hm,h1] at AP;refine ⟨by rw [AP];simp,⟨by simp,by simp only [yW,yC,yK];omega⟩,fun h0=>?_⟩
   have h3:=congrArg List.length h1;rw [yA h0,yW,h2 h0] at h3;simp only [yW,yC,yK];omega
  have BR:d<m:=by omega
  have Cq:WN q d:=⟨lq,uq,gq,nq,vq⟩;have oN:lr=[x]->hZ 1 0 r=some (.aQ (.int .u64 x::([]:List AV))):=fun e=>by
   subst e
   have:=ur.aZ (i:=0) (by simp)
   simpa using this
  have f1:=ast (P:=P) (f:=D P L) D0 (n:=x) (by omega);have f2:=TC (P:=P) (f:=D P L) Al (n:=18-(aB x).length) (by omega);have Vt:(18:Int)-((aB x).length:Int)=((18-(aB x).length:Nat):Int):=by omega
  have aBo:18*ps.length<=300000000000:=by omega
  have zl:(ig [48] (18-(aB x).length)++aB x).length=18:=by rw [yW,E4];omega
  obtain ⟨z,hz⟩:∃z,z=aB x:=⟨_,rfl⟩;have jD:x=0->z=[48]:=fun e=>by rw [hz,e];decide
  rw [<-hz] at f1 f2 Vt hxl hxp zl t1 t2;cases fl
  all_goals
   rcases Hd with ⟨rfl,iN⟩ | ⟨QN,iN⟩
   ·obtain ⟨n1,n2,n3⟩:=new z (by rw [yH iN,xM];exact t2 iN) (fun h=>absurd iN h)
    rcases Ch with ⟨rfl,AI⟩ | rfl
    ·have mf:=jD AI;clear hz;subst mf;rcases hs with ⟨eW,rfl⟩ | ⟨eW,rfl⟩
     ·subst eW;simp only [go_sem,ya,yb,xj,yt,yi,yh,pI,uw.len,uw.af,uq.len,uq.bG,ur.len,ur.bG,Cp,e1,yK,yK,show ¬(0:Int)<((0:Nat):Int) by omega,gC];refine ⟨_,d,rfl,BR,d,q,[]++[[48]],false,rfl,Cq,by omega,n1,n2,n3,.inr ⟨by simp,?_⟩⟩;simp only [go_sem,ya,yb,an,ak uq.pu,ao _ uq.pu]<;>rfl
     ·simp only [go_sem,ya,yb,yt,yi,yh,pI,uw.len,uw.af,uq.len,uq.bG,ur.len,ur.bG,Cp,e1,yK,yK,show ¬(0:Int)<((0:Nat):Int) by omega]
      rw [fV (ex:=false) (pu:=true) (cs:=ps.map .str) (by simp only [go_sem,ya]) (by simp) (by omega) (by omega) (by decide) (by simp only [go_sem])];simp only [go_sem,ya,yb];refine ⟨_,d,rfl,BR,d,q,ps++[[48]],false,rfl,Cq,by omega,n1,n2,n3,.inr ⟨by simp,?_⟩⟩;rw [xq,yW];simp only [go_sem,ya,yb,an,ak uq.pu,ao _ uq.pu]<;>rfl
    ·rcases hs with ⟨eW,rfl⟩ | ⟨eW,rfl⟩
     ·subst eW;simp only [go_sem,ya,yb,xj,yt,yi,yh,pI,uw.len,uw.af,uq.len,uq.bG,ur.len,ur.bG,Cp,e1,yC,yK,yd,show (0:Int)<((1:Nat):Int) by omega,oN rfl,f1,yK,show ¬(0:Int)<((0:Nat):Int) by omega,gC];refine ⟨_,d,rfl,BR,d,q,[]++[z],false,rfl,Cq,by omega,n1,n2,n3,.inr ⟨by simp,?_⟩⟩;simp only [go_sem,ya,yb,an,ak uq.pu,ao _ uq.pu]<;>rfl
     ·simp only [go_sem,ya,yb,yt,yi,yh,pI,uw.len,uw.af,uq.len,uq.bG,ur.len,ur.bG,Cp,e1,yC,yK,yd,show (0:Int)<((1:Nat):Int) by omega,oN rfl,f1,yK,show ¬(0:Int)<((0:Nat):Int) by omega]
      rw [fV (ex:=false) (pu:=true) (cs:=ps.map .str) (by simp only [go_sem,ya]) (by simp) (by omega) (by omega) (by decide) (by simp only [go_sem])];simp only [go_sem,ya,yb];refine ⟨_,d,rfl,BR,d,q,ps++[z],false,rfl,Cq,by omega,n1,n2,n3,.inr ⟨by simp,?_⟩⟩;rw [xq,yW];simp only [go_sem,ya,yb,an,ak uq.pu,ao _ uq.pu]<;>rfl
   ·obtain ⟨n1,n2,n3⟩:=new (ig [48] (18-z.length)++z) (by rw [yA (by omega)];exact t1 iN) (fun _=>zl)
    rcases Ch with ⟨rfl,AI⟩ | rfl
    ·have mf:=jD AI;clear hz;subst mf;rcases hs with ⟨eW,rfl⟩ | ⟨eW,rfl⟩
     ·subst eW
      simp only [go_sem,ya,yb,xj,yt,yi,yh,pI,uw.len,uw.af,uq.len,uq.bG,ur.len,ur.bG,Cp,e1,yK,show ¬(0:Int)<((0:Nat):Int) by omega,show (0:Int)<(lq.length:Int) by omega,show (18:Int)-((1:Nat):Int)=((17:Nat):Int) from rfl,wrapN (n:=17) (by omega),TC (P:=P) (f:=D P L) Al (n:=17) (by omega),gN (a:=ig [48] 17) (b:=[48]) (by rw [E4];decide),gC]
      refine ⟨_,d,rfl,BR,d,q,[]++[ig [48] 17++[48]],false,rfl,Cq,by omega,n1,n2,n3,.inr ⟨by simp,?_⟩⟩;simp only [go_sem,ya,yb,an,ak uq.pu,ao _ uq.pu]<;>rfl
     ·simp only [go_sem,ya,yb,yt,yi,yh,pI,uw.len,uw.af,uq.len,uq.bG,ur.len,ur.bG,Cp,e1,yK,show ¬(0:Int)<((0:Nat):Int) by omega,show (0:Int)<(lq.length:Int) by omega,show (18:Int)-((1:Nat):Int)=((17:Nat):Int) from rfl,wrapN (n:=17) (by omega),TC (P:=P) (f:=D P L) Al (n:=17) (by omega),gN (a:=ig [48] 17) (b:=[48]) (by rw [E4];decide)]
      rw [fV (ex:=false) (pu:=true) (cs:=ps.map .str) (by simp only [go_sem,ya]) (by simp) (by omega) (by omega) (by decide) (by simp only [go_sem])];simp only [go_sem,ya,yb];refine ⟨_,d,rfl,BR,d,q,ps++[ig [48] 17++[48]],false,rfl,Cq,by omega,n1,n2,n3,.inr ⟨by simp,?_⟩⟩;rw [xq,yW];simp only [go_sem,ya,yb,an,ak uq.pu,ao _ uq.pu]<;>rfl
    ·rcases hs with ⟨eW,rfl⟩ | ⟨eW,rfl⟩
     ·subst eW
      simp only [go_sem,ya,yb,xj,yt,yi,yh,pI,uw.len,uw.af,uq.len,uq.bG,ur.len,ur.bG,Cp,e1,yC,yK,yd,show (0:Int)<((1:Nat):Int) by omega,oN rfl,f1,show (0:Int)<(lq.length:Int) by omega,Vt,wrapN (n:=18-z.length) (by omega),f2,gN (a:=ig [48] (18-z.length)) (b:=z) (by rw [E4];omega),gC];refine ⟨_,d,rfl,BR,d,q,[]++[ig [48] (18-z.length)++z],false,rfl,Cq,by omega,n1,n2,n3,.inr ⟨by simp,?_⟩⟩;simp only [go_sem,ya,yb,an,ak uq.pu,ao _ uq.pu]<;>rfl
     ·simp only [go_sem,ya,yb,yt,yi,yh,pI,uw.len,uw.af,uq.len,uq.bG,ur.len,ur.bG,Cp,e1,yC,yK,yd,show (0:Int)<((1:Nat):Int) by omega,oN rfl,f1,show (0:Int)<(lq.length:Int) by omega,Vt,wrapN (n:=18-z.length) (by omega),f2,gN (a:=ig [48] (18-z.length)) (b:=z) (by rw [E4];omega)]
      rw [fV (ex:=false) (pu:=true) (cs:=ps.map .str) (by simp only [go_sem,ya]) (by simp) (by omega) (by omega) (by decide) (by simp only [go_sem])];simp only [go_sem,ya,yb];refine ⟨_,d,rfl,BR,d,q,ps++[ig [48] (18-z.length)++z],false,rfl,Cq,by omega,n1,n2,n3,.inr ⟨by simp,?_⟩⟩;rw [xq,yW];simp only [go_sem,ya,yb,an,ak uq.pu,ao _ uq.pu]<;>rfl
end
end
section
open Go (IntKind)
def ik:Nat->VC->VC
 | 0,c=>bk c
 | n+1,c=> .seq (bk c) (ik n (aw c))
def kG:Nat->VC->VC
 | 0,c=>aw c
 | n+1,c=>kG n (aw c)
def af6:Nat->VC->Prop
 | 0,c=>c= .seq (bk c) (aw c)
 | n+1,c=>c= .seq (bk c) (aw c)/\af6 n (aw c)
def abO {P:aG} {L:Lib}:∀(n:Nat) {c:VC},af6 n c->∀s,D P L c s=iQ P L (D P L (ik n c) s) (kG n c)
 | 0,c,h,s=>by
  conv=>lhs;rw [show c= .seq (bk c) (aw c) from h]
  rw [kE];rfl
 | n+1,c,h,s=>by
  conv=>lhs;rw [show c= .seq (bk c) (aw c) from h.1]
  show _=iQ P L (D P L (.seq (bk c) (ik n (aw c))) s) (kG n (aw c))
  rw [kE,kE]
  cases D P L (bk c) s with
  | none=>rfl
  | some q=>
   obtain ⟨ex,st⟩:=q
   cases ex with
   | normal=>rw [gD,gD];exact abO n h.2 st
   | ret=>rfl
   | exit id=>rfl
end
section
open Go (IntKind)
section
variable {P:aG} {L:Lib}
def ajR (h:Nu P L) (D0:L.pure 138=some AT) (Al:L.pure 139=some Ba) {s z:Int} {e:Bool} {l:List Nat} (hn:da s (.aJ e l.length (l.map uc)) z) {K:Nat} (mf:0<z.natAbs) (QO:z.natAbs<18446744073709551616^K) (hK:K<=4000000000) (hlen:(aB z.natAbs).length<=300000000000):
  ∃ps:List (List Nat),ps≠[]/\ps.length<=300000000000/\aB z.natAbs=ps.reverse.flatten/\D P L (ik 5 Ek.body) ⟨[(0,.agg [aa s,.aJ e l.length (l.map uc)])],[],0,0⟩=some (.normal,⟨[(3,.bool (decide (z<0))),(6,.aC 0 0 ps.length)],[(0,.cells true true false 1 (ps.map .str))],1,0⟩):=by
 obtain ⟨r,e1,hr⟩:=Aj h hn;have cm:=hr;obtain ⟨lr,ur,gr,nr,vr⟩:=hr;simp only [go_sem,ya,yb,yi,yh,Ek,ik,bk,aw,aK,aV,yd,bX,n8,dZ,cr,a8,e1];generalize nc:D P L (.loop [3,4,5,6] pI) _=qq;obtain ⟨ex,st,rfl,tm,ps,fl,rfl,fU,Hc,AP,t3,t6,rfl⟩:=bD nc (asu (P:=P) (L:=L) h.toWd D0 Al (neg:=decide (z<0)) (M:=z.natAbs) (K:=K) mf hK hlen z.natAbs) ⟨z.natAbs,bG r,[],true,rfl,cm,QO,by rw [yA (by omega)];simp,⟨fun _=>rfl,by simp⟩,fun _=>by simp,.inl ⟨rfl,by
  simp only [go_sem,ya,yb,an,ak ur.pu,ao _ ur.pu]<;>rfl⟩⟩
 refine ⟨ps,fU,Hc,AP,?_⟩;simp only [go_sem,yb,an,t3,t6]
end
end
section
open Go
variable {O:bt}
def zX:Nat->wQ->wQ
 | 0,.seq _ b=>b
 | n+1,.seq _ b=>zX n b
 | _,c=>c
def PC:Nat->wQ->Prop
 | 0,.seq _ _=>True
 | n+1,.seq _ b=>PC n b
 | _,_=>False
def aaN (hO:eM O) {h:Nat} {c:wQ} {l k:Nat} {s:St} {ex:Ex} {s':St} (hv:D O.prog O.aW (comp O.P (O.hint h) c l k).1 s=some (ex,s')):Br O h c s ex s':=by
 obtain ⟨n,hn⟩:=UZ hv
 cases n with
 | zero=>rw [I2] at hn;cases hn
 | succ n=>
  exact abm hO n (fun k _=>Ys hO k) h c l k n (yr _) s ex s' hn
def adv (hO:eM O) {h:Nat} {ro:Option Nat} {lo:Nat} {Q:Exit->Act->yj->Prop}:∀(n:Nat) (c:wQ) (l k:Nat),PC n c->∀(s s1:St),D O.prog O.aW (ik n (comp O.P (O.hint h) c l k).1) s=some (.normal,s1)->
  ∀(m:Mp) (S:Nat->Prop) (w:yj) (a:Act),zN ro w->cd O m S w s.tm a.tmps->aX O m S w s.hp s.ct->s.base<=s.ct->(O.hint h).n<=a.tmps.size->O.w0.heap.size<=lo->lo<=w.heap.size->Marks lo S w a.defers->
  (∀a' w',eU O m S w s .normal s1 a.tmps.size lo .normal a' w'->(zX n c).wpIn (WF ro) 0 O.P Q a' w')->c.wpIn (WF ro) 0 O.P Q a w
 | n,c,l,k,hc,s,s1,hv=>by
  intro m S w a cZ ht hh hb hn bj fo cM hQ
  cases c with
  | seq x y=>
   cases n with
   | zero=>
    refine wpIn_seq (wpIn_mono (aaN hO (show D O.prog O.aW (comp O.P (O.hint h) x l k).1 s=some (.normal,s1) from hv) ro lo m S w a cZ ht hh hb hn bj fo cM) ?_);rintro e a' w' hp;have he:e= .normal:=hp.1;subst he;exact hQ a' w' hp
   | succ n=>
    have eX:D O.prog O.aW (.seq (comp O.P (O.hint h) x l k).1 (ik n (comp O.P (O.hint h) y (comp O.P (O.hint h) x l k).2.1 (comp O.P (O.hint h) x l k).2.2).1)) s=some (.normal,s1):=hv;rw [kE] at eX
    cases hx:D O.prog O.aW (comp O.P (O.hint h) x l k).1 s with
    | none=>rw [hx] at eX;cases eX
    | some q=>
     obtain ⟨ex,st⟩:=q;rw [hx] at eX
     cases ex with
     | ret=>exact absurd eX (by intro h;cases h)
     | exit id=>exact absurd eX (by intro h;cases h)
     | normal=>
      refine wpIn_seq (wpIn_mono (aaN hO hx ro lo m S w a cZ ht hh hb hn bj fo cM) ?_);rintro e a' w' ⟨rfl,m',S',k1,k2,k3,k4,k5,k6,k7⟩;refine adv hO n y _ _ hc st s1 eX m' S' w' a' (MU k5 cZ) k1 k2 (by omega) (by omega) bj (xn fo k5.size) k7 ?_;rintro a2 w2 ⟨_,m2,S2,g1,g2,g3,g4,g5,g6,g7⟩;exact hQ a2 w2 ⟨rfl,m2,S2,g1,g2,by omega,by omega,k5.trans (by rw [<-k3];exact g5),by omega,g7⟩
  | _=>cases n<;>exact hc.elim
def asv (hO:eM O) {n:Nat} {F:aD} (hF:O.prog n=some F) {fn:tv} {c:wQ} (lI:O.P.funcs[O.ai n]? =some fn) (jo:fn.body=some c) {hp:Hp} {ct:Nat} {aq:List AV} {s:St}
  (hc:(comp O.P (O.hint n) c 0 0).1=F.body->∀m S w a,cd O m S w (fL 0 aq) a.tmps->aX O m S w hp ct->(O.hint n).n<=a.tmps.size->a.tmps.size=max fn.ntmps aq.length->O.w0.heap.size<=w.heap.size->a.defers=[]->
   c.wpIn (WF none) 0 O.P (eU O m S w ⟨fL 0 aq,hp,ct,ct⟩ .ret s a.tmps.size w.heap.size) a w) {v:AV} (hr:jb s F.dw=some v):Bq O n hp ct aq v s.hp s.ct:=by
 intro m S w args hh ib;obtain ⟨fn',q1,q2,q3⟩:=hO.prog n F hF;rw [lI] at q1;cases q1;obtain ⟨c',q4,q5,q6,q7⟩:=Rj q2;rw [jo] at q4;cases q4;refine .inl ⟨Ng lI (by rw [jo];rfl) q3,?_⟩
 have hlen:aq.length=args.size:=by have:=(jc _ _ ib).symm;simpa using this
 have hw:=hc q5.symm m S w {tmps:=args++Array.replicate (fn.ntmps-args.size) undef,defers:=[]} (ZG _ ib) hh (by simp;omega) (by simp;omega) hh.fY rfl
 refine callsIn_of_wp_marks (F:=yae) lI jo trivial (wpIn_mono hw ?_);rintro e a' w' ⟨rfl,m',S',k1,k2,k3,k4,k5,k6,rs,k7,k8,k9⟩;show LeavesInM yae 0 O.P fn a'.tmps (zB O m S w hp ct v s.hp s.ct) a'.defers .returning w'
 rw [k7];exact R1 q6 hr k4 rs w' k8 k9 hh.fY k2 k1 k5
def anx (hO:eM O) {n:Nat} {F:aD} (hF:O.prog n=some F) {fn:tv} {c:wQ} (lI:O.P.funcs[O.ai n]? =some fn) (jo:fn.body=some c) {aq:List AV} {s:St}
  (hc:(comp O.P (O.hint n) c 0 0).1=F.body->∀m S w a,cd O m S w (fL 0 aq) a.tmps->aX O m S w [] 0->(O.hint n).n<=a.tmps.size->a.tmps.size=max fn.ntmps aq.length->O.w0.heap.size<=w.heap.size->a.defers=[]->
   c.wpIn (WF none) 0 O.P (eU O m S w ⟨fL 0 aq,[],0,0⟩ .ret s a.tmps.size w.heap.size) a w) {v r:AV} (hv:jb s F.dw=some v) (hr:result s.hp v=some r):eS O n aq r:=
 Re (asv hO hF lI jo hc hv) hr
end
section
open Go
def Zd {ai:Nat->Nat} {m:Mp} {S:Nat->Prop} {w:yj} {b:Nat}:∀{ps:List (List Nat)} {o:Nat},bT ai m S w (ps.map .str) b o->
  ∃ts:List ByteArray,(ts.map fun t=>t.data.toList.map y9)=ps/\∀i (h:i<ts.length),w.cell? ⟨b,o+i,none⟩=some (.string ts[i])
 | [],o,_=>⟨[],rfl,fun i h=>absurd h (Nat.not_lt_zero i)⟩
 | p::ps,o,h=>by
  obtain ⟨⟨u,h1,h2⟩,h3⟩:=h;obtain ⟨t,rfl,ht⟩:=h2;obtain ⟨ts,k1,k2⟩:=Zd h3;refine ⟨t::ts,by rw [List.map_cons,ht,k1],fun i hi=>?_⟩
  cases i with
  | zero=>exact h1
  | succ i=>
   grind
def oB (ts:List ByteArray):List UInt8:=(ts.map fun t=>t.data.toList).flatten
def apR {ts:List ByteArray} {ps:List (List Nat)} (h:(ts.map fun t=>t.data.toList.map y9)=ps):(oB ts.reverse).map y9=ps.reverse.flatten:=by
 subst h;unfold oB;rw [List.map_flatten,yaR,<-th];rfl
def apS {ts:List ByteArray} {ps:List (List Nat)} (h:(ts.map fun t=>t.data.toList.map y9)=ps):(ts.map (·.size)).sum=ps.reverse.flatten.length:=by
 subst h;rw [List.length_flatten,th,List.sum_reverse,yaR]
 congr 1
 simp_all
def SX (P:Program) (c:wQ):Prop:=∀(Q:Exit->Act->yj->Prop) (a:Act) (w:yj) (neg:Bool) (ts:List ByteArray) (b o cc:Nat),a.tmps.size=69->a.tmps.getD 3 undef= .bool neg->a.tmps.getD 6 undef= .slice (some ⟨b,o,none⟩) ts.length cc->
  (∀i (h:i<ts.length),w.cell? ⟨b,o+i,none⟩=some (.string ts[i]))->(ts.map (·.size)).sum+1<=140737488355328->ts.length<=cc->ts.length<9223372036854775808->
  (∀a' w',Calm w w'->a'.tmps.size=69->a'.defers=a.defers->a'.tmps.getD 2 undef= .string ⟨((if neg then [45] else [])++oB ts.reverse).toArray⟩->Q .ret a' w')->
  (zX 5 c).wpIn Fence.wide 0 P Q a w
section
variable {O:bt}
def ajS {n K:Nat} (h:n<18446744073709551616^K):(aB n).length<=20*K+1:=by
 refine qO (k:=20*K) (yP h ?_);have h1:(10:Nat)^(20*K)=(10^20)^K:=Nat.pow_mul ..;exact xn (by rw [h1];exact Nat.pow_le_pow_left (by decide) K) (xD (by decide) (Nat.le_succ _))
def anz (hO:eM O) (hN:Nu O.prog O.aW) (D0:O.aW.pure 138=some AT) (Al:O.aW.pure 139=some Ba) (Ha:O.prog 99=some Ek) {fn:tv} {c:wQ} (lI:O.P.funcs[O.ai 99]? =some fn) (jo:fn.body=some c) (PX:fn.ntmps=69)
  (Vu:PC 5 c) (ht:SX O.P c) {s z:Int} {e:Bool} {l:List Nat} (hn:da s (.aJ e l.length (l.map uc)) z) (mf:0<z.natAbs) (hK:l.length<=4000000000) (QO:z.natAbs<18446744073709551616^l.length):
  eS O 99 [.agg [aa s,.aJ e l.length (l.map uc)]] (.str (aY z)):=by
 have hlen:=ajS QO;obtain ⟨ps,fU,Hc,AP,e1⟩:=ajR (P:=O.prog) (L:=O.aW) hN D0 Al hn mf QO hK (by omega)
 refine anx hO Ha lI jo (s:=⟨[(2,.str (aY z))],[(0,.cells true true false 1 (ps.map .str))],1,0⟩) (v:= .str (aY z)) ?_ rfl rfl;intro aur m S w a htr hh B7 eV hgs AQ;refine adv hO 5 c 0 0 Vu _ _ (by rw [aur];exact e1) m S w a (fun l hl=>by cases hl) htr hh (yr _) B7 hgs (yr _) ⟨[],by rw [AQ];rfl,by simp,by simp⟩ ?_
 rintro a' w' ⟨_,m',S',k1,k2,k3,k4,k5,k6,k7⟩;have r3:=k1 3;have r6:=k1 6;have g3:ah [(3,AV.bool (decide (z<0))),(6,.aC 0 0 ps.length)] 3= .bool (decide (z<0)):=rfl;have g6:ah [(3,AV.bool (decide (z<0))),(6,.aC 0 0 ps.length)] 6= .aC 0 0 ps.length:=rfl;rw [g3] at r3;rw [g6] at r6;simp only [aj] at r3 r6;obtain ⟨p,cc,hm,r6,hcc,_⟩:=r6;obtain ⟨p',arr,t,gJ,_,_,_,_,_,D9,_⟩:=k2.obj 0 _ p rfl hm;rw [hm] at gJ;cases gJ;obtain ⟨ts,pZ,su⟩:=Zd D9;have nM:ts.length=ps.length:=by rw [<-pZ,List.length_map]
 have BS:=apS pZ;rw [<-AP] at BS;have Vv:=apR pZ;rw [<-AP] at Vv;refine ht _ a' w' (decide (z<0)) ts p.b p.o cc ?_ r3 (by rw [nM];exact r6) su (by omega) (by omega) (by omega) ?_
 ·grind
 ·intro a2 w2 hc h1 h2 h3;have Lj:=EX k2 hc (S':=S') (fun _ h=>h) (fun _ h=> .inl h) (fun b hb=>yP (k2.slt b hb) hc.size);refine ⟨rfl,m',S',?_,Lj,rfl,Nat.zero_le _,k5.trans (CN k2 hc (fun _ h=>h) (fun _ h=> .inl h)),?_,?_⟩
  ·intro i;by_cases hi:i=2
   ·subst hi;rw [h3];show aj O.ai m' S' w2 (.str (aY z)) _
    simp only [aj];refine ⟨_,rfl,?_⟩;by_cases h0:z<0
    ·rw [nh h0,xo h0];simp only [xm,xq];rw [Vv];rfl
    ·obtain ⟨n,rfl⟩:∃n:Nat,z=n:=⟨z.toNat,by omega⟩;rw [yZ h0];simp only [Bool.false_eq_true,xh,xM];rw [Vv];rfl
   ·have:ah [(2,AV.str (aY z))] i= .undef:=by
     have hb:Nat.beq 2 i=false:=by
      cases hq:Nat.beq 2 i with
      | false=>rfl
      | true=>exact absurd (Nat.eq_of_beq_eq_true hq).symm hi
     simp only [ah,hb,yO]
    show aj O.ai m' S' w2 (ah [(2,AV.str (aY z))] i) _
    rw [this];simp only [aj]
  ·rw [h1,eV,PX];simp
  ·rw [h2]
   exact AZ k2 (CN (base:=0) k2 hc (fun _ h=>h) (fun _ h=> .inl h)) k7
end
end
end VE
