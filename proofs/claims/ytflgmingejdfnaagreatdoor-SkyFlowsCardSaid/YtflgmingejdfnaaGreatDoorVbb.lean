import Derived.Test.YtflgmingejdfnaaGreatDoorVba
import Derived.Test.YtflgmingejdfnaaGreatDoorVaq
import Derived.Test.YtflgmingejdfnaaGreatDoorVaz
import Derived.Test.YtflgmingejdfnaaGreatDoorVak
import Derived.Test.YtflgmingejdfnaaGreatDoorVal
set_option linter.all false
set_option maxRecDepth 100000
open Bool renaming false_and→xA,false_eq_true→yC,not_false→yI,true_and→xt
open Int renaming add_zero→tf,emod_lt_of_pos→wZ,emod_nonneg→wW,natAbs_natCast→xW,reduceEq→tk,tdiv_eq_ediv_of_nonneg→xK,tmod_eq_emod_of_nonneg→xm
open List renaming append_nil→xO,cons_append→y8,drop→xv,drop_zero→yj,ext_getElem→yau,length_cons→yv,length_nil→yF,map_cons→y9,map_nil→wM,nil_append→xS,range→xh
open List.cons renaming injEq→tL
open Nat renaming le_refl→yD,lt_of_lt_of_le→yH,mul_lt_mul''→tv,mul_one→yi,mul_pos→yaK,pow_add→wP,pow_le_pow_right→xn,pow_succ→xg,reduceAdd→yb,reduceEqDiff→ya,reduceLT→yy,reduceLeDiff→yg,zero_add→yd
open Option.some renaming inj→uj
open Rat renaming add_mul→tY,den_intCast→wg,divInt_eq_div→yaC,intCast_add→wL,intCast_mul→tR,intCast_natCast→wX,mul_comm→vA,natCast_eq_zero_iff→tz,num_intCast→wA,sub_eq_add_neg→uT
namespace VE
section
open Go (IntKind)
section
variable {P:aK} {L:Lib}
def QT (h:BuT P L) {n:Nat} (hn:0<n) (ie:n<=900) {g:Nat} {cap:List AV} {val:Nat->Nat->AV} (hc:aJ cap=true) (h1:∀c r,bA (val c r)=true) (h2:∀c r,aS (val c r)=true) (h3:∀c r,shut (val c r)=val c r)
  (hg:∀c r,c<n->r<n->ae P L g (aa c::aa r::cap) (val c r)):ae P L 40 [aa n,.fn (.f g) [] cap] (lK val n):=by
 have OX:aS (.fn (.f g) [] cap)=true:=by simp [aS,aJ,hc]
 have hf:Il P L 0 n (.fn (.f g) [] cap) val (fun _=>[]):=by
  refine ⟨by omega,fun _=>⟨lV OX,by rw [aM OX];simp,rfl,trivial,fun _=>by simp [du]⟩,h1,h2,fun c r nl hr ff ct _ _ _ _=>?_⟩
  have hp:aJ (aa c::aa r::cap)=true:=by simp [aJ,aS,hc]
  have:=hg c r nl hr
  simp only [dC,xS,y8,hp,ym,this,h3,xO]
 obtain ⟨tm,ct,e,h4⟩:=Zh h hn hf (fun p hp=>by simp at hp);unfold ae;rw [av h.Pe,aep,e,acF]
 have:gh ⟨tm,jD 0 n (.fn (.f g) [] cap) val [],ct,0⟩ JU.dn=some (.ak (0+2) 0 n):=by
  show gh _ [.t 4]=_
  rw [EZ,EB,h4]
 rw [this,acG];exact ak7 hn ie
def ak9 (h:BuT P L) {l B n:Nat} (hl:l<B) (hn:n<=1000) {H:Nat->Nat->Hp} (hw:∀r,r<n->H r n=H (r+1) 0) (hb:∀r c,jr B B (H r c)) (hr:∀r c,(du B (H r c)).length<=5000)
  (Im:∀c r,c<n->r<n->iT (D P L) (H r c) B l [aa c,aa r]=some (.bool true,H r (c+1),B)):
  ∃tm,D P L EO.body ⟨[(0,.fn (.y l) [] []),(1,.aF [.int .i64 n])],H 0 0,B,B⟩=some (.normal,⟨tm,H n 0,B,B⟩):=by
 have jC:∀(live:List Nat) (tm:Env) (r c ct:Nat),jq B (cX tm live)->(fb (cX tm live)).length<=1000->bH live ⟨tm,H r c,ct,B⟩=⟨cX tm live,H r c,B,B⟩:=fun live tm r c ct h1 h2=>
  KK h1 (hb r c) (by have:=hr r c;omega)
 have zg:∀(xs:List AV) (hp:Hp) (ct:Nat),dC P L (D P L) hp ct .heap (.fn (.y l) [] []) xs=iT (D P L) hp ct l xs:=fun _ _ _=>rfl
 have inner:∀r,r<n->∀d st,(∃c:Nat,bH [0,1,3,5,6,9,10] st=⟨[(0,.fn (.y l) [] []),(1,.aF [.int .i64 n]),(3,aa r),(5,aa n),(6,aa r),(9,aa n),(10,aa c)],H r c,B,B⟩/\c+d=n)->
   ∃ex s',D P L (.loop [0,1,3,5,6,9,10] sY) st=some (ex,s')/\∃tm ct,s'=⟨tm,H r n,ct,B⟩/\ex= .exit 2/\af tm 0= .fn (.y l) [] []/\af tm 1= .aF [.int .i64 n]/\af tm 5=aa n/\af tm 6=aa r:=by
  intro r bX
  refine cC (I:=fun d st=>∃c:Nat,st=⟨[(0,.fn (.y l) [] []),(1,.aF [.int .i64 n]),(3,aa r),(5,aa n),(6,aa r),(9,aa n),(10,aa c)],H r c,B,B⟩/\c+d=n)
   (Q:=fun ex s'=>∃tm ct,s'=⟨tm,H r n,ct,B⟩/\ex= .exit 2/\af tm 0= .fn (.y l) [] []/\af tm 1= .aF [.int .i64 n]/\af tm 5=aa n/\af tm 6=aa r) ?_
  rintro d st ⟨c,rfl,hcd⟩;by_cases hc:c<n
  ·left
   simp only [go_sem,ya,sY,show (c:Int)<n by omega,zg,Im c r hc bX,show (c:Int)+1=((c+1:Nat):Int) from rfl,wrapN (n:=c+1) (by omega)];refine ⟨_,d-1,rfl,by omega,c+1,?_,by omega⟩;rw [jC]
   ·simp only [go_sem,ya]
   ·simp only [go_sem,ya];exact ⟨⟨hl,rfl,rfl⟩,trivial,trivial,trivial,trivial,trivial,trivial,trivial⟩
   ·simp only [go_sem,ya,yb,yg]
  ·right
   have:c=n:=by omega
   subst this;simp only [go_sem,ya,sY,show ¬(c:Int)<c by omega];refine ⟨_,_,rfl,by simp,_,_,rfl,rfl,?_⟩;simp only [go_sem,ya]
   simp
 have outer:∀d st,(∃r:Nat,bH [0,1,5,6] st=⟨[(0,.fn (.y l) [] []),(1,.aF [.int .i64 n]),(5,aa n),(6,aa r)],H r 0,B,B⟩/\r+d=n)->
   ∃ex s',D P L (.loop [0,1,5,6] sZ) st=some (ex,s')/\∃tm ct,s'=⟨tm,H n 0,ct,B⟩/\ex= .exit 0:=by
  refine cC (I:=fun d st=>∃r:Nat,st=⟨[(0,.fn (.y l) [] []),(1,.aF [.int .i64 n]),(5,aa n),(6,aa r)],H r 0,B,B⟩/\r+d=n)
   (Q:=fun ex s'=>∃tm ct,s'=⟨tm,H n 0,ct,B⟩/\ex= .exit 0) ?_
  rintro d st ⟨r,rfl,kW⟩;by_cases bX:r<n
  ·left
   simp only [go_sem,ya,sZ,show (r:Int)<n by omega];generalize hq:D P L (.loop [0,1,3,5,6,9,10] sY) _=q;obtain ⟨ex,st,rfl,tm,ct,rfl,rfl,g0,g1,g5,g6⟩:=cd hq (inner r bX n) ⟨0,by
    rw [jC]
    ·simp only [go_sem,ya];rfl
    ·simp only [go_sem,ya];exact ⟨⟨hl,rfl,rfl⟩,trivial,trivial,trivial,trivial,trivial,trivial,trivial⟩
    ·simp only [go_sem,ya,yb,yg],by omega⟩
   rw [hw r bX,HL,fM,I8,jC]
   ·simp only [go_sem,ya,g0,g1,g5,g6,show (r:Int)+1=((r+1:Nat):Int) from rfl,wrapN (n:=r+1) (by omega)];refine ⟨_,d-1,rfl,by omega,r+1,?_,by omega⟩;rw [jC]
    ·simp only [go_sem,ya]
    ·simp only [go_sem,ya];exact ⟨⟨hl,rfl,rfl⟩,trivial,trivial,trivial,trivial⟩
    ·simp only [go_sem,ya,yb,yg]
   ·simp only [go_sem,g0,g1,g5,g6];exact ⟨⟨hl,rfl,rfl⟩,trivial,trivial,trivial,trivial⟩
   ·simp only [go_sem,yb,yg,g0,g1,g5,g6]
  ·right
   have:r=n:=by omega
   subst this;simp only [go_sem,ya,sZ,show ¬(r:Int)<r by omega];exact ⟨_,_,rfl,by simp,_,_,rfl,rfl⟩
 simp only [go_sem,ya,EO];generalize hq:D P L (.loop [0,1,5,6] sZ) _=q;obtain ⟨ex,st,rfl,tm,ct,rfl,rfl⟩:=cd hq (outer n) ⟨0,by
  rw [jC]
  ·simp only [go_sem,ya];rfl
  ·simp only [go_sem,ya];exact ⟨⟨hl,rfl,rfl⟩,trivial,trivial,trivial,trivial⟩
  ·simp only [go_sem,ya,yb,yg],by omega⟩
 simp only [go_sem];rw [jC]
 ·exact ⟨_,rfl⟩
 ·simp only [go_sem]
  trivial
 ·simp only [go_sem,yg]
structure Pp (P:aK) (L:Lib):Prop extends BuT P L,Sq P L where
 VU:Has P L 41 UQ
 h97:Has P L 97 OH
 rF:Has P L 134 CP
def s41 (h:Pp P L) {v w:AV} {s k:List (List Int)} (hv:cK v s) (hw:cK w k) {n m:Nat} (hn:s.length=n) (rW:0<n) (ie:n<=16) (hs:eR n (-1000) 1000 s=0) (hm:k.length=m) (VF:0<m) (qu:m<=5) (hk:eR m (-100) 100 k=0)
  {c r:Nat} (hc:c<n) (hr:r<n):ae P L 41 [aa c,aa r,.aF [w],.aF [v],.aF [aa (m/2:Nat)]] (aa (sR s k c r)):=by
 let TM:Env:=[(13,.fn (.f 133) [] [.aF [.int .i64 m]]),(12,.int .i64 m),(11,w),(8,.ptr 2 0),(7,.int .i64 0),(6,.ptr 1 0),(5,.ptr 0 0),(0,aa c),(1,aa r),(2,.aF [w]),(3,.aF [v]),(4,.aF [aa (m/2:Nat)])]
 let S:Nat->Nat->Int:=fun j i=>jB (fun j=>jB (nG s k c r j) m) j+jB (nG s k c r j) i
 let HH:Nat->Nat->Nat->Hp:=fun st j i=>[(3,.lp TM [14,15] IB Ez st .none),(2,.cells true true true 1 [aa (S j i)]),(1,.cells true true true 1 [aa r]),(0,.cells true true true 1 [aa c])]
 have hb:∀st j i,jr 4 4 (HH st j i):=fun st j i=>by
  refine ⟨by omega,⟨⟨trivial,trivial,trivial⟩,trivial,lV hw.pu,show 2<4 by omega,trivial,show 1<4 by omega,show 0<4 by omega,trivial,trivial,trivial,trivial,trivial,trivial⟩,by omega,.inl rfl,by omega,.inl rfl,by omega,.inl rfl,trivial⟩
 have GV:∀st j i,(du 4 (HH st j i)).length<=5000:=fun st j i=>by
  have:du 4 (HH st j i)=fb TM:=by
   simp only [HH,du,gX (show 3<4 by omega),gX (show 2<4 by omega),gX (show 1<4 by omega),gX (show 0<4 by omega),ym,fc,xO]
  rw [this];simp [TM,fb,refs,eI,aM hw.pu]
 have Im:∀i j,i<m->j<m->iT (D P L) (HH 0 j i) 4 3 [aa i,aa j]=some (.bool true,HH 0 j (i+1),4):=fun i j hi hj=>by
  have qj:j<k.length:=by omega
  obtain ⟨kr,rest,cw,fh⟩:=hw.bj qj;have hkj:=DP hk j qj;have cz:i<k[j].length:=by omega
  have b1:=Xy hs hk c r j i;have b2:=Xz hs hk c r j i;have b3:=PQ (f:=fun j=>jB (nG s k c r j) m) (b:=500000) (fun j=>by have:=Xz hs hk c r j m;omega) j;have ri:=s97 h.h97 h.rF hv hn rW (by omega) (fun i hi=>(DP hs i hi).1) ((c:Int)+i-(m/2:Nat)) ((r:Int)+j-(m/2:Nat));have hkt:nG s k c r j i=kv k j i*dE s ((c:Int)+i-(m/2:Nat)) ((r:Int)+j-(m/2:Nat)):=by unfold nG;rw [hm]
  have hS:S j (i+1)=S j i+nG s k c r j i:=by simp only [S,jB,Int.add_assoc]
  have hSb: -9000000<=S j i/\S j i<=9000000:=by simp only [S];omega
  unfold ae at ri;have Ss:∃tm,D P L Ez ⟨(10,aa j)::(9,aa i)::(15,aa j)::(14,aa i)::TM,HH 1 j i,4,4⟩=some (.normal,⟨tm,HH 1 j (i+1),4,4⟩):=by
   simp only [HH,hS];generalize S j i=sm at hSb;simp only [TM]
   simp only [go_sem,ya,Ez,hv.ai,fh,cw.bj cz,wrap64 (n:=(c:Int)+i) (by omega) (by omega),wrap64 (n:=(c:Int)+i-(m/2:Nat)) (by omega) (by omega),
    wrap64 (n:=(r:Int)+j) (by omega) (by omega),wrap64 (n:=(r:Int)+j-(m/2:Nat)) (by omega) (by omega),ri,RF qj cz,<-hkt,wrap64 (n:=nG s k c r j i) (by omega) (by omega),
    wrap64 (n:=sm+nG s k c r j i) (by omega) (by omega)]
   exact ⟨_,rfl⟩
  obtain ⟨tm,Ss⟩:=Ss
  exact Z0 (tm':=(15,aa j)::(14,aa i)::TM) (show ap (HH 0 j i) 3=some (.lp TM [14,15] IB Ez 0 .none) from rfl) rfl (s1:=⟨(10,aa j)::(9,aa i)::(15,aa j)::(14,aa i)::TM,HH 0 j i,4,4⟩) (by unfold IB;simp only [go_sem,ya]) rfl Ss rfl
 have Ub:=ak9 (P:=P) (L:=L) h.toBuT (l:=3) (B:=4) (n:=m) (by omega) (by omega) (H:=HH 0) (fun j hj=>by simp only [HH,S,jB,tf]) (hb 0) (GV 0) Im;obtain ⟨tm,Ub⟩:=Ub;have af2:=aez (P:=P) (L:=L) (f:= .t 13) (ps:=[14,15]) (as_:=IB) (body:=Ez)
  (s:=⟨TM,[(2,.cells true true true 1 [aa (S 0 0)]),(1,.cells true true true 1 [aa r]),(0,.cells true true true 1 [aa c])],3,0⟩)
  (n:=133) (first:=[]) (cap:=[.aF [.int .i64 m]]) rfl h.NZ.heap (D1 h.NZ Ub (.inl rfl) rfl) (by rfl) (by decide)
 have hd:dz (HH 0 m 0) 3=[(2,.cells true true true 1 [aa (sR s k c r)]),(1,.cells true true true 1 [aa r]),(0,.cells true true true 1 [aa c])]:=by
  have:S m 0=sR s k c r:=by simp only [S,jB,tf];rw [ai0,hm]
  simp only [HH,this];rfl
 have Wj:S 0 0=0:=by simp [S,jB]
 simp only [TM,Wj,hd] at af2;unfold ae;rw [av h.VU];simp only [go_sem,ya,yb,UQ,hw.len,hm,s96 h.toBuT,af2]
end
end
section
open Go (IntKind)
section
variable {P:aK} {L:Lib}
def G2 {s:List (List Int)} (h:fo s=0):0<s.length/\s.length<=16/\eR s.length (-1000) 1000 s=0:=by
 unfold fo at h
 grind
def ahP {s:List (List Int)} (h:AA s=0):0<s.length/\s.length<=5/\s.length%2=1/\eR s.length (-100) 100 s=0:=by
 unfold AA at h
 grind
def Zk {n:Nat}:∀{l:List (List Int)},(∀r,r∈l->r.length=n)->eR n (-1000) 1000 l=if Jc l=true then 3 else 0
 | [],_=>rfl
 | r::l,h=>by
  have ih:=Zk (l:=l) (fun r hr=>h r (by simp [hr]));have h1:=h r (by simp);simp only [eR,h1,tB,wO,yR,Jc,ih]
  grind
def RX {n:Nat} (f:Nat->Nat->Int):cK (lK (fun c r=>aa (f c r)) n) (Ag n f):=by
 have h1:lK (fun c r=>aa (f c r)) n= .aE true n ((xh n).map fun r=> .aE true n (((xh n).map fun c=>f c r).map aa)):=by
  simp only [lK,List.map_map];rfl
 refine ⟨(xh n).map fun r=> .aE true n (((xh n).map fun c=>f c r).map aa),?_,?_⟩
 ·rw [h1]
  have:=HM true ((xh n).map fun r=>AV.aE true n (((xh n).map fun c=>f c r).map aa))
  grind
 ·have:∀m:List Nat,jU bq (m.map fun r=>AV.aE true n (((xh n).map fun c=>f c r).map aa)) (m.map fun r=>(xh n).map fun c=>f c r):=by
   intro m
   induction m with
   | nil=>trivial
   | cons r m ih=>
    refine ⟨?_,ih⟩
    have:=fN true ((xh n).map fun c=>f c r)
    grind
  exact this _
def s9 (h:Pp P L) {v w:AV} {s k:List (List Int)} (hv:cK v s) (hw:cK w k) (hl:s.length<=1000000) (hr:∀i (hi:i<s.length),s[i].length<=1000000) (Oh:k.length<=1000000) (bX:∀i (hi:i<k.length),k[i].length<=1000000):
  (bm [fo s,AA k]≠0->ae P L 9 [v,w] (.aq [.ab,aa (bm [fo s,AA k])]))/\
  (bm [fo s,AA k]=0->ae P L 9 [v,w] (if Jc (Mg s k s.length s.length)=true then .aq [.ab,aa 4] else .aq [lK (fun c r=>aa (sR s k c r)) s.length,aa 0])):=by
 have e4:=s4 h.toSq hv hl hr;have WL:=Vj h.toSq hw Oh bX (m:=100) (by decide) (by decide);have Aq:∀a b c d e:Int,ae P L 33 [.aE true 5 [.int .i64 a,.int .i64 b,.int .i64 c,.int .i64 d,.int .i64 e]] (aa (bm [a,b,c,d,e])):=fun a b c d e=>qD h.nj (fN true [a,b,c,d,e]) (by simp)
 have dR:(2:Int)≠0:=by decide
 have nW:(k.length:Int).tmod 2=(k.length%2:Nat):=by rw [xm (by omega)];rfl
 have nk:(k.length:Int).tdiv 2=(k.length/2:Nat):=by rw [xK (by omega)];rfl
 have hE:bm [fo s,if decide ((k.length:Int)=0)=true then 12 else 0,if decide ((5:Int)<k.length)=true then 5 else 0,if decide (((k.length%2:Nat):Int)=0)=true then 2 else 0,eR k.length (-100) 100 k]=bm [fo s,AA k]:=by
  unfold AA;by_cases h1:k.length=0
  ·simp [h1,bm]
  ·by_cases h2:5<k.length
   ·simp [h1,h2,bm,show (5:Int)<k.length by omega]
   ·by_cases h3:k.length%2=0
    ·simp only [h1,h2,h3,bm,show ¬(k.length:Int)=0 by omega,show ¬(5:Int)<k.length by omega,show ((0:Nat):Int)=0 from rfl,yp,yq,yC,yR,y7]
     split<;>simp_all
    ·simp only [h1,h2,h3,bm,show ¬(k.length:Int)=0 by omega,show ¬(5:Int)<k.length by omega,show ¬((k.length%2:Nat):Int)=0 by omega,yp,yC,yR,y7]
 unfold ae at e4 WL Aq ⊢;constructor
 ·intro dS;rw [av h.h9];simp only [go_sem,ya,yb,yy,yg,yi,c9,hv.pu,hv.ai,hv.one,hv.cells,hw.len,hw.pu,hw.ai,hw.one,hw.cells,e4,WL,Aq,mG h.fm,eD _ _ _ dR,nW,hE,dS]
 ·intro h0;have iy:fo s=0:=by
   simp only [bm] at h0
   split at h0
   ·assumption
   ·assumption
  have JG:AA k=0:=by
   simp only [bm,iy,y7] at h0
   split at h0
   ·assumption
   ·assumption
  obtain ⟨a1,a2,a3⟩:=G2 iy;obtain ⟨b1,b2,b3,b4⟩:=ahP JG;have GW:=QT h.toBuT a1 (by omega) (g:=41) (cap:=[.aF [w],.aF [v],.aF [aa (k.length/2:Nat)]]) (val:=fun c r=>aa (sR s k c r)) (by rfl) (fun _ _=>rfl) (fun _ _=>rfl) (fun _ _=>rfl) (fun c r hc hr=>s41 h hv hw rfl a1 a2 a3 rfl b1 b2 b4 hc hr);have hT:=RX (n:=s.length) (fun c r=>sR s k c r);have af3:=Vj h.toSq hT (by rw [sQ];omega) (fun i hi=>by
   rw [sQ] at hi;rw [LV hi];simp;omega) (m:=1000) (by decide) (by decide)
  rw [sQ,show Ag s.length (fun c r=>sR s k c r)=Mg s k s.length s.length from rfl,Zk (fun r hr=>by
   simp only [Mg,List.mem_map] at hr;obtain ⟨i,_,rfl⟩:=hr
   simp [aky])] at af3
  rw [av h.h9]
  simp only [go_sem,ya,yb,yy,yg,yi,c9,hv.len,hv.pu,hv.ai,hv.one,hv.cells,hw.len,hw.pu,hw.ai,hw.one,hw.cells,e4,WL,Aq,mG h.fm,eD _ _ _ dR,nW,hE,h0,fq _ _ _ dR,nk,wrapN (n:=k.length/2) (by omega),GW,hT.ai,hT.shut,af3]
  cases hb:Jc (Mg s k s.length s.length) with
  | true=>simp only [go_sem,ya,y7,tk]
  | false=>simp only [go_sem,ya,yC,yR,lK]
def Ld {b x:Nat} {H:Hp} (hx:x<b):∀{ff:Hp},(∀p,p∈ff->b<=p.1)->ap (ff++H) x=ap H x
 | [],_=>rfl
 | (id,o)::r,h=>by
  have:=h (id,o) (by simp)
  simp only [y8];rw [ap,cE (by simp only at this;omega),yB,Ld hx (fun p hp=>h p (by simp [hp]))]
def Zl {b x:Nat} {H:Hp} {o':Obj} (hx:x<b):∀{ff:Hp},(∀p,p∈ff->b<=p.1)->aY (ff++H) x o'=ff++aY H x o'
 | [],_=>rfl
 | (id,o)::r,h=>by
  have:=h (id,o) (by simp)
  simp only [y8];rw [aY,cE (by simp only at this;omega),yB,Zl hx (fun p hp=>h p (by simp [hp]))]
def jI (v:AV) (w:List Int) (junk:List AV) (x:Int):Hp:=[(3,.cells true true true 1 [aa x]),(2,.cells true true true 1 [aa (dG w)]),(1,.cells false true true 1 junk),(0,.cells true true true 1 [v])]
def Zm {v:AV} {w:List Int} {junk:List AV} {x:Int} {B:Nat} (h:4<=B):jr B B (jI v w junk x):=⟨by omega,.inl rfl,by omega,.inl rfl,by omega,.inl rfl,by omega,.inl rfl,trivial⟩
def aal {v:AV} {w:List Int} {junk:List AV} {x:Int} {B:Nat}:du B (jI v w junk x)=[]:=by
 simp only [jI,du,fc,ym,xS]
 grind
def s39 (h:Has P L 39 JT) {v:AV} {w:List Int} (hv:bq v w) (hw:w.length<=33) (ho:df 0 1000 w=false) (hs:0<dG w) {junk:List AV} {x:Int} (hx:0<=x/\x<=2147483646) (c r:Int) {ff:Hp} {ct:Nat} (hm:∀p,p∈ff->4<=p.1) (fE:4<=ct)
  (hb:jr ct ct ff) (hr:(du ct ff).length<=5000):
  dC P L (D P L) (ff++jI v w junk x) ct .dyn (.fn (.f 39) [] [.ptr 3 0,.ptr 2 0,.ptr 0 0]) [aa c,aa r]=some (aa ((oL w (mU x%dG w):Int)-(w.length/2:Nat)),ff++jI v w junk (mU x),ct):=by
 have WM:=Xx x;have qu:(39373*x).tmod 2147483647=mU x:=by rw [xm (by omega)];rfl
 have nW:(mU x).tmod (dG w)=mU x%dG w:=by rw [xm (by omega)]
 have jj:(2147483647:Int)≠0:=by decide
 have dR:dG w≠0:=by omega
 have JC:(2:Int)≠0:=by decide
 have nk:(w.length:Int).tdiv 2=(w.length/2:Nat):=by rw [xK (by omega)];rfl
 generalize ht:mU x%dG w=t at nW ⊢;have Wc:0<=t:=by rw [<-ht];exact wW _ dR
 have On:t<dG w:=by rw [<-ht];exact wZ _ hs
 have hp:=amN On Wc;have g0:∀x,ap (ff++jI v w junk x) 0=some (.cells true true true 1 [v]):=fun x=>Ld (by omega) hm
 have g2:∀x,ap (ff++jI v w junk x) 2=some (.cells true true true 1 [aa (dG w)]):=fun x=>Ld (by omega) hm
 have g3:∀x,ap (ff++jI v w junk x) 3=some (.cells true true true 1 [aa x]):=fun x=>Ld (by omega) hm
 have s3:∀x y,aY (ff++jI v w junk x) 3 (.cells true true true 1 [.int .i64 y])=ff++jI v w junk y:=fun x y=>Zl (by omega) hm
 have jC:∀(live:List Nat) (tm:Env) (x:Int) (bh:Nat),jq ct (cX tm live)->(fb (cX tm live)).length<=1000->bH live ⟨tm,ff++jI v w junk x,bh,ct⟩=⟨cX tm live,ff++jI v w junk x,ct,ct⟩:=fun live tm x bh h1 h2=>
  KK h1 (PU hb (Zm fE)) (by rw [PE,aal,xO];omega)
 have key:=cC (P:=P) (L:=L) (live:=[4,8,9,18,19,20]) (a:=IA)
  (I:=fun k st=>∃i:Nat,st=⟨[(4,.ptr 0 0),(8,aa (t-dG (w.take i))),(9,aa 0),(18,v),(19,aa w.length),(20,aa i)],ff++jI v w junk (mU x),ct,ct⟩/\i+k=w.length/\∀j,j<i->dG (w.take (j+1))<=t)
  (Q:=fun ex st=>∃tm bh,st=⟨tm,ff++jI v w junk (mU x),bh,ct⟩/\ex= .exit 0/\af tm 9=aa ((oL w t:Int)-(w.length/2:Nat))) ?_
 ·have hnp:aJ ([]++([aa c,aa r]++[AV.ptr 3 0,.ptr 2 0,.ptr 0 0]))=false:=rfl;simp only [dC,hnp,yB];have fC:∃tm,D P L JT.body ⟨fp 0 ([]++([aa c,aa r]++[AV.ptr 3 0,.ptr 2 0,.ptr 0 0])),ff++jI v w junk x,ct,ct⟩=some (.ret,⟨tm,ff++jI v w junk (mU x),ct,ct⟩)/\af tm 7=aa ((oL w t:Int)-(w.length/2:Nat)):=by
   simp only [go_sem,ya,JT,hv.len,g0,g2,g3,s3,wrap64 (n:=39373*x) (by omega) (by omega),eD _ _ _ jj,qu,eD _ _ _ dR,nW];generalize hq:D P L (.loop [4,8,9,18,19,20] IA) _=q;obtain ⟨ex,st,rfl,tm,bh,rfl,rfl,h9⟩:=cd hq (key w.length) ⟨0,by
    rw [jC]
    ·simp only [go_sem,ya,List.take_zero,dG,Int.sub_zero];rfl
    ·simp only [go_sem,ya];exact ⟨by show 0<ct;omega,trivial,trivial,lV hv.pu,trivial,trivial,trivial⟩
    ·simp only [go_sem,ya,yb,yg,aM hv.pu],by omega,fun j hj=>absurd hj (by omega)⟩
   rw [HL,fM,I8,jC]
   ·simp only [go_sem,h9];exact ⟨_,rfl,by simp only [go_sem]⟩
   ·simp only [go_sem,h9];exact ⟨trivial,trivial⟩
   ·simp only [go_sem,yg,h9]
  obtain ⟨tm,fC,h7⟩:=fC;exact D1 h fC (.inr rfl) (by show gh _ [.t 7]=_;rw [EZ,EB,h7])
 ·rintro k st ⟨i,rfl,hk,hj⟩;have hi:i<w.length:=by
   by_cases hc:i<w.length
   ·exact hc
   ·exfalso
    have:=hj (i-1) (by omega)
    rw [List.take_of_length_le (by omega)] at this;omega
  have jG:=KW (Qd ho i);have n9:=KW ho;have hg:=Hu ho i hi;by_cases h1:t-dG (w.take i)<w[i]
  ·right
   simp only [go_sem,ya,IA,hv.len,show (i:Int)<w.length by omega,hv.bj hi,h1,g0,fq _ _ _ JC,nk,wrapN (n:=w.length/2) (by omega),wrap64 (n:=(i:Int)-(w.length/2:Nat)) (by omega) (by omega)];refine ⟨_,_,rfl,by simp,_,_,rfl,rfl,?_⟩;rw [amM hi hj (by rw [Cb hi];omega)];simp only [go_sem]
  ·left
   simp only [go_sem,ya,IA,show (i:Int)<w.length by omega,hv.bj hi,h1,wrap64 (n:=t-dG (w.take i)-w[i]) (by omega) (by omega),show (i:Int)+1=((i+1:Nat):Int) from rfl,wrapN (n:=i+1) (by omega)];refine ⟨_,k-1,rfl,by omega,i+1,?_,by omega,?_⟩
   ·rw [jC]
    ·rw [Cb hi];simp only [go_sem,ya,Int.sub_sub]
    ·simp only [go_sem,ya];exact ⟨by show 0<ct;omega,trivial,trivial,lV hv.pu,trivial,trivial,trivial⟩
    ·simp only [go_sem,ya,yb,yg,aM hv.pu]
   ·intro j qj;by_cases e:j=i
    ·subst e;rw [Cb hi];omega
    ·exact hj j (by omega)
structure DrP (P:aK) (L:Lib):Prop extends Pp P L where
 h5:Has P L 5 c5
 mH:Has P L 34 Ac
 VQ:Has P L 35 Ou
 VR:Has P L 36 Ov
 VS:Has P L 37 Ow
 J7:Has P L 38 JS
 VT:Has P L 39 JT
def ajf {l:List Int}:bm (l.map fun x=>if x<0\/1000<x then 3 else 0)=if df 0 1000 l=true then 3 else 0:=by
 induction l with
 | nil=>rfl
 | cons a r ih=>
  simp only [y9,bm,df,ih]
  grind
def s5 (h:DrP P L) {v:AV} {w:List Int} (hv:bq v w) (hl:w.length<=1000000) (key side:Int):
  (Hv key side w≠0->ae P L 5 [aa key,aa side,v] (.aq [.ab,aa (Hv key side w)]))/\
  (Hv key side w=0->∃n:Nat,side=n/\0<n/\n<=16/\ae P L 5 [aa key,aa side,v] (.aq [lK (fun c r=>aa (Mf key w (r*n+c))) n,aa 0])):=by
 have Aq:∀a b c d e:Int,ae P L 33 [.aE true 5 [.int .i64 a,.int .i64 b,.int .i64 c,.int .i64 d,.int .i64 e]] (aa (bm [a,b,c,d,e])):=fun a b c d e=>qD h.nj (fN true [a,b,c,d,e]) (by simp)
 have dR:(2:Int)≠0:=by decide
 have nW:(w.length:Int).tmod 2=(w.length%2:Nat):=by rw [xm (by omega)];rfl
 obtain ⟨r35,Pq,i35⟩:=s35 h.VQ hv hl (g:=36) (f:=fun x=>if x<0\/1000<x then 3 else 0) (fun x=>s36 h.VR h.mH h.fm x);have DA:=qD h.nj i35 (by simpa using hl);rw [ajf] at DA;have hE:bm [if key<1\/2147483646<key then 3 else 0,if side<1\/16<side then 3 else 0,if decide ((w.length:Int)=0)=true then 12 else 0,if decide ((33:Int)<w.length)=true then 5 else 0,if decide (((w.length%2:Nat):Int)=0)=true then 2 else 0]=
   if key<1\/2147483646<key then 3 else if side<1\/16<side then 3 else if w.length=0 then 12 else if 33<w.length then 5 else if w.length%2=0 then 2 else 0:=by
  by_cases h1:key<1\/2147483646<key
  ·simp [h1,bm]
  ·by_cases h2:side<1\/16<side
   ·simp [h1,h2,bm]
   ·by_cases h3:w.length=0
    ·simp [h1,h2,h3,bm]
    ·by_cases h4:33<w.length
     ·simp [h1,h2,h3,h4,bm,show (33:Int)<w.length by omega]
     ·by_cases h5:w.length%2=0
      ·simp [h1,h2,h3,h4,h5,bm,show ¬(33:Int)<w.length by omega]
      ·simp only [h1,h2,h3,h4,h5,bm,show ¬(33:Int)<w.length by omega,show ¬(w.length:Int)=0 by omega,show ¬((w.length%2:Nat):Int)=0 by omega,yp,yC,yR,y7]
 unfold ae at Aq Pq DA ⊢;generalize GX:(if key<1\/2147483646<key then (3:Int) else if side<1\/16<side then 3 else if w.length=0 then 12 else if 33<w.length then 5 else if w.length%2=0 then 2 else 0)=E at hE;have rN:Hv key side w=if E≠0 then E else if df 0 1000 w=true then 3 else if dG w=0 then 6 else 0:=by
  rw [<-GX];unfold Hv;by_cases h1:key<1\/2147483646<key
  ·simp [h1]
  ·by_cases h2:side<1\/16<side
   ·simp [h1,h2]
   ·by_cases h3:w.length=0
    ·simp [h1,h2,h3]
    ·by_cases h4:33<w.length
     ·simp [h1,h2,h3,h4]
     ·by_cases h5:w.length%2=0
      ·simp [h1,h2,h3,h4,h5]
      ·simp [h1,h2,h3,h4,h5]
 have azS:∀hp,freeze 998 hp (.fn (.f 36) [] [])=some (.fn (.f 36) [] [],hp):=fun hp=>by simp only [go_sem]
 by_cases h0:E≠0
 ·rw [yJ h0] at rN;rw [rN];refine ⟨fun _=>?_,fun h=>absurd h h0⟩;rw [av h.h5];simp only [go_sem,ya,yb,yy,yg,yi,c5,hv.len,hv.pu,hv.one,hv.cells,FC h.mH h.fm,mG h.fm,eD _ _ _ dR,nW,Aq,hE,h0]
 ·rw [yz h0] at rN;have Pr:E=0:=by omega
  by_cases h1:df 0 1000 w=true
  ·rw [yJ h1] at rN DA;rw [rN];refine ⟨fun _=>?_,fun h=>absurd h (by decide)⟩;rw [av h.h5];simp only [go_sem,ya,yb,yy,yg,yi,c5,hv.len,hv.pu,hv.ai,hv.one,hv.cells,FC h.mH h.fm,mG h.fm,eD _ _ _ dR,nW,Aq,hE,Pr,Pq,i35.ai,DA,tk]
  ·rw [yz h1] at rN DA;have ho:df 0 1000 w=false:=by simpa using h1
   have ada:(1<=key/\key<=2147483646)/\(1<=side/\side<=16)/\w.length<=33:=by
    rw [Pr] at GX;by_cases g1:key<1\/2147483646<key
    ·simp [g1] at GX
    ·by_cases g2:side<1\/16<side
     ·simp [g1,g2] at GX
     ·by_cases g3:w.length=0
      ·simp [g1,g2,g3] at GX
      ·by_cases g4:33<w.length
       ·simp [g1,g2,g3,g4] at GX
       ·omega
   have WO:=s37 h.VS h.J7 hv ada.2.2 ho;unfold ae at WO;by_cases h2:dG w=0
   ·rw [yJ h2] at rN;rw [rN];refine ⟨fun _=>?_,fun h=>absurd h (by decide)⟩;rw [av h.h5];simp only [go_sem,ya,yb,yy,yg,yi,c5,hv.len,hv.pu,hv.ai,hv.one,hv.cells,FC h.mH h.fm,mG h.fm,eD _ _ _ dR,nW,Aq,hE,Pr,Pq,i35.ai,DA,WO,h2]
   ·rw [yz h2] at rN;rw [rN];refine ⟨fun h=>absurd rfl h,fun _=>?_⟩;have hb:=KW ho;obtain ⟨n,rfl⟩:∃n:Nat,side=n:=⟨side.toNat,by omega⟩;refine ⟨n,rfl,by omega,by omega,?_⟩;rw [av h.h5];simp only [go_sem,ya,yb,yy,yg,yi,c5,hv.len,hv.pu,hv.ai,hv.one,hv.cells,FC h.mH h.fm,mG h.fm,eD _ _ _ dR,nW,Aq,hE,Pr,Pq,i35.ai,DA,WO,h2];generalize hj:[AV.int .i64 (if key<1\/2147483646<key then 3 else 0),_,_,_,_]=junk;have hf:Il P L 4 n (.fn (.f 39) [] [.ptr 3 0,.ptr 2 0,.ptr 0 0]) (fun c r=>aa (Mf key w (r*n+c))) (fun k=>jI v w junk (A4 key k)):=by
     refine ⟨by omega,fun k=>⟨⟨trivial,show 3<4 by omega,show 2<4 by omega,show 0<4 by omega,trivial⟩,by simp [refs,eI],rfl,Zm (yD 4),fun B=>by rw [aal];simp⟩,fun _ _=>rfl,fun _ _=>rfl,fun c r hc hr ff ct hm fE hb GV=>?_⟩
     have hx:=aid (key:=key) (by omega) (r*n+c)
     have:=s39 (P:=P) (L:=L) h.VT hv ada.2.2 ho (by omega) (junk:=junk) hx c r hm fE hb GV
     rw [this];unfold Mf;rw [aiZ]
    obtain ⟨tm,ct,GW,h4⟩:=Zh (P:=P) (L:=L) h.toBuT (b:=4) (n:=n) (by omega) hf (fun p hp=>by
     simp only [jI,List.mem_cons,List.not_mem_nil,ybx] at hp
     rcases hp with rfl | rfl | rfl | rfl<;>simp)
    have zg:dC P L (D P L) [(3,.cells true true true 1 [.int .i64 key]),(2,.cells true true true 1 [.int .i64 (dG w)]),(1,.cells false true true 1 junk),(0,.cells true true true 1 [v])] 4 .heap (.fn (.f 40) [] []) [aa n,.fn (.f 39) [] [.ptr 3 0,.ptr 2 0,.ptr 0 0]]=
      some (.ak (4+2) 0 n,jD 4 n (.fn (.f 39) [] [.ptr 3 0,.ptr 2 0,.ptr 0 0]) (fun c r=>aa (Mf key w (r*n+c))) (jI v w junk (A4 key (n*n))),ct):=
     D1 (vals:=[aa n,.fn (.f 39) [] [.ptr 3 0,.ptr 2 0,.ptr 0 0]]) h.Pe GW (.inr rfl) (by show gh _ [.t 4]=_;rw [EZ,EB,h4])
    rw [zg]
    simp only [go_sem,ya,yb,ak8 (b:=4) (n:=n) (by omega) (by omega)]
end
end
section
open Go (IntKind)
section
variable {P:aK} {L:Lib}
structure ShP (P:aK) (L:Lib):Prop extends Pp P L where
 lh:Has P L 20 Fo
 Kq:Has P L 51 Oz
 VZ:Has P L 58 UW
 mH:Has P L 34 Ac
def eE (n:Int):Int:=if n< -999999999\/999999999<n then 3 else 0
def WQ (h:Has P L 51 Oz) (mH:Has P L 34 Ac) (fm:Has P L 31 Ab) (n:Int):ae P L 51 [aa n] (aa (eE n)):=by
 unfold ae;rw [av h];simp only [go_sem,ya,Oz,FC mH fm,eE]
def s58 (h:ShP P L) {v:AV} {s:List (List Int)} (hv:cK v s) {n:Nat} (hn:s.length=n) (h0:0<n) (hl:n<=16) (hr:∀i (hi:i<s.length),s[i].length=n) {a b:Int} (ha:eE a=0) (hb:eE b=0) {c r:Nat} (hc:c<n) (bX:r<n):
  ae P L 58 [aa c,aa r,.aF [v],.aF [aa a],.aF [aa b]] (aa (dE s (c-a) (r-b))):=by
 have ha: -999999999<=a/\a<=999999999:=by unfold eE at ha;split at ha<;>omega
 have hb: -999999999<=b/\b<=999999999:=by unfold eE at hb;split at hb<;>omega
 have e97:=s97 h.h97 h.rF hv hn h0 (by omega) hr (c-a) (r-b);unfold ae at e97 ⊢;rw [av h.VZ]
 simp only [go_sem,ya,UW,hv.ai,wrap64 (n:=(c:Int)-a) (by omega) (by omega),wrap64 (n:=(r:Int)-b) (by omega) (by omega),e97]
def s20 (h:ShP P L) {v:AV} {s:List (List Int)} (hv:cK v s) (hl:s.length<=1000000) (hr:∀i (hi:i<s.length),s[i].length<=1000000) (a b:Int):
  (bm [fo s,eE a,eE b]≠0->ae P L 20 [v,aa a,aa b] (.aq [.ab,aa (bm [fo s,eE a,eE b])]))/\
  (bm [fo s,eE a,eE b]=0->ae P L 20 [v,aa a,aa b] (.aq [lK (fun c r=>aa (dE s (c-a) (r-b))) s.length,aa 0])):=by
 have e4:=s4 h.toSq hv hl hr;have WR:∀a b c:Int,ae P L 33 [.aE true 3 [.int .i64 a,.int .i64 b,.int .i64 c]] (aa (bm [a,b,c])):=fun a b c=>qD h.nj (fN true [a,b,c]) (by simp)
 have WS:=fun n=>WQ h.Kq h.mH h.fm n
 unfold ae at e4 WR WS ⊢;constructor
 ·intro dS;rw [av h.lh];simp only [go_sem,ya,yb,yy,yg,yi,Fo,hv.pu,hv.ai,hv.one,hv.cells,e4,WS,WR,dS]
 ·intro h0;have iy:fo s=0:=by
   simp only [bm] at h0
   split at h0
   ·assumption
   ·assumption
  have ha0:eE a=0:=by
   simp only [bm,iy,y7] at h0
   split at h0
   ·assumption
   ·assumption
  have dL:eE b=0:=by
   simp only [bm,iy,ha0,y7] at h0
   split at h0
   ·assumption
   ·assumption
  obtain ⟨a1,a2,a3⟩:=G2 iy;have GW:=QT h.toBuT a1 (by omega) (g:=58) (cap:=[.aF [v],.aF [aa a],.aF [aa b]]) (val:=fun c r=>aa (dE s (c-a) (r-b))) (by simp [aJ,aS]) (fun _ _=>rfl) (fun _ _=>rfl) (fun _ _=>rfl) (fun c r hc hr=>s58 h hv rfl a1 a2 (fun i hi=>(DP a3 i hi).1) ha0 dL hc hr);unfold ae at GW;rw [av h.lh];simp only [go_sem,ya,yb,yy,yg,yi,Fo,hv.len,hv.pu,hv.ai,hv.one,hv.cells,e4,WS,WR,h0,GW,lK]
end
end
section
open Go (IntKind)
def DV {a b:Nat} (h:an a=an b):a=b:=by
 have h1:=qU a;rw [h,qU b] at h1;exact (uj h1).symm
def abi:∀(k n:Nat),n<k->n≠0->∃b r,an n=b::r/\b≠48
 | 0,n,h,_=>absurd h (Nat.not_lt_zero n)
 | k+1,n,h,h0=>by
  by_cases h1:n<10
  ·exact ⟨48+n,[],nt h1,by omega⟩
  ·obtain ⟨b,r,e,hb⟩:=abi k (n/10) (by omega) (by omega);exact ⟨b,r++[48+n%10],by rw [ol (by omega),e];rfl,hb⟩
def aam (n:Nat):dJ (an n)=true:=by
 unfold dJ;rw [sG,xt];by_cases h0:n=0
 ·subst h0;decide
 ·obtain ⟨b,r,e,hb⟩:=abi (n+1) n (by omega) h0;rw [e]
  have:Nat.beq b 48=false:=by
   cases hq:Nat.beq b 48 with
   | false=>rfl
   | true=>exact absurd (Nat.eq_of_beq_eq_true hq) hb
  simp [this]
def aan (n:Nat):fw (an n)=n:=by unfold fw;rw [qU];rfl
def LC {z:Int} (h:¬z<0):aW z=an z.natAbs:=by
 obtain ⟨m,rfl⟩:∃m:Nat,z=m:=⟨z.toNat,by omega⟩;rw [jK,xW]
def MP (r:Rat):RT r=aW r.num++iI r.den:=rfl
def aao (r:Rat):bN (RT r)=(aW r.num).length:=by rw [MP,B7,PR];rfl
def adb {r:Rat} (h1:(an r.num.natAbs).length<=600) (h2:(an r.den).length<=600):aX (RT r)=0:=by
 have key:∀neg:Bool,(neg=true->r.num.natAbs≠0)->mA neg (an r.num.natAbs++iI r.den)=0:=by
  intro neg fK;have hco:Nat.gcd r.num.natAbs r.den=1:=r.reduced;have fR:r.den≠0:=r.den_nz;generalize r.num.natAbs=m at*
  generalize r.den=d at*
  have hs:bN (an m++iI d)=(an m).length:=by rw [G6 _ (sG m),PR];rfl
  have c1:¬((true=false)\/(neg=true/\an m=[48])):=by
   rintro (h | ⟨h,h'⟩)
   ·cases h
   ·exact fK h (DV (h'.trans (by decide)))
  unfold mA;rw [hs,List.take_left,aam,yz c1];by_cases hd:d=1
  ·have hr:iI d=[]:=yJ hd;rw [hr,xO,yz (by omega),yz (by omega),yz (by omega)]
  ·have hr:iI d=47::an d:=yz hd;have ig:(an m++iI d).drop ((an m).length+1)=an d:=by
    rw [hr,show an m++47::an d=(an m++[47])++an d by simp,show (an m).length+1=(an m++[47]).length by simp,List.drop_left]
   have hl:(an m++iI d).length=(an m).length+1+(an d).length:=by rw [hr];simp;omega
   rw [ig,hl,aam,aan,aan];have n0:an d≠[48]:=fun e=>fR (DV (e.trans (by decide)))
   have n1:an d≠[49]:=fun e=>hd (DV (e.trans (by decide)))
   rw [yz (by simp [n0,n1]),yz (by omega),yz (by simp [hco])]
 rw [MP];by_cases h0:r.num<0
 ·rw [jL h0];show (if 45=45 then mA true (an r.num.natAbs++iI r.den) else mA false (45::(an r.num.natAbs++iI r.den)))=0
  rw [yJ rfl];exact key true (fun _=>by omega)
 ·rw [LC h0];have k:=key false (fun h=>by cases h);have hp:=pK r.num.natAbs;have li:=sG r.num.natAbs
  cases hq:an r.num.natAbs with
  | nil=>rw [hq] at hp;simp at hp
  | cons b t=>
   rw [hq] at k li
   have:=Qh li
   show (if b=45 then mA true (t++iI r.den) else mA false (b::(t++iI r.den)))=0
   rw [yz (by omega)];exact k
def anB {a b:Int} (h:aW a=aW b):a=b:=by
 have hd:∀{z w:Int},z<0->¬w<0->aW z≠aW w:=by
  intro z w h1 h2 e;rw [jL h1,LC h2] at e
  have:=sG w.natAbs
  rw [<-e] at this
  have:=Qh this
  omega
 by_cases h1:a<0<;>by_cases h2:b<0
 ·rw [jL h1,jL h2,tL] at h
  have:=DV h.2
  omega
 ·exact absurd h (hd h1 h2)
 ·exact absurd h.symm (hd h2 h1)
 ·rw [LC h1,LC h2] at h
  have:=DV h
  omega
def asf {a b:Rat} (h:RT a=RT b):a=b:=by
 have hs:=aao a;rw [h,aao b] at hs;rw [MP,MP] at h;obtain ⟨h1,h2⟩:=List.append_inj h hs.symm;refine Rat.ext (anB h1) ?_;have hp:∀n,an n≠[]:=fun n e=>by have:=pK n;rw [e] at this;simp at this
 unfold iI at h2;by_cases ha:a.den=1<;>by_cases hb:b.den=1
 ·rw [ha,hb]
 ·rw [yJ ha,yz hb] at h2;cases h2
 ·rw [yz ha,yJ hb] at h2;cases h2
 ·rw [yz ha,yz hb,tL] at h2;exact DV h2.2
def anC {r:Rat} (h1:(an r.num.natAbs).length<=600) (h2:(an r.den).length<=600):aG (RT r)=r:=(asf (sK (adb h1 h2)).1).symm
def Ep {r:Rat} {K:Nat} (h:Hq K r) (hK:K<=1800):(an r.num.natAbs).length<=600/\(an r.den).length<=600:=by
 refine ⟨PV (B:=K) hK (by decide) h.1,PV (B:=K) hK (by decide) ?_⟩
 have:=h.2
 unfold Bd at this
 rwa [xW] at this
def RY {r:Rat} {K:Nat} (h:Hq K r) (hK:K<=1800):aX (RT r)=0:=adb (Ep h hK).1 (Ep h hK).2
def Su {r:Rat} {K:Nat} (h:Hq K r) (hK:K<=1800):aG (RT r)=r:=anC (Ep h hK).1 (Ep h hK).2
def oN {r:Rat} {K:Nat} (h:Hq K r) (hK:K<=1800):LG r=false:=by
 obtain ⟨h1,h2⟩:=Ep h hK;unfold LG LN;rw [xW,yM (by omega),yM (by omega)];rfl
noncomputable def cO (k:Nat) (s:List Nat):Bool:=decide (s.length<=2*k+2)&&(decide (aX s=0)&&(decide ((an (aG s).num.natAbs).length<=k)&&decide ((an (aG s).den).length<=k)))
def kD {s:List Nat} (h:cO 6 s=true):s.length<=14/\aX s=0/\Hq 24 (aG s):=by
 unfold cO at h;simp only [Bool.and_eq_true,wN] at h;obtain ⟨h1,h2,h3,h4⟩:=h
 exact ⟨by omega,h2,Lb (k:=6) (by omega) (by omega),Lb (z:=((aG s).den:Int)) (k:=6) (by rw [xW];omega) (by omega)⟩
section
variable {P:aK} {L:Lib}
def atJ (h:Rm P L) (kT:Has P L 359 oQ) {k:Nat} (hk:k<=1000) {s:List Nat} (hs:s.length<9223372036854775808):ae P L 359 [.str s,aa k] (.bool (cO k s)):=by
 unfold ae cO;rw [av kT];by_cases h1:s.length<=2*k+2
 ·have e1:=Js h (s:=s) (by omega);unfold ae at e1;rw [yV (show s.length<=2*k+2 from h1),xt];by_cases h2:aX s=0
  ·rw [h2] at e1;obtain ⟨hR,_⟩:=sK h2;have kr:=jo h2 (yD 2400);obtain ⟨e2,e3,e4⟩:=apE h kr (by omega);rw [<-hR] at e2 e4;have l1:=L6 kr.1;have l2:=L6 kr.2;rw [xW] at l2;rw [yV h2,xt];by_cases h3:(an (aG s).num.natAbs).length<=k
   ·rw [yV h3,xt];by_cases h4:(an (aG s).den).length<=k
    ·rw [yV h4]
     simp only [go_sem,ya,oQ,wrap64 (n:=2*(k:Int)) (by omega) (by omega),wrap64 (n:=2*(k:Int)+2) (by omega) (by omega),yq,show (s.length:Int)<=2*(k:Int)+2 by omega,e1,e2,e3,e4,show ((an (aG s).num.natAbs).length:Int)<=(k:Int) by omega,show ((an (aG s).den).length:Int)<=(k:Int) by omega]
    ·rw [yM h4]
     simp only [go_sem,ya,oQ,wrap64 (n:=2*(k:Int)) (by omega) (by omega),wrap64 (n:=2*(k:Int)+2) (by omega) (by omega),yq,show (s.length:Int)<=2*(k:Int)+2 by omega,e1,e2,e3,e4,show ((an (aG s).num.natAbs).length:Int)<=(k:Int) by omega,show ¬((an (aG s).den).length:Int)<=(k:Int) by omega,yp]
   ·rw [yM h3,xA]
    simp only [go_sem,ya,oQ,wrap64 (n:=2*(k:Int)) (by omega) (by omega),wrap64 (n:=2*(k:Int)+2) (by omega) (by omega),yq,show (s.length:Int)<=2*(k:Int)+2 by omega,e1,e2,e3,show ¬((an (aG s).num.natAbs).length:Int)<=(k:Int) by omega,yp]
  ·rw [yM h2,xA];have Uu:¬aX s=0:=h2
   simp only [go_sem,ya,oQ,wrap64 (n:=2*(k:Int)) (by omega) (by omega),wrap64 (n:=2*(k:Int)+2) (by omega) (by omega),yq,show (s.length:Int)<=2*(k:Int)+2 by omega,e1,Uu,yp]
 ·rw [yM (show ¬s.length<=2*k+2 from h1),xA]
  simp only [go_sem,ya,oQ,wrap64 (n:=2*(k:Int)) (by omega) (by omega),wrap64 (n:=2*(k:Int)+2) (by omega) (by omega),show ¬(s.length:Int)<=2*(k:Int)+2 by omega,yp]
def N1 (h:Rm P L) (kT:Has P L 359 oQ) {s:List Nat} (hs:s.length<9223372036854775808):ae P L 359 [.str s,aa 6] (.bool (cO 6 s)):=atJ h kT (k:=6) (by decide) hs
end
end
section
open Go (IntKind)
section
variable {P:aK} {L:Lib}
def E8 (a:Rat):AV:=if LG a=true then .aq [.str [],aa 4] else .aq [.str (RT a),aa 0]
end
end
section
open Go (IntKind)
def C4 (s:List (List Int)) (x y:Rat):Rat:=NY s (x.floor%s.length) (y.floor%s.length) (qI x) (qI y)
def apK {s:List (List Int)} {i j:Int} {f g:Rat} {K:Nat} (h:∀c r,-1000<=dE s c r/\dE s c r<=1000) (kf:Hq K f) (kg:Hq K g):Hq (8*K+300) (NY s i j f g):=
 (RU (TU.mono (yD _)) (abh (i:=i) (j:=j) h kf kg)).mono (by simp only [lJ,yv,yF];omega)
def ade {s:List (List Int)} {x y:Rat} {K:Nat} (h:∀c r,-1000<=dE s c r/\dE s c r<=1000) (kx:Hq K x) (ky:Hq K y) (hK:1<=K):Hq (16*K+400) (C4 s x y):=
 (apK h (MO kx hK) (MO ky hK)).mono (by omega)
section
variable {P:aK} {L:Lib}
end
end
section
open Go (IntKind)
def Mn {w:AV} {s:List (List Int)} (hw:cK w s) (h:fo s=0):GU w s s.length:=by
 obtain ⟨a1,a2,a3⟩:=G2 h;exact ⟨hw,rfl,a1,a2,fun i hi=>(DP a3 i hi).1,a3⟩
def dU (w:AV) (hh sc st ox oy wx wy:List Nat):AV:= .agg [w,.str hh,.str sc,.str st,.str ox,.str oy,.str wx,.str wy]
noncomputable def jW (s:List (List Int)) (hh sc st ox oy wx wy:List Nat):Int:=bm [fo s,jg hh 0,jg sc 1,aX st,bm [aX ox,aX oy],bm [aX wx,aX wy]]
def KM {a:Int} {l:List Int}:bm (a::l)=0↔a=0/\bm l=0:=by
 simp only [bm]
 grind
def K1:bm []=0:=rfl
def Rr {s:List (List Int)} {hh sc st ox oy wx wy:List Nat} (h:jW s hh sc st ox oy wx wy=0):fo s=0/\(aX hh=0/\0<=bZ (aG hh).num)/\(aX sc=0/\1<=bZ (aG sc).num)/\aX st=0/\(aX ox=0/\aX oy=0)/\aX wx=0/\aX wy=0:=by
 unfold jW at h;simp only [KM,K1,wF] at h;obtain ⟨h1,h2,h3,h4,⟨h5,h6⟩,h7,h8⟩:=h;exact ⟨h1,Rj h2,Rj h3,h4,⟨h5,h6⟩,h7,h8⟩
noncomputable def qg (s:List (List Int)) (hh sc st ox oy wx wy dx dy sh x y:List Nat) (fr:Int):Int:=bm [jW s hh sc st ox oy wx wy,zo dx dy sh,bm [aX x,aX y],eE fr]
noncomputable def zQ (s:List (List Int)) (hh sc st ox oy wx wy dx dy sh x y:List Nat) (fr:Int):Int:=
 if qg s hh sc st ox oy wx wy dx dy sh x y fr≠0 then qg s hh sc st ox oy wx wy dx dy sh x y fr else if rh (aG sh) (aG hh)=true then 0 else 31
noncomputable def jX (hh sc o w d sh x:List Nat) (fr:Int):Rat:=zP (aG sc) (jN (aG sh) (aG hh)*aG x+aG hh*aG d) (aG o) (aG w) fr
structure Lp (P:aK) (L:Lib):Prop extends Sp P L,Vl P L,ShP P L where
 VP:Has P L 24 Ot
 VY:Has P L 57 OB
 V4:Has P L 66 OF
 V5:Has P L 67 UY
 awa:Has P L 115 SO
 TX:Has P L 116 M9
section
variable {P:aK} {L:Lib}
def af4 (h:Lp P L) {w:AV} {s:List (List Int)} (hw:cK w s) (hl:s.length<=1000000) (hr:∀i (hi:i<s.length),s[i].length<=1000000) {hh sc st ox oy wx wy:List Nat} (l1:hh.length<=1000000000) (l2:sc.length<=1000000000) (l3:st.length<=1000000000) (l4:ox.length<=1000000000) (l5:oy.length<=1000000000) (l6:wx.length<=1000000000) (l7:wy.length<=1000000000):
  ae P L 115 [dU w hh sc st ox oy wx wy] (aa (jW s hh sc st ox oy wx wy)):=by
 have e1:=s4 h.toSq hw hl hr;have e2:=Wn h.toSp l1 0;have e3:=Wn h.toSp l2 1;have e4:=Pk h.toCk l3;have e5:=Pn h.toSp l4 l5;have e6:=Pn h.toSp l6 l7;have e7:=qD h.toSp.nj (fN true [fo s,jg hh 0,jg sc 1,aX st,bm [aX ox,aX oy],bm [aX wx,aX wy]]) (by simp);simp only [yv,yF,yd,yb,y9,wM] at e7;have o1:=hw.one;have p1:=hw.pu;have d2:∀a b c d e f g i:AV,xv 2 [a,b,c,d,e,f,g,i]=[c,d,e,f,g,i]:=fun _ _ _ _ _ _ _ _=>rfl
 have d3:∀a b c d e f g i:AV,xv 3 [a,b,c,d,e,f,g,i]=[d,e,f,g,i]:=fun _ _ _ _ _ _ _ _=>rfl
 have d6:∀a b c d e f g i:AV,xv 6 [a,b,c,d,e,f,g,i]=[g,i]:=fun _ _ _ _ _ _ _ _=>rfl
 unfold ae at e1 e2 e3 e4 e5 e6 e7 ⊢;rw [av h.awa];unfold dU;simp only [go_sem,ya,yb,yy,yg,yi,SO,aH,o1,p1,hw.ai,bg,yd,bY,d2,d3,mN,d6,fa,bk,yj,e1,e2,e3,e4,e5,e6,e7];rfl
def m66 (h:Lp P L) {w:AV} {s:List (List Int)} (hw:cK w s) (hl:s.length<=1000000) (hr:∀i (hi:i<s.length),s[i].length<=1000000) {hh sc st ox oy wx wy dx dy sh x y:List Nat} {fr:Int} (l1:hh.length<=1000000000) (l2:sc.length<=1000000000) (l3:st.length<=1000000000) (l4:ox.length<=1000000000) (l5:oy.length<=1000000000) (l6:wx.length<=1000000000) (l7:wy.length<=1000000000) (l8:dx.length<=1000000000) (l9:dy.length<=1000000000) (la:sh.length<=1000000000) (lb:x.length<=1000000000) (lc:y.length<=1000000000):
  ae P L 66 [dU w hh sc st ox oy wx wy,iE dx dy sh,fZ x y,aa fr] (aa (zQ s hh sc st ox oy wx wy dx dy sh x y fr)):=by
 have e1:=af4 h hw hl hr l1 l2 l3 l4 l5 l6 l7;have e2:=m60 h.toSp l8 l9 la;have e3:=Pn h.toSp lb lc;have e4:=WQ h.Kq h.mH h.toSp.fm fr;have e5:=qD h.toSp.nj (fN true [jW s hh sc st ox oy wx wy,zo dx dy sh,bm [aX x,aX y],eE fr]) (by simp);simp only [yv,yF,yd,yb,y9,wM] at e5;rw [show bm [jW s hh sc st ox oy wx wy,zo dx dy sh,bm [aX x,aX y],eE fr]=qg s hh sc st ox oy wx wy dx dy sh x y fr from rfl] at e5;rw [show bm [bm [aX dx,aX dy],jg sh 0]=zo dx dy sh from rfl] at e2;have o1:=hw.one;have p1:=hw.pu;have jn:∀a b c d e f g i:AV,eX 8 true [a,b,c,d,e,f,g,i]=some (.agg [a,b,c,d,e,f,g,i]):=fun _ _ _ _ _ _ _ _=>rfl
 unfold ae at e1 e2 e3 e4 e5 ⊢;rw [av h.V4];unfold zQ;by_cases h0:qg s hh sc st ox oy wx wy dx dy sh x y fr=0
 ·rw [yz (by simp [h0])];have h1:=h0;unfold qg at h1;simp only [KM,K1,wF] at h1;obtain ⟨h2,h3,⟨h4,h5⟩,h6⟩:=h1;obtain ⟨q1,⟨q2,_⟩,_⟩:=Rr h2;obtain ⟨q3,q4,q5,_⟩:=aai h3;obtain ⟨v,e6,hv⟩:=zN h.toSp q2;have e7:=m63 h.toSp (x:=dx) (y:=dy) q5 hv (jo q2 (yD 2400)) (by decide);have e8:=mG h.toSp.fm (!(rh (aG sh) (aG hh))) 31;obtain ⟨v1,v2,v3,v4,rfl,gv⟩:=hv.gen;rw [h0] at e5;unfold dU iE fZ at*
  simp only [go_sem,ya,yb,yy,yg,yi,OF,aH,o1,p1,hw.ai,bg,yd,bY,jn,fa,jt,bk,yj,e1,e2,e3,e4,e5,e6,bE,gv.ai,e7,e8];cases rh (aG sh) (aG hh)<;>rfl
 ·rw [yJ h0];unfold dU iE fZ at*
  simp only [go_sem,ya,yb,yy,yg,yi,OF,aH,o1,p1,hw.ai,yd,jn,fa,jt,bk,yj,e1,e2,e3,e4,e5,h0,yp,yI]
structure CH (s:List (List Int)) (hh sc st ox oy wx wy dx dy sh x y:List Nat) (fr:Int):Prop where
 scr:fo s=0
 hh:aX hh=0
 sc:aX sc=0
 st:aX st=0
 ox:aX ox=0
 oy:aX oy=0
 wx:aX wx=0
 wy:aX wy=0
 dx:aX dx=0
 dy:aX dy=0
 sh:aX sh=0
 x:aX x=0
 y:aX y=0
 fr:eE fr=0
def apL {s:List (List Int)} {hh sc st ox oy wx wy dx dy sh x y:List Nat} {fr:Int} (h0:qg s hh sc st ox oy wx wy dx dy sh x y fr=0):CH s hh sc st ox oy wx wy dx dy sh x y fr:=by
 unfold qg at h0;simp only [KM,K1,wF] at h0;obtain ⟨h2,h3,⟨h4,h5⟩,h6⟩:=h0;obtain ⟨q1,⟨q2,_⟩,⟨q3,_⟩,q4,⟨q5,q6⟩,q7,q8⟩:=Rr h2;obtain ⟨r1,r2,r3,_⟩:=aai h3;exact ⟨q1,q2,q3,q4,q5,q6,q7,q8,r1,r2,r3,h4,h5,h6⟩
def Qn {n:Int} (h:eE n=0): -999999999<=n/\n<=999999999:=by
 unfold eE at h;split at h<;>omega
def abj {hh sc o w d sh x:List Nat} {fr:Int} (h1:aX hh=0) (h2:aX sc=0) (h3:aX o=0) (h4:aX w=0) (h5:aX d=0) (h6:aX sh=0) (h7:aX x=0) (h8:eE fr=0):Hq 22000 (jX hh sc o w d sh x fr):=by
 have:=Qn h8
 have H:=fun {t:List Nat} (c:aX t=0)=>jo c (yD 2400)
 exact (asd (H h2) (Ro (H h6) (H h1) (H h7) (H h5)) (H h3) (H h4) (by omega) (by omega)).mono (by omega)
def CH.kX {s:List (List Int)} {hh sc st ox oy wx wy dx dy sh x y:List Nat} {fr:Int} (h:CH s hh sc st ox oy wx wy dx dy sh x y fr):Hq 22000 (jX hh sc ox wx dx sh x fr):=abj h.hh h.sc h.ox h.wx h.dx h.sh h.x h.fr
def CH.kY {s:List (List Int)} {hh sc st ox oy wx wy dx dy sh x y:List Nat} {fr:Int} (h:CH s hh sc st ox oy wx wy dx dy sh x y fr):Hq 22000 (jX hh sc oy wy dy sh y fr):=abj h.hh h.sc h.oy h.wy h.dy h.sh h.y h.fr
noncomputable def lT (s:List (List Int)) (hh sc st ox oy wx wy dx dy sh x y:List Nat) (fr:Int):Rat:=aG st*C4 s (jX hh sc ox wx dx sh x fr) (jX hh sc oy wy dy sh y fr)
def atK {s:List (List Int)} {hh sc st ox oy wx wy dx dy sh x y:List Nat} {fr:Int} (k:CH s hh sc st ox oy wx wy dx dy sh x y fr):Hq 400000 (lT s hh sc st ox oy wx wy dx dy sh x y fr):=by
 obtain ⟨a1,a2,a3⟩:=G2 k.scr;exact ((jo k.st (yD 2400)).mul (ade (fun c r=>KG a3 (by decide) c r) k.kX k.kY (by omega))).mono (by omega)
def m67 (h:Lp P L) {w:AV} {s:List (List Int)} (hw:cK w s) {hh sc st ox oy wx wy dx dy sh x y:List Nat} {fr:Int} (k:CH s hh sc st ox oy wx wy dx dy sh x y fr):
  ∃r,ae P L 67 [dU w hh sc st ox oy wx wy,iE dx dy sh,fZ x y,aa fr] r/\cB r (lT s hh sc st ox oy wx wy dx dy sh x y fr):=by
 have hS:=Mn hw k.scr;have hf:=Qn k.fr;have o1:=hw.one;have p1:=hw.pu;have n0:=hS.pos;have n1:=hS.le;obtain ⟨a,e1,ha⟩:=zN h.toSp k.st;obtain ⟨b,e2,hb⟩:=av5 h.toSp h.TX (scr:=w) (st:= .str st) (fr:=fr) o1 p1 rfl rfl k.dx k.dy k.sh k.hh k.sc k.ox k.oy k.wx k.wy k.x k.y (by omega) (by omega);obtain ⟨c,e3,hc⟩:=m55 h.toVl.toFr' h.Kr h.E7 h.Bu (s:=(s.length:Int)) hb k.kX k.kY (by omega) (by omega) (by omega) (by omega);have q1:=wW (jX hh sc ox wx dx sh x fr).floor (show (s.length:Int)≠0 by omega);have q2:=wZ (jX hh sc ox wx dx sh x fr).floor (show (0:Int)<s.length by omega);have q3:=wW (jX hh sc oy wy dy sh y fr).floor (show (s.length:Int)≠0 by omega);have q4:=wZ (jX hh sc oy wy dy sh y fr).floor (show (0:Int)<s.length by omega)
 obtain ⟨d,e4,hd⟩:=m56 h.toVl hc hS ⟨q1,q2⟩ ⟨q3,q4⟩ (MO k.kX (by omega)) (MO k.kY (by omega)) (by omega);have kv:=ade (fun c r=>hS.cV c r) k.kX k.kY (by omega);obtain ⟨e,e5,he⟩:=sA h.toVl.toFr' ha hd (K:=400000) ((jo k.st (yD 2400)).mono (by omega)) (kv.mono (by omega)) (by omega);have Uy:=he;refine ⟨e,?_,Uy⟩;obtain ⟨a1,a2,a3,a4,rfl,ga⟩:=ha.gen;obtain ⟨b1,b2,b3,b4,b5,b6,b7,b8,rfl,gb⟩:=hb.gen;obtain ⟨c1,c2,c3,c4,c5,c6,c7,c8,rfl,_,_,_,fz⟩:=hc.gen;obtain ⟨d1,d2,d3,d4,rfl,gd⟩:=hd.gen;obtain ⟨f1,f2,f3,f4,rfl,ge⟩:=he.gen;have d3':∀a b c d e f g i:AV,xv 3 [a,b,c,d,e,f,g,i]=[d,e,f,g,i]:=fun _ _ _ _ _ _ _ _=>rfl
 have jn:∀a b c d e f g i:AV,eX 8 true [a,b,c,d,e,f,g,i]=some (.agg [a,b,c,d,e,f,g,i]):=fun _ _ _ _ _ _ _ _=>rfl
 unfold ae at e1 e2 e3 e4 e5 ⊢;rw [av h.V5];unfold dU iE fZ at*
 simp only [go_sem,ya,yb,UY,aH,o1,p1,hw.len,hw.ai,bg,yd,jn,d3',fa,jt,bk,yj,e1,bE,ga.ai,e2,gb.ai,e3,fz,e4,gd.ai,e5,ge.st,db,de];exact ge.dn _
def m57 (h:Lp P L) {v:AV} {a:Rat} {K:Nat} (hv:cB v a) (ka:Hq K a) (hK:K<=4000000000):ae P L 57 [v] (E8 a):=by
 have e1:=TF h.toSp.toTx hv ka hK;have e2:=VN h.toSp.toTx hv ka hK;obtain ⟨s1,w1,s2,w2,rfl,h1,h2⟩:=hv;obtain ⟨l1,u1⟩:=h1.aw;obtain ⟨l2,u2⟩:=h2.aw;unfold E8;unfold ae at e1 e2 ⊢;rw [av h.VY];cases hL:LG a<;>rw [hL] at e1
 ·simp only [go_sem,ya,yb,OB,aH,gM,bk,u1.pu,u1.ai,u1.one,u2.pu,u2.ai,u2.one,e1,e2,yC,yR];rfl
 ·simp only [go_sem,ya,yb,OB,aH,gM,bk,u1.pu,u1.ai,u1.one,u2.pu,u2.ai,u2.one,e1,y7];rfl
def asg (a:Rat):∃u e,E8 a= .aq [.str u,aa e]:=by unfold E8;split<;>exact ⟨_,_,rfl⟩
noncomputable def Uc (s:List (List Int)) (hh sc st ox oy wx wy dx dy sh x y:List Nat) (fr:Int):AV:=
 if zQ s hh sc st ox oy wx wy dx dy sh x y fr≠0 then .aq [.str [],aa (zQ s hh sc st ox oy wx wy dx dy sh x y fr)] else E8 (lT s hh sc st ox oy wx wy dx dy sh x y fr)
def apM {s:List (List Int)} {hh sc st ox oy wx wy dx dy sh x y:List Nat} {fr:Int} (h0:zQ s hh sc st ox oy wx wy dx dy sh x y fr=0):qg s hh sc st ox oy wx wy dx dy sh x y fr=0/\rh (aG sh) (aG hh)=true:=by
 unfold zQ at h0
 grind
section
variable (h:Lp P L) {w:AV} {s:List (List Int)} (hw:cK w s) (hl:s.length<=1000000) (hr:∀i (hi:i<s.length),s[i].length<=1000000) {hh sc st ox oy wx wy dx dy sh x y:List Nat} {fr:Int} (l1:hh.length<=1000000000) (l2:sc.length<=1000000000) (l3:st.length<=1000000000) (l4:ox.length<=1000000000) (l5:oy.length<=1000000000) (l6:wx.length<=1000000000) (l7:wy.length<=1000000000) (l8:dx.length<=1000000000) (l9:dy.length<=1000000000) (la:sh.length<=1000000000) (lb:x.length<=1000000000) (lc:y.length<=1000000000)
include h hw hl hr l1 l2 l3 l4 l5 l6 l7 l8 l9 la lb lc
def m24:ae P L 24 [dU w hh sc st ox oy wx wy,iE dx dy sh,fZ x y,aa fr] (Uc s hh sc st ox oy wx wy dx dy sh x y fr):=by
 have e1:=m66 h hw hl hr (fr:=fr) l1 l2 l3 l4 l5 l6 l7 l8 l9 la lb lc;have o1:=hw.one;have p1:=hw.pu;have jn:∀a b c d e f g i:AV,eX 8 true [a,b,c,d,e,f,g,i]=some (.agg [a,b,c,d,e,f,g,i]):=fun _ _ _ _ _ _ _ _=>rfl
 unfold ae at e1 ⊢;rw [av h.VP];unfold Uc;by_cases h0:zQ s hh sc st ox oy wx wy dx dy sh x y fr=0
 ·rw [yz (by simp [h0])];have k:=apL (apM h0).1;obtain ⟨a,e2,ha⟩:=m67 h hw k;have e3:=m57 h ha (atK k) (by decide);obtain ⟨u,z,hu⟩:=asg (lT s hh sc st ox oy wx wy dx dy sh x y fr);rw [hu] at e3 ⊢;rw [h0] at e1;obtain ⟨a1,a2,a3,a4,rfl,ga⟩:=ha.gen;unfold dU iE fZ at*
  simp only [go_sem,ya,yb,Ot,aH,o1,p1,hw.ai,yd,jn,fa,jt,bk,yj,e1,e2,bE,ga.ai,e3];rfl
 ·rw [yJ h0];unfold dU iE fZ at*
  simp only [go_sem,ya,yb,Ot,aH,o1,p1,hw.ai,yd,jn,fa,jt,bk,yj,e1,h0,yp,yI];rfl
end
end
end
section
open Go (IntKind)
def ash {s:List (List Int)} {n:Nat} (hn:s.length=n) (hr:∀i (hi:i<s.length),s[i].length=n):Ag n (fun c r=>kv s r c)=s:=by
 apply yau
 ·rw [sQ,hn]
 ·intro i h1 h2;rw [LV (by omega)];apply yau
  ·grind
  ·intro j h3 h4;simp only [List.getElem_map,List.getElem_range];exact (RF h2 h4).symm
def ain {cs:List AV} (hp:Hp) (k:IntKind) (b:Int) (gQ:aJ cs=true) (hf:freeze 1000 hp (.agg cs)=some (.agg cs,hp)):result hp (.aq [.agg cs,.int k b])=some (.aq [.agg cs,.int k b]):=by
 have e1:AN [.agg cs,.int k b]=some []:=by
  show (bif aS (.agg cs) then AN [.int k b] else none)=_
  rw [show aS (.agg cs)=true by simp only [aS,gQ]];rfl
 have e2:oC deep hp (.agg cs)=some (.agg cs,hp):=hf;simp only [result,e1,qW,e2];rfl
noncomputable def GY (s:List (List Int)) (hh sc st ox oy wx wy:List Nat) (fr:Int):Int:=
 if bm [jW s hh sc st ox oy wx wy,eE fr]≠0 then bm [jW s hh sc st ox oy wx wy,eE fr]
 else if (LG (aG ox+(fr:Rat)*aG wx)||LG (aG oy+(fr:Rat)*aG wy))=true then 4 else 0
section
variable {P:aK} {L:Lib}
def awb (h:Has P L 365 I4) {v:AV} {s:List (List Int)} (hv:cK v s) {n:Nat} (hn:s.length=n) (hr:∀i (hi:i<s.length),s[i].length=n) {c r:Nat} (hc:c<n) (bX:r<n) (q:List AV):ae P L 365 [aa c,aa r,.aF (v::q)] (aa (kv s r c)):=by
 have h1:r<s.length:=by omega
 have h2:c<s[r].length:=by rw [hr];exact hc
 obtain ⟨a,rest,ha,hb⟩:=hv.bj h1;have hk:=RF h1 h2;have hd:∀(l:List AV),Es 0 (.aF l)=some (.aF l):=fun _=>rfl
 unfold ae;rw [av h];simp only [go_sem,ya,I4,hd,qS (show (0:Int)<=r by omega),qS (show (0:Int)<=c by omega),Int.toNat_natCast,hb,ha.bj h2,hk]
def awc (h:Lp P L) (Jv:Has P L 362 EX) (Ud:Has P L 365 I4) {w:AV} {s:List (List Int)} (hw:cK w s) (hl:s.length<=1000000) (hr:∀i (hi:i<s.length),s[i].length<=1000000) {hh sc st ox oy wx wy:List Nat} {fr:Int} (l1:hh.length<=1000000000) (l2:sc.length<=1000000000) (l3:st.length<=1000000000) (l4:ox.length<=1000000000) (l5:oy.length<=1000000000) (l6:wx.length<=1000000000) (l7:wy.length<=1000000000):
  (GY s hh sc st ox oy wx wy fr≠0->ae P L 362 [dU w hh sc st ox oy wx wy,aa fr] (.aq [dU .ab [] [] [] [] [] [] [],aa (GY s hh sc st ox oy wx wy fr)]))/\
  (GY s hh sc st ox oy wx wy fr=0->∃w',cK w' s/\ae P L 362 [dU w hh sc st ox oy wx wy,aa fr] (.aq [dU w' hh sc st (RT (aG ox+(fr:Rat)*aG wx)) (RT (aG oy+(fr:Rat)*aG wy)) wx wy,aa 0])):=by
 have e1:=af4 h hw hl hr l1 l2 l3 l4 l5 l6 l7;have e2:=WQ h.Kq h.mH h.toSp.fm fr;have e3:=qD h.toSp.nj (fN true [jW s hh sc st ox oy wx wy,eE fr]) (by simp);simp only [yv,yF,yd,yb,y9,wM] at e3;have o1:=hw.one;have p1:=hw.pu;have jn:∀a b c d e f g i:AV,eX 8 true [a,b,c,d,e,f,g,i]=some (.agg [a,b,c,d,e,f,g,i]):=fun _ _ _ _ _ _ _ _=>rfl
 have d6:∀a b c d e f g i:AV,xv 6 [a,b,c,d,e,f,g,i]=[g,i]:=fun _ _ _ _ _ _ _ _=>rfl
 have WT:∀(v:AV) (_:bA v=true) (_:aS v=true) (hp:Hp) (ct id:Nat) (a b c d e f g:List Nat) (x0 x1 x2 x3 x4 x5 x6 x7:AV),fy hp ct id 0 8 [v,.str a,.str b,.str c,.str d,.str e,.str f,.str g] (some (.cells true true true 8 [x0,x1,x2,x3,x4,x5,x6,x7]))=some (.aq [],aY hp id (.cells true true true 8 [v,.str a,.str b,.str c,.str d,.str e,.str f,.str g]),ct):=fun v o2 p2 hp ct id a b c d e f g x0 x1 x2 x3 x4 x5 x6 x7=>by
  rw [mj (by rfl) (by simp) (by simp [bQ,o2,Q3])];simp [aJ,p2,over,aS]
 have af5:=WT .ab rfl rfl;have awd:=WT w o1 p1;have hs4:∀(hp:Hp) (ct id:Nat) (u v:List Nat) (x0 x1 x2 x3 x4 x5 x6 x7:AV),fy hp ct id 4 2 [.str u,.str v] (some (.cells true true true 8 [x0,x1,x2,x3,x4,x5,x6,x7]))=some (.aq [],aY hp id (.cells true true true 8 [x0,x1,x2,x3,.str u,.str v,x6,x7]),ct):=fun hp ct id u v x0 x1 x2 x3 x4 x5 x6 x7=>by
  rw [mj (by rfl) (by simp) (by rfl)];rfl
 unfold ae at e1 e2 e3;by_cases h0:bm [jW s hh sc st ox oy wx wy,eE fr]=0
 ·obtain ⟨hE,hF⟩:=Rn.1 h0;obtain ⟨q1,_,_,_,⟨q5,q6⟩,q7,q8⟩:=Rr hE;have hS:=Mn hw q1;have hf:=Qn hF;have H:=fun {t:List Nat} (c:aX t=0)=>(jo c (yD 2400)).mono (show 2400<=10000 by omega)
  obtain ⟨a,e4,ha⟩:=GR h.toSp q5 q6;obtain ⟨b,e5,hb⟩:=GR h.toSp q7 q8;obtain ⟨f,e6,nS⟩:=Ds h.toVl.toFr' (z:=fr) (by omega) (by omega);have qH:Hq 64 (fr:Rat):=⟨by rw [wA];unfold Bd;omega,by rw [wg];unfold Bd;exact Nat.one_lt_two_pow (by omega)⟩
  obtain ⟨c,e7,hc⟩:=Kx h.toSp hb nS (H q7) (H q8) (qH.mono (by omega)) (by omega);have k1:=qH.mul (jo q7 (yD 2400));have k2:=qH.mul (jo q8 (yD 2400));rw [vA _ (fr:Rat),vA _ (fr:Rat)] at hc;obtain ⟨d,e8,hd⟩:=NW h.toSp ha hc (H q5) (H q6) (k1.mono (by omega)) (k2.mono (by omega)) (by omega);have e9:=m65 h.toSp hd (((jo q5 (yD 2400)).add k1).mono (show _<=10000 by omega)) (((jo q6 (yD 2400)).add k2).mono (by omega)) (by omega);obtain ⟨a1,a2,a3,a4,a5,a6,a7,a8,rfl,ga⟩:=ha.gen;obtain ⟨b1,b2,b3,b4,b5,b6,b7,b8,rfl,gb⟩:=hb.gen;obtain ⟨f1,f2,f3,f4,rfl,gf⟩:=nS.gen;obtain ⟨c1,c2,c3,c4,c5,c6,c7,c8,rfl,gc⟩:=hc.gen;obtain ⟨d1,d2,d3,d4,d5,d6',d7,d8,rfl,gd⟩:=hd.gen;rw [h0] at e3;unfold GY;rw [yz (by simp [h0])];unfold ae at e4 e5 e6 e7 e8 e9
  cases hL:(LG (aG ox+(fr:Rat)*aG wx)||LG (aG oy+(fr:Rat)*aG wy)) with
  | true=>
   rw [hL,yJ rfl] at e9;rw [yJ rfl];refine ⟨fun _=>?_,fun dS=>absurd dS (by decide)⟩;unfold ae;rw [av Jv];unfold dU fZ at*
   simp only [go_sem,ya,yb,yy,yg,yi,EX,aH,o1,p1,hw.ai,bg,yd,jn,mN,d6,fa,bk,yj,e1,e2,e3,e4,e5,e6,e7,e8,ga.ai,gb.ai,gf.ai,gc.ai,gd.ai,e9,bE,AJ,fe,show ¬(4:Int)=0 by decide,yp,yI,af5];rfl
  | false=>
   rw [hL,yz (by decide)] at e9;rw [yz (by decide)];refine ⟨fun dS=>absurd rfl dS,fun _=>?_⟩;have ek:=QT h.toBuT hS.pos (by have:=hS.le;omega) (g:=365) (cap:=[.aF [w,.str hh,.str sc,.str st,.str ox,.str oy,.str wx,.str wy]]) (val:=fun c r=>aa (kv s r c)) (by simp [aJ,aS]) (fun _ _=>rfl) (fun _ _=>rfl) (fun _ _=>rfl) (fun c r hc hr=>awb Ud hw rfl hS.row hc hr _);have hT:cK (lK (fun c r=>aa (kv s r c)) s.length) s:=by
    have:=RX (n:=s.length) (fun c r=>kv s r c)
    rwa [ash rfl hS.row] at this
   generalize lK (fun c r=>aa (kv s r c)) s.length=T at*
   refine ⟨T,hT,?_⟩;have o2:=hT.one;have p2:=hT.pu;have Bc:∀(hp:Hp) (ct id:Nat) (x0:AV) (b c d e f g i:List Nat),fy hp ct id 0 1 [T] (some (.cells true true true 8 [x0,.str b,.str c,.str d,.str e,.str f,.str g,.str i]))=some (.aq [],aY hp id (.cells true true true 8 [T,.str b,.str c,.str d,.str e,.str f,.str g,.str i]),ct):=fun hp ct id x0 b c d e f g i=>by
    rw [mj (by rfl) (by simp) (by simp [bQ,o2])];simp [aJ,p2,over]
   have awe:=WT T o2 p2;have rE:∀(hp:Hp) (a b c d e f g:List Nat),freeze 1000 hp (.agg [T,.str a,.str b,.str c,.str d,.str e,.str f,.str g])=some (.agg [T,.str a,.str b,.str c,.str d,.str e,.str f,.str g],hp):=fun hp a b c d e f g=>by
    rw [show 1000=980+19+1 by rfl,bk _ _ (by simp only [go_sem,yb,hT.ai])]
   unfold ae at ek ⊢;rw [av Jv];unfold dU fZ Wm at*
   simp only [go_sem,ya,yb,yy,yg,yi,EX,aH,o1,p1,hw.len,hw.ai,hT.shut,hT.cells,bg,yd,jn,mN,d6,fa,bk,yj,e1,e2,e3,e4,e5,e6,e7,e8,ga.ai,gb.ai,gf.ai,gc.ai,gd.ai,e9,bE,AJ,fe,awd,hs4,ek,Bc,awe,db,de];exact ain _ _ _ (by simp [aJ,p2,aS]) (rE _ _ _ _ _ _ _ _)
 ·unfold GY;rw [yJ h0];refine ⟨fun _=>?_,fun dS=>absurd dS h0⟩;unfold ae;rw [av Jv];unfold dU at*
  simp only [go_sem,ya,yb,yy,yg,yi,EX,aH,o1,p1,hw.ai,yd,jn,bk,yj,e1,e2,e3,h0,yp,yI,af5];rfl
end
end
section
open Go (IntKind)
def gS (d k:Nat) (a:Rat):Prop:=∃z:Int,a*(d:Rat)=(z:Rat)/\z.natAbs<2^k
def gS.add {d k m:Nat} {a b:Rat} (ha:gS d k a) (hb:gS d m b):gS d (max k m+1) (a+b):=by
 obtain ⟨z,e1,h1⟩:=ha;obtain ⟨y,e2,h2⟩:=hb;refine ⟨z+y,by rw [tY,e1,e2,wL],?_⟩;have a1:2^k<=2^(max k m):=xn (by decide) (Nat.le_max_left k m);have a2:2^m<=2^(max k m):=xn (by decide) (Nat.le_max_right k m);have a3:2^(max k m+1)=2^(max k m)*2:=xg 2 (max k m);generalize 2^(max k m)=M at*
 generalize 2^k=A at*
 generalize 2^m=B at*
 omega
def gS.mul {d e k m:Nat} {a b:Rat} (ha:gS d k a) (hb:gS e m b):gS (d*e) (k+m) (a*b):=by
 obtain ⟨z,e1,h1⟩:=ha;obtain ⟨y,e2,h2⟩:=hb;refine ⟨z*y,?_,?_⟩
 ·rw [Rat.natCast_mul,tR,<-e1,<-e2];grind
 ·rw [Int.natAbs_mul,wP];exact tv h1 h2
def gS.int {c:Int} {k:Nat} (h:c.natAbs<2^k):gS 1 k (c:Rat):=⟨c,by grind,h⟩
def gS.mono {d k m:Nat} {a:Rat} (h:gS d k a) (hk:k<=m):gS d m a:=by
 obtain ⟨z,e,h1⟩:=h;exact ⟨z,e,yH h1 (xn (by decide) hk)⟩
def gS.zero (d:Nat):gS d 0 0:=⟨0,by grind,by decide⟩
def gS.Hq {d k:Nat} {a:Rat} (h:gS d k a) (h0:0<d) (hd:d<2^k):Hq k a:=by
 obtain ⟨z,e,h1⟩:=h;have fR:(d:Rat)≠0:=by
  intro c
  have:=tz.1 c
  omega
 have ha:a=Rat.divInt z (d:Int):=by
  rw [yaC,<-e,wX,Rat.div_def,Rat.mul_assoc,Rat.mul_inv_cancel _ fR,Rat.mul_one]
 obtain ⟨p1,p2⟩:=G1 (a:=z) (b:=(d:Int)) (by omega);have hn:a.num=dh z d:=by rw [ha,p1];rfl
 have n8:(a.den:Int)=dl z d:=by rw [ha,p2];rfl
 have b1:=QH z d;have b2:=QI z d;refine ⟨?_,?_⟩
 ·unfold Bd;rw [hn];omega
 ·unfold Bd;rw [n8];omega
def RZ {x:Rat} {K:Nat} (h:Hq K x):gS x.den K (qI x):=by
 have hd:=h.2;unfold Bd at hd;have h0:0<x.den:=x.den_pos;refine ⟨x.num%x.den,?_,?_⟩
 ·unfold qI;have dS:((x.den:Int):Rat)≠0:=by
   rw [wX];intro c;have:=tz.1 c;omega
  have e0:(x.num:Rat)/((x.den:Int):Rat)=x:=by rw [<-yaC];exact Rat.num_divInt_den x
  have e1:x*(x.den:Rat)=(x.num:Rat):=by
   have:=Rat.div_mul_cancel (a:=(x.num:Rat)) dS
   rwa [e0,wX] at this
  have e2:=Int.mul_ediv_add_emod x.num x.den;rw [uT,tY,e1,Rat.floor_def];have e3:((x.num%x.den:Int):Rat)=(x.num:Rat)-(x.den:Rat)*((x.num/x.den:Int):Rat):=by
   conv=>rhs;rw [<-e2]
   rw [wL,tR,wX];grind
  rw [e3];grind
 ·have m1:=wW x.num (show (x.den:Int)≠0 by omega);have m2:=wZ x.num (show (0:Int)<x.den by omega);omega
def Yn {x:Rat} {K:Nat} (h:Hq K x):gS x.den (K+1) (1-qI x):=by
 obtain ⟨z,e,h1⟩:=RZ h;have hd:=h.2;unfold Bd at hd;refine ⟨(x.den:Int)-z,?_,?_⟩
 ·rw [uT,tY,Rat.one_mul,Rat.intCast_sub,<-e,wX];grind
 ·have a3:2^(K+1)=2^K*2:=xg 2 K;generalize 2^(K+1)=A at*
  generalize 2^K=B at*
  omega
def anD {s:List (List Int)} {i j k:Int} (h:∀c r,-1000<=dE s c r/\dE s c r<=1000):gS 1 10 (mW s i j k):=by
 have:=h (i+k%2) (j+k/2)
 exact gS.int (by omega)
def apN {s:List (List Int)} {x y:Rat} {K:Nat} (h:∀c r,-1000<=dE s c r/\dE s c r<=1000) (kx:Hq K x) (ky:Hq K y):Hq (2*K+20) (C4 s x y):=by
 have f:=(RZ kx).mono (show K<=K+1 by omega);have u:=Yn kx;have g:=(RZ ky).mono (show K<=K+1 by omega);have v:=Yn ky;have c:=fun i j k=>anD (i:=i) (j:=j) (k:=k) h
 have p0:=(u.mul v).mul (c (x.floor%s.length) (y.floor%s.length) 0);have p1:=(f.mul v).mul (c (x.floor%s.length) (y.floor%s.length) 1);have p2:=(u.mul g).mul (c (x.floor%s.length) (y.floor%s.length) 2);have p3:=(f.mul g).mul (c (x.floor%s.length) (y.floor%s.length) 3);have hx:=kx.2;have hy:=ky.2;unfold Bd at hx hy;have h1:0<x.den:=x.den_pos;have h2:0<y.den:=y.den_pos;have t:gS (x.den*y.den*1) (2*K+20) (C4 s x y):=by
  have:=((((gS.zero (x.den*y.den*1)).add p0).add p1).add p2).add p3
  exact gS.mono (k:=_) this (by omega)
 refine t.Hq (yaK (yaK h1 h2) (by decide)) ?_;rw [yi];have q:x.den*y.den<2^K*2^K:=tv (by omega) (by omega);rw [<-wP] at q;exact yH q (xn (by decide) (by omega))
def abk {sc o w hs hh x dx:Rat} {fr:Int} (k1:Hq 24 sc) (k2:Hq 60 o) (k3:Hq 24 w) (k4:Hq 24 hs) (k5:Hq 24 hh) (k6:Hq 24 x) (k7:Hq 24 dx) (hf:fr.natAbs<2^9):Hq 260 (zP sc (jN hs hh*x+hh*dx) o w fr):=by
 have qH:Hq 9 (fr:Rat):=⟨by rw [wA];exact hf,by rw [wg];decide⟩
 have ks:=Qk k4 k5;exact (((k1.mul ((ks.mul k6).add (k5.mul k7))).add (rM.mul k2)).add (qH.mul k3)).mono (by omega)
end
end VE
