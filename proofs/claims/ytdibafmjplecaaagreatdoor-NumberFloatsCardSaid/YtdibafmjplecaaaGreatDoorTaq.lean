import Derived.OwnWalk
import Derived.WalkKit
import Derived.Test.YtdibafmjplecaaaGreatDoorTap
import Derived.Test.YtdibafmjplecaaaGreatDoorTam
import Derived.Test.YtdibafmjplecaaaGreatDoorTab
import Derived.Test.YtdibafmjplecaaaGreatDoorTac
import Derived.Test.YtdibafmjplecaaaGreatDoorTao
set_option linter.all false
set_option maxRecDepth 100000
open BitVec renaming ofInt→xC,toNat_and→tz,toNat_not→yaH,toNat_ofInt→wO
open Bool renaming false_eq_true→yC,not_false→yP,not_true→yN
open Go renaming Calls→xV,DataW→xJ,Field→td,FloatKind→vS,IntKind→xc,MemPlace→wq,Program→y8,TypeId→yx,Value→yg,World→yi,binOp→xL
open Int renaming lt_irrefl→ybU,lt_trichotomy→vU,natAbs_natCast→xm,not_le→yaP,reduceEq→uC,tmod_eq_emod_of_nonneg→xz
open List.cons renaming injEq→tu
open List renaming drop_eq_getElem_cons→yX,drop_eq_nil_of_le→xk,drop_zero→yu,flatMap_def→yba,getElem_map→yaZ,length_map→xt,length_nil→yR,mapM_cons→ud,map_cons→xi,mem_map→uH
open Nat renaming and_two_pow_sub_one_eq_mod→tI,div_lt_iff_lt_mul→xy,eq_zero_or_pos→xe,le_refl→yB,lt_of_le_of_lt→xB,lt_of_lt_of_le→yE,lt_or_ge→wX,lt_trans→vc,min_eq_left→xA,mod_eq_of_lt→yF,mul_assoc→xd,mul_comm→xg,mul_le_mul→wa,mul_one→ym,mul_pos→wY,ne_of_gt→vV,pos_of_ne_zero→uJ,pow_add→xn,pow_le_pow_right→yT,pow_succ→yZ,pow_zero→vL,reduceAdd→yd,reduceEqDiff→ya,reduceLT→yI,shiftLeft_eq→ue,two_pow_pos→y9,zero_add→yh,zero_mul→wh
open Option renaming bind_eq_bind→vv,bind_some→xX,map_eq_some_iff→wv,pure_def→wA
open Option.some renaming injEq→yb
open Prod.mk renaming injEq→yk
open Rat renaming den_intCast→vj,floor_le→ycd,intCast_lt_intCast→vD,inv_mul_cancel→yaO,le_floor_iff→ybh,le_of_lt→vm,le_trans→yao,lt_irrefl→ui,mul_assoc→xU,mul_comm→ybm,mul_eq_zero→ybo,mul_le_mul_of_nonneg_left→wP,mul_le_mul_of_nonneg_right→wL,mul_lt_mul_right→wg,mul_nonneg→tX,mul_one→we,natCast_le_natCast→wT,natCast_lt_natCast→uP,natCast_mul→xv,not_le→vA,not_lt→vd,num_intCast→vI,num_nonneg→tW,one_mul→vR,zero_mul→yce
section
namespace VE
open Go (IntKind)
open Ieee
structure Fy0 (P:aK) (L:Lib):Prop extends Rn P L where
 Nk:Has P L 265 LO
 Iu:Has P L 283 HK
 B6:Has P L 389 DB
structure Fy (P:aK) (L:Lib):Prop extends Fy0 P L where
 ajz:Has P L 429 L4
 WY:Has P L 430 L5
def awZ {b M:Nat} (h:Fl b true M) (h0:M≠0):∃b',binOp .sub (.aw .f32 0) (.aw .f32 b)=some (.aw .f32 b')/\Fl b' false M:=by
 obtain ⟨m,e,h1,rfl⟩:=h.ex;obtain ⟨b1,b2,b3,b4⟩:=h1.b;have m0:m≠0:=fun q=>h0 (by unfold cz;rw [q,wh])
 obtain ⟨m',e',k1,k2,k3⟩:=zb (n:=m) (k:=e) m0 b2 b1 b4 (m0:=cz m e) (e0:= -149) false (by
  rw [oZ b1]
  have:p2 149*p2 (-149)=1:=by rw [<-dU];exact lY
  rw [xU,this,we])
 have e1:single.sub 0 b=some (single.write (.number false (cz m e) (-149))):=by
  unfold Format.sub;rw [h1.read,show single.read 0= .number false 0 (-149) by decide];show some (single.write (.number (if signed false 0 ((-149:Int)-min (-149) e).toNat+signed (!true) m (e-min (-149) e).toNat=0 then false&&(!true) else decide (signed false 0 ((-149:Int)-min (-149) e).toNat+signed (!true) m (e-min (-149) e).toNat<0)) (signed false 0 ((-149:Int)-min (-149) e).toNat+signed (!true) m (e-min (-149) e).toNat).natAbs (min (-149) e)))=_
  have hm:min (-149) e= -149:=by omega
  have hs:signed false 0 ((-149:Int)-min (-149) e).toNat+signed (!true) m (e-min (-149) e).toNat=(cz m e:Nat):=by
   rw [hm];unfold signed cz;simp only [yN,yC,xj,ue,wh];rw [show e - -149=e+149 by omega];simp
  rw [hs,hm,yv (by omega),xm,yM (by omega)]
 refine ⟨_,?_,m',e',k1,(PW k1.b.1 b1 k3).symm⟩;show (match single.sub 0 b with | some b=>some (AV.aw .f32 b) | none=>none)=_
 rw [e1]
def ahf:∀k,pw 2 k=p2 k
 | 0=>by rw [show ((0:Nat):Int)=0 from rfl,lY];rfl
 | k+1=>by
  have ih:=ahf k;rw [show ((k+1:Nat):Int)=(k:Int)+1 from rfl,dU,oc,<-ih];show _=_
  simp only [pw]
def aw0 (k:Nat):pw (2:Rat)⁻¹ k=p2 (-(k:Int)):=by
 have:∀k,pw (2:Rat)⁻¹ k*p2 k=1:=fun k=>by
  induction k with
  | zero=>rw [show ((0:Nat):Int)=0 from rfl,lY];simp [pw]
  | succ k ih=>
   rw [show ((k+1:Nat):Int)=(k:Int)+1 from rfl,dU,oc];have h2:(2:Rat)⁻¹*2=1:=yaO _ (by decide);simp only [pw]
   have:pw (2:Rat)⁻¹ k*2⁻¹*(p2 k*2)=(pw (2:Rat)⁻¹ k*p2 k)*((2:Rat)⁻¹*2):=by grind
   rw [this,ih,h2,vR]
 have h1:=this k;have h2:=Dd (k:Int);have h3:pw (2:Rat)⁻¹ k*p2 k*p2 (-(k:Int))=p2 (-(k:Int)):=by rw [h1,vR]
 rw [xU,ybm (p2 k),h2,we] at h3;exact h3
section
variable {P:aK} {L:Lib}
def aw1 {s:Bool} {M:Nat} (hs:s=true->M=0) (hM:M<2^277):
  ∀(d:Nat) (st:St),(∃(b:Nat) (N:Nat) (k:Nat),d=N/\Fl b s N/\N*2^k=M/\(M=0->k=0)/\aQ [0,4] st=⟨[(0,.aw .f32 b),(4,ab k)],[],0,0⟩)->
   ∃ex s',D P L (.loop [0,4] GX) st=some (ex,s')/\∃tm ct b N,∃k:Nat,s'=⟨tm,[],ct,0⟩/\ex= .exit 0/\Fl b s N/\N*2^k=M/\N<2^173/\k<277/\aj tm 0= .aw .f32 b/\aj tm 4=ab k:=by
 intro dq sq;generalize bq:aQ [0,4] sq=s0;revert bq s0 sq dq;apply dh;rintro d st ⟨b,N,k,hd,hN,hq,hz,rfl⟩;have mU:0<2^k:=y9 _;have hk:k<277:=by
  by_cases h0:M=0
  ·rw [hz h0];decide
  ·have N0:0<N:=by
    rcases xe N with q | q
    ·rw [q,wh] at hq;exact absurd hq.symm h0
    ·exact q
   have h1:2^k<=N*2^k:=Nat.le_mul_of_pos_left _ N0;exact ajd k 277 (xB (by rw [hq] at h1;exact h1) hM)
 have e2:=ag3 hN ag4;have hsN:bc s N=N:=by
  cases s with
  | false=>rfl
  | true=>
   have rz:=hs rfl
   have:N=0:=by
    rcases xe N with q | q
    ·exact q
    ·have:=wY q mU;omega
   subst this;rfl
 have hc:(bc false (2^173)<=bc s N)↔2^173<=N:=by rw [hsN];exact Int.ofNat_le
 by_cases c:2^173<=N
 ·left
  have q9:=hN.even c;obtain ⟨b',e3,bC⟩:=Qq hN q9;rw [xa (hc.2 c)] at e2;have wk:IntKind.wrap .i64 ((k:Int)+1)=((k+1:Nat):Int):=wrap64 (by omega) (by omega);simp only [go_sem,ya,GX,e2,e3,wk];have rz:M≠0:=fun q=>by
   have:=wY (show 0<N by omega) mU
   omega
  refine ⟨_,N/2,rfl,by omega,b',N/2,k+1,rfl,bC,by rw [yZ,xg (2^k),<-xd,show N/2*2=N by omega,hq],fun q=>absurd q rz,?_⟩;simp only [go_sem,ya,aB,ji,jl]<;>rfl
 ·right
  rw [yM (fun q=>c (hc.1 q))] at e2;simp only [go_sem,GX,e2];exact ⟨_,_,rfl,by simp,_,_,b,N,k,rfl,rfl,hN,hq,by omega,hk,by simp only [go_sem,ya],by simp only [go_sem,ya]⟩
def aoz {s:Bool} {N:Nat}:(bc s N=bc (decide (bc s (N/2^149)<0)) (N/2^149*2^149))↔N%2^149=0:=by
 have dZ:=Nat.div_add_mod N (2^149);have Ys:N/2^149=0->N/2^149*2^149=0:=fun h=>by rw [h,wh]
 generalize hQ:N/2^149=q at*
 generalize hR:N%2^149=r at*
 rw [xg] at dZ;generalize q*2^149=X at*
 unfold bc
 cases s with
 | false=>
  have:decide ((if false=true then -(q:Int) else (q:Int))<0)=false:=yM (by simp)
  rw [this];simp;omega
 | true=>
  rw [yG rfl,yG rfl];by_cases q0:q=0
  ·have hX:=Ys q0
   have:decide (-(q:Int)<0)=false:=yM (by omega)
   rw [this,yv (by decide)];omega
  ·have:decide (-(q:Int)<0)=true:=xa (by omega)
   rw [this,yG rfl];omega
def aw2 {s:Bool} {M:Nat}:
  ∀(d:Nat) (st:St),(∃(b:Nat) (N:Nat) (j:Nat) (k:Int),d+j=149/\Fl b s N/\2^j∣N/\N<2^173/\(N:Rat)*p2 k=(M:Rat)/\-149<=k+j/\k+j<=277/\aQ [0,4] st=⟨[(0,.aw .f32 b),(4,ab k)],[],0,0⟩)->
   ∃ex s',D P L (.loop [0,4] GY) st=some (ex,s')/\∃tm ct b N,∃k:Int,s'=⟨tm,[],ct,0⟩/\ex= .exit 2/\Fl b s N/\N%2^149=0/\N<2^173/\(N:Rat)*p2 k=(M:Rat)/\-298<=k/\k<=277/\aj tm 0= .aw .f32 b/\aj tm 4=ab k:=by
 intro dq sq;generalize bq:aQ [0,4] sq=s0;revert bq s0 sq dq;apply dh;rintro d st ⟨b,N,j,k,hd,hN,hj,aG,hq,k1,k2,rfl⟩;have oe:N<2^200:=vc aG (by decide);have e1:=KH hN oe;have hn:N/2^149<2^24:=by rw [xy (y9 _),<-xn];exact aG
 have ha:(bc s (N/2^149)).natAbs=N/2^149:=by unfold bc;split<;>omega
 obtain ⟨c,e2,hc⟩:=PX (n:=bc s (N/2^149)) (by omega);rw [ha] at hc;have e3:=QS hN hc;have hw:=aoz (s:=s) (N:=N);by_cases w:N%2^149=0
 ·right
  rw [xa (hw.2 w)] at e3;simp only [go_sem,ya,GY,e1,e2,e3,yN];exact ⟨_,_,rfl,by simp,_,_,b,N,k,rfl,rfl,hN,w,aG,hq,by omega,by omega,by simp only [go_sem,ya],by simp only [go_sem,ya]⟩
 ·left
  rw [yM (fun q=>w (hw.1 q))] at e3;have aAR:N<2^172:=by
   by_cases q:N<2^172
   ·exact q
   ·exact absurd (hN.whole (by omega)) w
  obtain ⟨b',e4,bC⟩:=Qp hN (vc aG (ajc 173 276 (by decide)));have Cb:j<149:=by
   rcases wX j 149 with q | q
   ·exact q
   ·have:j=149:=by omega
    subst this;exact absurd (Nat.mod_eq_zero_of_dvd hj) w
  have wk:IntKind.wrap .i64 (k-1)=k-1:=wrap64 (by omega) (by omega);simp only [go_sem,ya,GY,e1,e2,e3,yP,e4,wk];refine ⟨_,d-1,rfl,by omega,b',2*N,j+1,k-1,by omega,bC,by rw [yZ,xg (2^j)];exact Nat.mul_dvd_mul_left 2 hj,by omega,?_,by omega,by omega,?_⟩
  ·rw [<-hq,xv]
   have:p2 k=p2 1*p2 (k-1):=by rw [<-dU,show 1+(k-1)=k by omega]
   rw [this,oc];show (2:Rat)*(N:Rat)*p2 (k-1)=(N:Rat)*(2*p2 (k-1))
   grind
  ·simp only [go_sem,ya,aB,ji,jl]<;>rfl
def aAW (WY:Has P L 430 L5) {b:Nat} {s:Bool} {M:Nat} (hb:Fl b s M) (hs:s=true->M=0):∃(n:Nat) (k:Int),ai P L 430 [.aw .f32 b] (.aa [ab n,ab k])/\n<2^24/\-298<=k/\k<=277/\((n:Nat):Rat)*p2 k=lK s M:=by
 have l1:=aw1 (P:=P) (L:=L) hs hb.lt M;unfold ai;rw [aF WY];simp only [go_sem,L5];generalize hq:D P L (.loop [0,4] GX) _=q;obtain ⟨ex,st,rfl,tm,ct,b',N,k,rfl,rfl,hN,Yt,aG,hk,t0,t4⟩:=b6 hq l1 ⟨b,M,0,rfl,hb,by rw [vL,ym],fun _=>rfl,by simp only [go_sem,ya,aB,ji,jl]<;>rfl⟩
 simp only [go_sem,aB,t0,t4,ji,jl];generalize hq:D P L (.loop [0,4] GY) _=q;have l2:=aw2 (P:=P) (L:=L) (s:=s) (M:=M) 149;obtain ⟨ex,st,rfl,tm,ct,b2,N2,k2,rfl,rfl,Yu,hw,oe,rn,k3,k4,u0,u4⟩:=b6 hq l2 ⟨b',N,0,k,rfl,hN,by rw [vL];exact Nat.one_dvd N,aG,by rw [<-Yt,xv,eI],by omega,by omega,by simp only [go_sem,ya,aB,ji,jl]<;>rfl⟩
 have e1:=KH Yu (vc oe (by decide));have hn:N2/2^149<2^24:=by rw [xy (y9 _),<-xn];exact oe
 have hx:=afP (s:=s) rn hw;have oL:bc s (N2/2^149)=(N2/2^149:Nat):=by
  cases s with
  | false=>rfl
  | true=>
   have rz:=hs rfl
   have:N2=0:=by
    rw [rz] at rn;have hp:=Lh k2;have h0:((N2:Nat):Rat)*p2 k2=0:=rn;rcases ybo.1 h0 with q | q
    ·exact_mod_cast q
    ·exact absurd q hp
   subst this;rfl
 rw [oL] at hx e1;refine ⟨N2/2^149,k2,?_,hn,k3,k4,hx⟩;simp only [go_sem,ya,aB,u0,u4,ji,jl,e1];rfl
end
end VE
end
section
namespace VE
open Go (IntKind)
def afR:RT (2:Rat)=[50]:=by decide
def QY {b:Nat} {s:Bool} {M:Nat} (h:Fl b s M):Hq 2500 (lK s M):=by
 have hM:=h.lt;have k1:Hq 278 (((bc s M:Int)):Rat):=abo 278 (ahe 278 277 hM (by decide)) (by decide);exact (k1.mul (sG (-149) (by decide))).mono (by decide)
def as0 (M:Nat):lK true M= -lK false M:=by
 unfold lK bc;rw [yG rfl,yv (by decide),Rat.intCast_neg];grind
section
variable {P:aK} {L:Lib}
def QZ (h:Fy0 P L) {k:Int} (h1: -300<=k) (h2:k<=300):ai P L 389 [.str [50],ab k] (.str (RT (p2 k))):=by
 rw [<-afR];by_cases c:k<0
 ·obtain ⟨n,rfl⟩:∃n:Nat,k= -(n:Int):=⟨k.natAbs,by omega⟩
  have:=ayP h.toRn h.Iu h.B6 G3 (k:=n) (by omega) (by omega) (by omega) (by decide) (by decide)
  rwa [aw0] at this
 ·obtain ⟨n,rfl⟩:∃n:Nat,k=n:=⟨k.natAbs,by omega⟩
  have:=ajy h.toRn h.B6 G3 (k:=n) (by omega) (by omega)
  rwa [ahf] at this
def afS (h:Fy P L) {b:Nat} {s:Bool} {M:Nat} (hb:Fl b s M) (hs:s=true->M=0):ai P L 429 [.aw .f32 b] (.str (RT (lK s M))):=by
 obtain ⟨n,k,e1,hn,k1,k2,hq⟩:=aAW h.WY hb hs;have e0:=ag2 hb Fl.zero;have aG:¬bc s M<bc false 0:=by
  cases s with
  | false=>show ¬(M:Int)<0;omega
  | true=>rw [hs rfl];decide
 rw [yM aG] at e0;have e2:=aha h.toRm h.Nk (n:=(n:Int)) (by omega);have e3:=QZ h.toFy0 (k:=k) (by omega) (by omega);have kn:Hq 25 (((n:Int):Int):Rat):=⟨by rw [vI];unfold Bd;rw [xm];omega,by rw [vj];unfold Bd;decide⟩
 have e4:=Hm h.toRn kn (sG k (by omega)) (by decide);have bH:(((n:Nat):Int):Rat)*p2 k=lK s M:=hq;rw [bH] at e4;unfold ai at e1 e2 e3 e4;unfold ai;rw [aF h.ajz];simp only [go_sem,ya,L4,e0,pc,e1,iU,iS,iT,e2,e3,e4]
def aAX (h:Fy P L) {b:Nat} {s:Bool} {M:Nat} (hb:Fl b s M):ai P L 429 [.aw .f32 b] (.str (RT (lK s M))):=by
 by_cases hs:s=true->M=0
 ·exact afS h hb hs
 ·have kH:s=true:=Classical.byContradiction fun q=>hs fun q'=>absurd q' q
  have hM:M≠0:=fun q=>hs fun _=>q
  subst kH;obtain ⟨b',e1,bC⟩:=awZ hb hM;have e2:=afS h bC (fun q=>by cases q);have e3:=QW h.toRp (QY bC) (by decide);rw [<-as0] at e3;have e0:=ag2 hb Fl.zero;have aG:bc true M<bc false 0:=by show -(M:Int)<0;omega
  rw [xa aG] at e0;unfold ai at e2 e3;unfold ai;rw [aF h.ajz];simp only [go_sem,ya,L4,e0,e1,pc,e2,e3]
end
end VE
end
section
namespace VE
open Go (IntKind)
section
variable {P:aK} {L:Lib}
def aAY (h:Rm P L) (WZ:Has P L 340 HQ) (Ak:Has P L 338 BP) {n:Nat} (hn:n<1000000000):ai P L 340 [.str (RT ((n:Int):Rat))] (.aa [ab n,.bool true]):=by
 have kz:Hq 40 ((n:Int):Rat):=⟨by rw [vI];unfold Bd;omega,by rw [vj];unfold Bd;omega⟩;have e0:=ajx h Ak kz (by omega);rw [show ((n:Int):Rat).den=1 from vj ..,xa rfl] at e0;have hl:(ax n).length<=9:=oV (k:=8) (by omega);obtain ⟨x,e1,hx⟩:=WR h.toRb (n:=(n:Int)) (by simp;omega);rw [Qr] at e0 ⊢;rw [kQ] at e0 e1 ⊢;obtain ⟨w,l,rfl,hw,hd,hz,hv⟩:=hx;rw [xm] at hv;have oy:l.length<=1:=PY hd hz (by omega);have eL:decide ((n:Int)<0)=false:=yM (by omega);rw [eL] at e1;unfold ai at e0 e1 ⊢;rw [aF WZ]
 match l,oy,hw,hv,hd with
 | [],_,hw,hv,hd=>
  have h0:n=0:=by rw [<-hv];rfl
  subst h0;simp only [go_sem,ya,yd,HQ,e0,yN,show ¬(20:Int)<((ax 0).length:Int) by decide,aY,e1,bt,hw.len,hw.pu,hw.one,er,bI,yh,cx,yR,show ((0:Nat):Int)-1= -1 from rfl,show IntKind.wrap .i64 (-1)= -1 from rfl,Dc,aB,Qa,show ¬(0:Int)<=-1 by decide];rfl
 | [d],_,hw,hv,hd=>
  have gd:=iV.1 hd;have sW:d=(n:Int):=by simp [dv] at hv;omega
  subst sW;have ei:=hw.cd (i:=0) (by simp);simp only [List.getElem_cons_zero] at ei
  simp only [go_sem,ya,yd,HQ,e0,yN,show ¬(20:Int)<((ax n).length:Int) by omega,aY,e1,bt,hw.len,hw.pu,hw.one,er,bI,yh,cx,List.length_cons,yR,show ((1:Nat):Int)-1=0 from rfl,show IntKind.wrap .i64 0=0 from rfl,Dc,aB,Qa,show (0:Int)<=0 by decide,yo,ei,yr,show ¬(9223372036:Int)<0 by decide,show ¬(0:Int)< -9223372036 by decide,show ¬(0:Int)=9223372036 by decide,show ¬(0:Int)= -9223372036 by decide,Int.zero_mul,Int.zero_add,wrapN (n:=n) (by omega),show (0:Int)-1= -1 from rfl,show IntKind.wrap .i64 (-1)= -1 from rfl,show ¬(0:Int)<=-1 by decide];rfl
end
end VE
end
section
namespace VE
open Go (IntKind)
open Ieee
def ayQ {b M:Nat} {s:Bool} (h:Fl b s M) (h0:M≠0):∃b',binOp .sub (.aw .f32 0) (.aw .f32 b)=some (.aw .f32 b')/\Fl b' (!s) M:=by
 obtain ⟨m,e,h1,rfl⟩:=h.ex;obtain ⟨b1,b2,b3,b4⟩:=h1.b;have m0:m≠0:=fun q=>h0 (by unfold cz;rw [q,wh])
 obtain ⟨m',e',k1,k2,k3⟩:=zb (n:=m) (k:=e) m0 b2 b1 b4 (m0:=cz m e) (e0:= -149) (!s) (by
  rw [oZ b1]
  have:p2 149*p2 (-149)=1:=by rw [<-dU];exact lY
  rw [xU,this,we])
 have e1:single.sub 0 b=some (single.write (.number (!s) (cz m e) (-149))):=by
  unfold Format.sub;rw [h1.read,show single.read 0= .number false 0 (-149) by decide];show some (single.write (.number (if signed false 0 ((-149:Int)-min (-149) e).toNat+signed (!s) m (e-min (-149) e).toNat=0 then false&&(!s) else decide (signed false 0 ((-149:Int)-min (-149) e).toNat+signed (!s) m (e-min (-149) e).toNat<0)) (signed false 0 ((-149:Int)-min (-149) e).toNat+signed (!s) m (e-min (-149) e).toNat).natAbs (min (-149) e)))=_
  have hm:min (-149) e= -149:=by omega
  have hs:signed false 0 ((-149:Int)-min (-149) e).toNat+signed (!s) m (e-min (-149) e).toNat=bc (!s) (cz m e):=by
   rw [hm];unfold signed cz bc;simp only [yC,xj,ue,wh];rw [show e - -149=e+149 by omega];cases s<;>simp
  rw [hs,hm];have ha:(bc (!s) (cz m e)).natAbs=cz m e:=by unfold bc;split<;>omega
  rw [ha,yv (by unfold bc;split<;>omega)]
  congr 3
  unfold bc
  cases s with
  | true=>exact yM (by simp)
  | false=>exact xa (by simp;omega)
 refine ⟨_,?_,m',e',k1,(PW k1.b.1 b1 k3).symm⟩;show (match single.sub 0 b with | some b=>some (AV.aw .f32 b) | none=>none)=_
 rw [e1]
section
variable {P:aK} {L:Lib}
def aw3 {n i:Nat} (hn:n<=16777216) (hi:i<=251\/(i<=252/\n<16777216)):n*2^i<2^276:=by
 rcases hi with h | ⟨h,h2⟩
 ·have:=wa hn (yT (n:=2) (by decide) h)
  exact xB this (Qo 16777216 25 251 276 (by decide) rfl)
 ·have:=wa (show n<=16777215 by omega) (yT (n:=2) (by decide) h)
  exact xB this (Qo 16777215 24 252 276 (by decide) rfl)
def aw4 {n:Nat} {k:Int} (hn:n<=16777216) (hk:k<=104) (AS:n=16777216->k<104):
  ∀(d:Nat) (st:St),(∃(b i:Nat),(i:Int)+d=max k 0/\Fl b false (n*2^(149+i))/\aQ [1,5,6] st=⟨[(1,ab k),(5,.aw .f32 b),(6,ab i)],[],0,0⟩)->
   ∃ex s',D P L (.loop [1,5,6] GV) st=some (ex,s')/\∃tm ct b,s'=⟨tm,[],ct,0⟩/\ex= .exit 0/\Fl b false (n*2^(149+(max k 0).toNat))/\aj tm 1=ab k/\aj tm 5= .aw .f32 b:=by
 intro dq sq;generalize bq:aQ [1,5,6] sq=s0;revert bq s0 sq dq;apply dh;rintro d st ⟨b,i,hd,hN,rfl⟩;by_cases c:(i:Int)<k
 ·left
  obtain ⟨b',e1,bC⟩:=Qp hN (aw3 hn (by
   by_cases q:n=16777216
   ·have:=AS q;left;omega
   ·right;omega))
  have wi:IntKind.wrap .i64 ((i:Int)+1)=((i+1:Nat):Int):=wrap64 (by omega) (by omega);simp only [go_sem,ya,GV,c,yo,e1,wi]
  refine ⟨_,d-1,rfl,by omega,b',i+1,by omega,by
   rw [show 149+(i+1)=(149+i)+1 by omega,yZ,<-xd,xg];exact bC,?_⟩
  simp only [go_sem,ya,aB,ji,jl]<;>rfl
 ·right
  have hi:(max k 0).toNat=i:=by omega
  simp only [go_sem,ya,GV,c,yr];exact ⟨_,_,rfl,by simp,_,_,b,rfl,rfl,by rw [hi];exact hN,by simp only [go_sem,ya],by simp only [go_sem,ya]⟩
def aw5 {n:Nat} {k:Int} (fC: -149<=k) (hk:k<=104):
  ∀(d:Nat) (st:St),(∃(b:Nat) (i:Int),i-d=min k 0/\i<=0/\Fl b false (n*2^(149+i+max k 0).toNat)/\aQ [1,5,7] st=⟨[(1,ab k),(5,.aw .f32 b),(7,ab i)],[],0,0⟩)->
   ∃ex s',D P L (.loop [1,5,7] GW) st=some (ex,s')/\∃tm ct b,s'=⟨tm,[],ct,0⟩/\ex= .exit 2/\Fl b false (n*2^(149+k).toNat)/\aj tm 5= .aw .f32 b:=by
 intro dq sq;generalize bq:aQ [1,5,7] sq=s0;revert bq s0 sq dq;apply dh;rintro d st ⟨b,i,hd,oM,hN,rfl⟩;by_cases c:k<i
 ·left
  obtain ⟨t,ht⟩:∃t,(149+i+max k 0).toNat=t+1:=⟨(148+i+max k 0).toNat,by omega⟩;rw [ht,yZ,<-xd] at hN;obtain ⟨b',e1,bC⟩:=Qq hN (by omega);rw [Nat.mul_div_cancel _ (by decide)] at bC;have wi:IntKind.wrap .i64 (i-1)=i-1:=wrap64 (by omega) (by omega);simp only [go_sem,ya,GW,c,yo,e1,wi];refine ⟨_,d-1,rfl,by omega,b',i-1,by omega,by omega,by rw [show (149+(i-1)+max k 0).toNat=t by omega];exact bC,?_⟩
  simp only [go_sem,ya,aB,ji,jl]<;>rfl
 ·right
  simp only [go_sem,ya,GW,c,yr];exact ⟨_,_,rfl,by simp,_,_,b,rfl,rfl,by rw [show (149+k).toNat=(149+i+max k 0).toNat by omega];exact hN,by simp only [go_sem,ya]⟩
def ajA (Nn:Has P L 390 L2) {n:Nat} {k:Int} (hn:n<=16777216) (fC: -149<=k) (hk:k<=104) (AS:n=16777216->k<104):∃b,ai P L 390 [ab n,ab k] (.aw .f32 b)/\Fl b false (n*2^(149+k).toNat):=by
 obtain ⟨b0,e0,da⟩:=PX (n:=(n:Int)) (by omega);rw [xm,yM (show ¬(n:Int)<0 by omega)] at da;have l0:=aw4 (P:=P) (L:=L) hn hk AS (max k 0).toNat;have l1:=aw5 (P:=P) (L:=L) (n:=n) fC hk (-(min k 0)).toNat;unfold ai;rw [aF Nn];simp only [go_sem,ya,L2,e0];generalize hq:D P L (.loop [1,5,6] GV) _=q;obtain ⟨ex,st,rfl,tm,ct,b1,rfl,rfl,jP,t1,t5⟩:=b6 hq l0 ⟨b0,0,by omega,da,by simp only [go_sem,ya,aB,ji,jl]<;>rfl⟩
 simp only [go_sem,aB,t1,t5,ji,jl];generalize hq:D P L (.loop [1,5,7] GW) _=q;obtain ⟨ex,st,rfl,tm,ct,b2,rfl,rfl,N4,u5⟩:=b6 hq l1 ⟨b1,0,by omega,by omega,by rw [show (149+(0:Int)+max k 0).toNat=149+(max k 0).toNat by omega];exact jP,by simp only [go_sem,ya,aB,ji,jl]<;>rfl⟩
 refine ⟨b2,?_,N4⟩;simp only [go_sem,aB,u5,ji,jl];rfl
end
end VE
end
section
namespace VE
open Go (IntKind)
open Ieee
def OP (q:Rat):0<=bL q.num↔0<=q:=by
 rw [<-tW];unfold bL;constructor
 ·intro h;split at h<;>omega
 ·intro h;split
  ·omega
  ·split<;>omega
def A0 (q:Rat):bL q.num<0↔q<0:=by
 have h:=OP q;constructor
 ·intro c;exact vA.1 fun q'=>by have:=h.2 q';omega
 ·intro c;exact yaP.1 fun q'=>absurd (h.1 q') (vA.2 c)
def O8 (q:Rat):(-q).num= -q.num:=rfl
def ZD (q:Rat):0<bL q.num↔0<q:=by
 have h:=A0 (-q);rw [O8] at h;have h2:0<bL q.num↔bL (-q.num)<0:=by
  unfold bL;constructor
  ·intro c;split at c
   ·omega
   ·split at c
    ·omega
    ·rw [yG (by omega)];decide
  ·intro c;split at c
   ·rw [yv (by omega),yv (by omega)];decide
   ·split at c<;>omega
 rw [h2,h];constructor
 ·intro c;grind
 ·intro c;grind
def ZE (q:Rat):bL q.num=0↔q=0:=by
 have h1:=ZD q;have h2:=A0 q;constructor
 ·intro c;have a1:¬0<q:=fun x=>by have:=h1.2 x;omega
  have a2:¬q<0:=fun x=>by have:=h2.2 x;omega
  exact Rat.le_antisymm (vd.1 a1) (vd.1 a2)
 ·rintro rfl;decide
structure KP (a:Rat) (k:Int):Prop where
 lo: -149<=k
 lt:a*p2 (-k)<16777216
 ge:8388608<=a*p2 (-k)\/k= -149
def nR (y:Rat):Nat:=if et<y-(y.floor.toNat:Rat)\/(y-(y.floor.toNat:Rat)=et/\y.floor.toNat%2=1) then y.floor.toNat+1 else y.floor.toNat
def abp (a:Rat) (k:Int):a*p2 (-(k+1))=a*p2 (-k)*et:=by
 rw [show -(k+1)= -k+ -1 by omega,dU]
 have:p2 (-1)=et:=by
  have h:=Dd 1;rw [oc] at h;have h2:et*2=1:=by decide+kernel
  have h3:p2 (-1)*2*et=et:=by rw [h,vR]
  rw [xU,ybm 2 et,h2,we] at h3;exact h3
 rw [this];grind
def aau (a:Rat) (k:Int):a*p2 (-(k-1))=a*p2 (-k)*2:=by
 rw [show -(k-1)= -k+1 by omega,dU,oc];grind
def aw6:RT (16777216:Rat)=[49,54,55,55,55,50,49,54]:=by decide+kernel
def aw7:RT (8388608:Rat)=[56,51,56,56,54,48,56]:=by decide+kernel
def KU {n:Nat} {K:Nat} (h:n<2^K) (hK:1<=K):Hq K ((n:Nat):Rat):=
 ⟨by show Bd K (((n:Nat):Int):Rat).num;rw [vI];unfold Bd;rw [xm];exact h,by show Bd K ((((n:Nat):Int):Rat).den:Int);rw [vj];unfold Bd;exact Nat.one_lt_two_pow (by omega)⟩
structure Fz (P:aK) (L:Lib):Prop extends Fy0 P L where
 B4:Has P L 315 LY
 WU:Has P L 319 LZ
 WX:Has P L 336 HP
 Ak:Has P L 338 BP
 D5:Has P L 339 BQ
 WZ:Has P L 340 HQ
 D6:Has P L 388 cL
 Nn:Has P L 390 L2
section
variable {P:aK} {L:Lib}
def aw8 (h:Fz P L) {a:Rat} (ka:Hq 2600 a) (ha:a<p2 128):
  ∀(d:Nat) (st:St),(∃(i:Nat),i+d=104/\(i≠0->8388608<=a*p2 (-(i:Int)))/\aQ [0,6] st=⟨[(0,.str (RT (a*p2 (-(i:Int))))),(6,ab i)],[],0,0⟩)->
   ∃ex s',D P L (.loop [0,6] GU) st=some (ex,s')/\∃tm ct,∃i:Nat,s'=⟨tm,[],ct,0⟩/\ex= .exit 0/\i<=104/\a*p2 (-(i:Int))<16777216/\(i≠0->8388608<=a*p2 (-(i:Int)))/\aj tm 0= .str (RT (a*p2 (-(i:Int))))/\aj tm 6=ab i:=by
 intro dq sq;generalize bq:aQ [0,6] sq=s0;revert bq s0 sq dq;apply dh;rintro d st ⟨i,hd,iv,rfl⟩;have ky:Hq 3602 (a*p2 (-(i:Int))):=(ka.mul (sG (-(i:Int)) (by omega))).mono (by decide);have kb:Hq 25 (16777216:Rat):=KU (n:=16777216) (by decide) (by decide);have e1:=Iv h.toRp h.B4 ky kb (by decide);rw [aw6] at e1;have hc:=OP (a*p2 (-(i:Int))-16777216);by_cases c:a*p2 (-(i:Int))<16777216
 ·right
  have hn:¬0<=bL (a*p2 (-(i:Int))-16777216).num:=fun q=>by have:=hc.1 q;grind
  unfold ai at e1;simp only [go_sem,GU,e1,hn,yr];exact ⟨_,_,rfl,by simp,_,_,i,rfl,rfl,by omega,c,iv,by simp only [go_sem,ya],by simp only [go_sem,ya]⟩
 ·left
  have hp:0<=bL (a*p2 (-(i:Int))-16777216).num:=hc.2 (by grind);have hi:i<104:=by
   rcases wX i 104 with q | q
   ·exact q
   ·exfalso
    have:i=104:=by omega
    subst this;have h1:a*p2 (-((104:Nat):Int))<p2 128*p2 (-((104:Nat):Int)):=(wg (jZ _)).2 ha;rw [<-dU] at h1;have h2:p2 (128+ -((104:Nat):Int))=16777216:=eI 24;rw [h2] at h1;exact c h1
  have e2:=aAP h.toRn h.WU ky (by decide);rw [<-abp] at e2;have wi:IntKind.wrap .i64 ((i:Int)+1)=((i+1:Nat):Int):=wrap64 (by omega) (by omega);unfold ai at e1 e2;simp only [go_sem,ya,GU,e1,hp,yo,e2,wi];refine ⟨_,d-1,rfl,by omega,i+1,by omega,fun _=>?_,?_⟩
  ·rw [show ((i+1:Nat):Int)=(i:Int)+1 from rfl,abp];have hh:et=1/2:=by decide+kernel
   rw [hh];grind
  ·simp only [go_sem,ya,aB]<;>rfl
def aw9 (h:Fz P L) {a:Rat} (ka:Hq 2600 a):
  ∀(d:Nat) (st:St),(∃(k:Int),k-d= -149/\k<=104/\a*p2 (-k)<16777216/\aQ [0,6] st=⟨[(0,.str (RT (a*p2 (-k)))),(6,ab k)],[],0,0⟩)->
   ∃ex s',D P L (.loop [0,6] C5) st=some (ex,s')/\∃tm ct,∃k:Int,s'=⟨tm,[],ct,0⟩/\ex= .exit 2/\KP a k/\k<=104/\aj tm 0= .str (RT (a*p2 (-k)))/\aj tm 6=ab k:=by
 intro dq sq;generalize bq:aQ [0,6] sq=s0;revert bq s0 sq dq;apply dh;rintro d st ⟨k,hd,hk,aG,rfl⟩;have ky:Hq 3602 (a*p2 (-k)):=(ka.mul (sG (-k) (by omega))).mono (by decide);have kb:Hq 24 (8388608:Rat):=KU (n:=8388608) (by decide) (by decide);have e1:=Iv h.toRp h.B4 ky kb (by decide);rw [aw7] at e1;have hc:=A0 (a*p2 (-k)-8388608);unfold ai at e1;by_cases c:a*p2 (-k)<8388608
 ·have hn:bL (a*p2 (-k)-8388608).num<0:=hc.2 (by grind);by_cases c2: -149<k
  ·left
   have e2:=Hm h.toRn ky G3 (by decide);rw [afR,<-aau] at e2;have wi:IntKind.wrap .i64 (k-1)=k-1:=wrap64 (by omega) (by omega);unfold ai at e2;simp only [go_sem,ya,C5,e1,hn,c2,yo,e2,wi];refine ⟨_,d-1,rfl,by omega,k-1,by omega,by omega,by rw [aau];grind,?_⟩
   simp only [go_sem,ya,aB]<;>rfl
  ·right
   simp only [go_sem,ya,C5,e1,hn,c2,yo,yr];exact ⟨_,_,rfl,by simp,_,_,k,rfl,rfl,⟨by omega,aG,.inr (by omega)⟩,hk,by simp only [go_sem,ya],by simp only [go_sem,ya]⟩
 ·right
  have hn:¬bL (a*p2 (-k)-8388608).num<0:=fun q=>by have:=hc.1 q;grind
  simp only [go_sem,ya,C5,e1,hn,yr];exact ⟨_,_,rfl,by simp,_,_,k,rfl,rfl,⟨by omega,aG,.inl (vd.1 c)⟩,hk,by simp only [go_sem,ya],by simp only [go_sem,ya]⟩
end
end VE
end
section
namespace VE
open Go (IntKind)
open Ieee
def axa {a:Rat} {k j:Int} (h1:KP a k) (h2:KP a j):k=j:=by
 have key:∀{k j:Int},KP a k->KP a j->k<j->False:=fun {k j} h1 h2 aG=>by
  rcases h2.ge with g | g
  ·obtain ⟨d,hd⟩:∃d:Nat,j=k+1+d:=⟨(j-k-1).toNat,by omega⟩;have e:a*p2 (-k)=a*p2 (-j)*p2 ((d+1:Nat):Int):=by
    rw [xU,<-dU,show -j+((d+1:Nat):Int)= -k by omega]
   have h3:=h1.lt;rw [e,eI] at h3;have h4:(2:Rat)<=((2^(d+1):Nat):Rat):=by
    have:2<=2^(d+1):=by
     have:=yT (n:=2) (by decide) (show 1<=d+1 by omega)
     simpa using this
    exact_mod_cast this
   have h5:(8388608:Rat)*2<=a*p2 (-j)*((2^(d+1):Nat):Rat):=by
    have q1:(8388608:Rat)*2<=(a*p2 (-j))*2:=wL g (by decide);have q2:(a*p2 (-j))*2<=(a*p2 (-j))*((2^(d+1):Nat):Rat):=wP h4 (yao (by decide) g);exact yao q1 q2
   grind
  ·have:=h1.lo;omega
 rcases vU k j with c | c | c
 ·exact (key h1 h2 c).elim
 ·exact c
 ·exact (key h2 h1 c).elim
def NF (a:Rat) (o:Option Nat):Prop:=
 (p2 128<=a/\o=none)\/(a<p2 128/\∃k,KP a k/\k<=104/\((nR (a*p2 (-k))=16777216/\k=104/\o=none)\/(¬(nR (a*p2 (-k))=16777216/\k=104)/\o=some (nR (a*p2 (-k))*2^(149+k).toNat))))
def axb {a:Rat} {o q:Option Nat} (h1:NF a o) (h2:NF a q):o=q:=by
 rcases h1 with ⟨a1,rfl⟩ | ⟨a1,k,k1,k2,k3⟩
 ·rcases h2 with ⟨_,rfl⟩ | ⟨b1,_⟩
  ·rfl
  ·exact absurd a1 (vA.2 b1)
 ·rcases h2 with ⟨b1,rfl⟩ | ⟨b1,j,j1,j2,j3⟩
  ·exact absurd b1 (vA.2 a1)
  ·have:=axa k1 j1
   subst this;rcases k3 with ⟨x1,x2,rfl⟩ | ⟨x1,rfl⟩
   ·rcases j3 with ⟨_,_,rfl⟩ | ⟨y1,rfl⟩
    ·rfl
    ·exact absurd ⟨x1,x2⟩ y1
   ·rcases j3 with ⟨y1,y2,rfl⟩ | ⟨_,rfl⟩
    ·exact absurd ⟨y1,y2⟩ x1
    ·rfl
def O9 {y:Rat} (h:0<=y):((y.floor.toNat:Nat):Int)=y.floor:=by
 have:0<=y.floor:=ybh.2 h
 omega
def PB {y:Rat} (h0:0<=y) (h:y<16777216):y.floor.toNat<16777216:=by
 have h1:=O9 h0;have h2:((y.floor:Int):Rat)<=y:=ycd y;have h3:((y.floor:Int):Rat)<((16777216:Int):Rat):=by
  have:((16777216:Int):Rat)=16777216:=rfl
  grind
 have:y.floor<16777216:=vD.1 h3
 omega
def ahg {y:Rat} (h0:0<=y) (h:y<16777216):nR y<=16777216:=by
 have:=PB h0 h
 unfold nR;split<;>omega
def abq {y:Rat} (h0:0<=y) (h:y<et):nR y=0:=by
 have hh:et=1/2:=by decide+kernel
 have hf:y.floor=0:=by
  have h1:0<=y.floor:=ybh.2 h0;have h2:((y.floor:Int):Rat)<=y:=ycd y;have h3:((y.floor:Int):Rat)<((1:Int):Rat):=by
   rw [hh] at h
   have:((1:Int):Rat)=1:=rfl
   grind
  have:y.floor<1:=vD.1 h3
  omega
 unfold nR;rw [hf];rw [yv]
 ·rfl
 ·intro q;have e:((Int.toNat 0:Nat):Rat)=0:=rfl;rw [e] at q;rcases q with q | ⟨q,_⟩<;>grind
section
variable {P:aK} {L:Lib}
def afT (h:Fz P L) {a:Rat} (ka:Hq 2600 a) (h0:0<=a):∃o,NF a o/\(match o with
  | none=>ai P L 388 [.str (RT a)] (.aa [.aw .f32 0,.bool false])
  | some M=>∃b,Fl b false M/\ai P L 388 [.str (RT a)] (.aa [.aw .f32 b,.bool true])):=by
 have e0:=Ll h.toRm (a:=a) ka (by decide);have hs:¬bL a.num<0:=fun q=>absurd ((A0 a).1 q) (vd.2 h0)
 have e1:=QZ h.toFy0 (k:=128) (by decide) (by decide);have e2:=Iv h.toRp h.B4 ka (sG 128 (by decide)) (by decide);have c2:=OP (a-p2 128);unfold ai at e0 e1 e2;by_cases c:p2 128<=a
 ·refine ⟨none,.inl ⟨c,rfl⟩,?_⟩;have hp:0<=bL (a-p2 128).num:=c2.2 (by grind);show ai P L 388 _ _
  unfold ai;rw [aF h.D6];simp only [go_sem,ya,cL,e0,hs,yr,e1,e2,hp,yo];rfl
 ·have ha:a<p2 128:=vA.1 c;have hp:¬0<=bL (a-p2 128).num:=fun q=>by have:=c2.1 q;grind
  have e3:=QZ h.toFy0 (k:= -151) (by decide) (by decide);have e4:=Iv h.toRp h.B4 ka (sG (-151) (by decide)) (by decide);have c4:=A0 (a-p2 (-151));unfold ai at e3 e4;by_cases cs:a<p2 (-151)
  ·have hl:bL (a-p2 (-151)).num<0:=c4.2 (by grind);have hy:a*p2 149<et:=by
    have h1:a*p2 149<p2 (-151)*p2 149:=(wg (jZ _)).2 cs;rw [<-dU] at h1;have h2:p2 (-151+149)*4=1:=by
     have:=Dd 2
     rw [show p2 2=4 from eI 2] at this;exact this
    have hh:et=1/2:=by decide+kernel
    rw [hh];grind
   have fm:0<=a*p2 149:=tX h0 (vm (jZ _));have hn:=abq fm hy;refine ⟨some 0,.inr ⟨ha,-149,⟨by omega,?_,.inr rfl⟩,by omega,.inr ⟨?_,?_⟩⟩,0,Fl.zero,?_⟩
   ·have hh:et=1/2:=by decide+kernel
    rw [hh] at hy;show a*p2 149<16777216
    grind
   ·intro q;exact absurd q.2 (by decide)
   ·show some 0=some (nR (a*p2 149)*_)
    rw [hn,wh]
   ·unfold ai;rw [aF h.D6];simp only [go_sem,ya,cL,e0,hs,yr,e1,e2,hp,e3,e4,hl,yo];rfl
  ·have hl:¬bL (a-p2 (-151)).num<0:=fun q=>by have:=c4.1 q;grind
   have l0:=aw8 h ka ha 104
   have go:∀(k:Int),KP a k->k<=104->∃o,NF a o/\(match o with
     | none=>cX cL.cZ (D P L (bO 6 cL.body) ⟨[(0,.str (RT (a*p2 (-k)))),(6,ab k)],[],0,0⟩)=some (.aa [.aw .f32 0,.bool false])
     | some M=>∃b,Fl b false M/\cX cL.cZ (D P L (bO 6 cL.body) ⟨[(0,.str (RT (a*p2 (-k)))),(6,ab k)],[],0,0⟩)=some (.aa [.aw .f32 b,.bool true])):=by
    intro k hk gU;have fm:0<=a*p2 (-k):=tX h0 (vm (jZ _));have a6:=hk.lo;have ky:Hq 3602 (a*p2 (-k)):=(ka.mul (sG (-k) (by omega))).mono (by decide);have aG:=hk.lt;have aGS:=ahg fm aG;have CB:∀{o:Option Nat},((nR (a*p2 (-k))=16777216/\k=104/\o=none)\/(¬(nR (a*p2 (-k))=16777216/\k=104)/\o=some (nR (a*p2 (-k))*2^(149+k).toNat)))->NF a o:=fun q=> .inr ⟨ha,k,hk,gU,q⟩
    have fin:∃o,NF a o/\∀tm:Env,aj tm 6=ab k->aj tm 7=ab (nR (a*p2 (-k)))->(match o with
      | none=>cX cL.cZ (D P L (bO 9 cL.body) ⟨tm,[],0,0⟩)=some (.aa [.aw .f32 0,.bool false])
      | some M=>∃b,Fl b false M/\cX cL.cZ (D P L (bO 9 cL.body) ⟨tm,[],0,0⟩)=some (.aa [.aw .f32 b,.bool true])):=by
     generalize nR (a*p2 (-k))=n at*
     by_cases z1:n=16777216
     ·by_cases z2:k=104
      ·refine ⟨none,CB (.inl ⟨z1,z2,rfl⟩),fun tm t6 t7=>?_⟩;simp only [go_sem,ya,cL,bO,aq,t6,t7,show ((n:Nat):Int)=16777216 by omega,z2,yo];rfl
      ·obtain ⟨b,e,hb⟩:=ajA (P:=P) (L:=L) h.Nn (n:=n) (k:=k) (by omega) (by omega) (by omega) (fun _=>by omega);refine ⟨some _,CB (.inr ⟨fun q=>z2 q.2,rfl⟩),fun tm t6 t7=>⟨b,hb,?_⟩⟩;have hz:((n:Nat):Int)=16777216:=by omega
       rw [hz] at e;unfold ai at e;simp only [go_sem,ya,cL,bO,aq,t6,t7,hz,z2,yo,yr,e];rfl
     ·obtain ⟨b,e,hb⟩:=ajA (P:=P) (L:=L) h.Nn (n:=n) (k:=k) (by omega) (by omega) (by omega) (fun q=>absurd q z1);refine ⟨some _,CB (.inr ⟨fun q=>z1 q.1,rfl⟩),fun tm t6 t7=>⟨b,hb,?_⟩⟩;unfold ai at e;simp only [go_sem,ya,cL,bO,aq,t6,t7,show ¬((n:Nat):Int)=16777216 by omega,yr,e];rfl
    have mb:=O9 fm;have aAZ:=PB fm aG;have e5:=aAU h.toRm h.WX h.Ak h.D5 ky (by decide);rw [<-mb] at e5;have hR:nR (a*p2 (-k))=if et<a*p2 (-k)-((a*p2 (-k)).floor.toNat:Rat)\/(a*p2 (-k)-((a*p2 (-k)).floor.toNat:Rat)=et/\(a*p2 (-k)).floor.toNat%2=1) then (a*p2 (-k)).floor.toNat+1 else (a*p2 (-k)).floor.toNat:=rfl
    generalize (a*p2 (-k)).floor.toNat=n at*
    have e6:=aAY h.toRm h.WZ h.Ak (n:=n) (by omega);have e7:=aha h.toRm h.Nk (n:=(n:Int)) (by omega);have kn:Hq 25 (((n:Nat):Int):Rat):=KU (n:=n) (by omega) (by decide);have e8:=ahd h.toRp ky kn (by decide);have kd:=ky.sub kn;have e9:=Iv h.toRp h.B4 kd WT (by decide);rw [ajv] at e9;have g1:=ZD (a*p2 (-k)-(((n:Nat):Int):Rat)-et);have g2:=ZE (a*p2 (-k)-(((n:Nat):Int):Rat)-et);have nW:(((n:Nat):Int):Rat)=(n:Rat):=rfl;have r2:Int.tmod (n:Int) 2=((n%2:Nat):Int):=by rw [xz (by omega)];omega
    have w1:IntKind.wrap .i64 ((n:Int)+1)=((n+1:Nat):Int):=wrap64 (by omega) (by omega);obtain ⟨o,ho,lB⟩:=fin;refine ⟨o,ho,?_⟩;rw [show bO 6 cL.body= .seq (aS (bO 6 cL.body)) (.seq (aS (bO 7 cL.body)) (.seq (aS (bO 8 cL.body)) (bO 9 cL.body))) from rfl];generalize bO 9 cL.body=T at lB ⊢;unfold ai at e5 e6 e7 e8 e9;generalize bL (a*p2 (-k)-(((n:Nat):Int):Rat)-et).num=σ at*
    rw [nW] at g1 g2;by_cases d1:0<σ
    ·have hn:nR (a*p2 (-k))=n+1:=by rw [hR,yG (.inl (by have:=g1.1 d1;grind))]
     rw [hn] at lB
     have:=fun tm a b=>lB tm a b
     simp only [go_sem,ya,cL,bO,aq,aS,e5,e6,iU,iS,iT,e7,e8,e9,d1,yo,w1];exact lB _ (by simp only [go_sem,ya]) (by simp only [go_sem])
    ·by_cases d2:σ=0
     ·have hq:=g2.1 d2;by_cases d3:n%2=1
      ·have hn:nR (a*p2 (-k))=n+1:=by rw [hR,yG (.inr ⟨by grind,d3⟩)]
       rw [hn] at lB;simp only [go_sem,ya,cL,bO,aq,aS,e5,e6,iU,iS,iT,e7,e8,e9,d2,eP _ _ _ (show (2:Int)≠0 by decide),r2,show ((n%2:Nat):Int)=1 by omega,ybU,yo,yr,w1];exact lB _ (by simp only [go_sem,ya]) (by simp only [go_sem])
      ·have hn:nR (a*p2 (-k))=n:=by
        rw [hR,yv];rintro (q | ⟨_,q⟩)
        ·exact d1 (g1.2 (by grind))
        ·exact d3 q
       rw [hn] at lB;simp only [go_sem,ya,cL,bO,aq,aS,e5,e6,iU,iS,iT,e7,e8,e9,d2,eP _ _ _ (show (2:Int)≠0 by decide),r2,show ¬((n%2:Nat):Int)=1 by omega,ybU,yo,yr];exact lB _ (by simp only [go_sem,ya]) (by simp only [go_sem,ya])
     ·have hn:nR (a*p2 (-k))=n:=by
       rw [hR,yv];rintro (q | ⟨q,_⟩)
       ·exact d1 (g1.2 (by grind))
       ·exact d2 (g2.2 (by grind))
      rw [hn] at lB;simp only [go_sem,ya,cL,bO,aq,aS,e5,e6,iU,iS,iT,e7,e8,e9,d1,d2,yr];exact lB _ (by simp only [go_sem,ya]) (by simp only [go_sem,ya])
   have cut:cL.body= .seq (aS cL.body) (.seq (aS (bO 0 cL.body)) (.seq (aS (bO 1 cL.body)) (.seq (aS (bO 2 cL.body)) (.seq (aS (bO 3 cL.body)) (.seq (aS (bO 4 cL.body)) (.seq (aS (bO 5 cL.body)) (bO 6 cL.body))))))):=rfl;have fin:∀{r:AV},cX cL.cZ (D P L cL.body ⟨dR 0 [.str (RT a)],[],0,0⟩)=some r->ai P L 388 [.str (RT a)] r:=fun q=>by
    unfold ai;rw [aF h.D6];exact q
   suffices hh:∃k,KP a k/\k<=104/\cX cL.cZ (D P L cL.body ⟨dR 0 [.str (RT a)],[],0,0⟩)=cX cL.cZ (D P L (bO 6 cL.body) ⟨[(0,.str (RT (a*p2 (-k)))),(6,ab k)],[],0,0⟩) by
    obtain ⟨k,k1,k2,k3⟩:=hh;obtain ⟨o,ho,hm⟩:=go k k1 k2;refine ⟨o,ho,?_⟩
    cases o with
    | none=>exact fin (k3.trans hm)
    | some M=>
     obtain ⟨b,hb,hm⟩:=hm;exact ⟨b,hb,fin (k3.trans hm)⟩
   rw [cut];generalize bO 6 cL.body=T;simp only [go_sem,ya,cL,bO,aq,aS,e0,hs,yr,e1,e2,hp,e3,e4,hl];generalize hq:D P L (.loop [0,6] GU) _=q;obtain ⟨ex,st,rfl,tm,ct,i,rfl,rfl,i1,i2,i3,t0,t6⟩:=b6 hq l0 ⟨0,by omega,fun q=>absurd rfl q,by rw [show a*p2 (-((0:Nat):Int))=a by rw [show -((0:Nat):Int)=0 by omega,lY,we]];simp only [go_sem,ya,aB]<;>rfl⟩
   simp only [go_sem,aB,t0,t6];generalize hq:D P L (.loop [0,6] C5) _=q;have l1:=aw9 (P:=P) (L:=L) h ka (a:=a) (i+149);obtain ⟨ex,st,rfl,tm,ct,k,rfl,rfl,k1,k2,u0,u6⟩:=b6 hq l1 ⟨(i:Int),by omega,by omega,i2,by simp only [go_sem,ya,aB]<;>rfl⟩
   refine ⟨k,k1,k2,?_⟩;simp only [go_sem,aB,u0,u6]
end
end VE
end
section
namespace VE
open Go (IntKind)
open Ieee
def A2 (b:Nat):bR (.aw .f32 b)= .aw .f32 b:=rfl
def dc (a:Rat):Rat:=if a<0 then -a else a
def iR (a:Rat) (M:Nat):Bool:=decide (a<0)&&decide (M≠0)
section
variable {P:aK} {L:Lib}
def aA0 (h:Fz P L) {a:Rat} (ka:Hq 2600 a):∃o,NF (dc a) o/\(match o with
  | none=>ai P L 388 [.str (RT a)] (.aa [.aw .f32 0,.bool false])
  | some M=>∃b,Fl b (iR a M) M/\ai P L 388 [.str (RT a)] (.aa [.aw .f32 b,.bool true])):=by
 by_cases c:a<0
 ·have e0:=Ll h.toRm (a:=a) ka (by decide);have hs:bL a.num<0:=(A0 a).2 c;have e1:=QW h.toRp ka (by decide);have kn:Hq 2600 (-a):=⟨by rw [O8];unfold Bd;rw [Int.natAbs_neg];exact ka.1,ka.2⟩
  obtain ⟨o,ho,hm⟩:=afT h kn (by grind);refine ⟨o,by unfold dc;rw [yG c];exact ho,?_⟩
  have ez:=Li Fl.zero Fl.zero;rw [xa rfl] at ez;unfold ai at e0 e1
  cases o with
  | none=>
   have e2:ai P L 388 [.str (RT (-a))] (.aa [.aw .f32 0,.bool false]):=hm;show ai P L 388 _ _
   unfold ai at e2;unfold ai;rw [aF h.D6];simp only [go_sem,ya,cL,e0,hs,yo,e1,e2,iU,iS,iT,A2,ez];rfl
  | some M=>
   obtain ⟨b,hb,e2⟩:=hm;show ∃b,Fl b (iR a M) M/\ai P L 388 _ _
   have hz:=Li hb Fl.zero;unfold ai at e2;by_cases m0:M=0
   ·subst m0;rw [xa rfl] at hz;refine ⟨0,by rw [show iR a 0=false by unfold iR;simp];exact Fl.zero,?_⟩
    unfold ai;rw [aF h.D6];simp only [go_sem,ya,cL,e0,hs,yo,e1,e2,iU,iS,iT,A2,hz];rfl
   ·rw [yM (show ¬bc false M=bc false 0 by show ¬(M:Int)=((0:Nat):Int);omega)] at hz;obtain ⟨b',e3,bC⟩:=ayQ hb m0;refine ⟨b',by rw [show iR a M=true by unfold iR;rw [xa c,xa m0];rfl];exact bC,?_⟩
    unfold ai;rw [aF h.D6];simp only [go_sem,ya,cL,e0,hs,yo,e1,e2,iU,iS,iT,A2,hz,e3];rfl
 ·obtain ⟨o,ho,hm⟩:=afT h ka (vd.1 c);refine ⟨o,by unfold dc;rw [yv c];exact ho,?_⟩
  cases o with
  | none=>exact hm
  | some M=>
   obtain ⟨b,hb,e⟩:=hm;exact ⟨b,by rw [show iR a M=false by unfold iR;rw [yM c];rfl];exact hb,e⟩
end
end VE
end
section
namespace VE
open Go (IntKind)
section
variable {P:aK} {L:Lib}
def ahh (h:Tx P L) {v:AV} {z:Int} {K:Nat} (hv:ck v z) (hz:Bd K z) (hK:K<=4000000000) (lG:z≠0):∃B:Nat,ai P L 172 [v] (ab B)/\z.natAbs<2^B/\0<B/\2^(B-1)<=z.natAbs/\B<=K+64:=by
 obtain ⟨s,w,rfl,hn⟩:=hv;obtain ⟨l,u⟩:=hn.aJ;obtain ⟨r,e1,hr⟩:=sC h.toNu hn;obtain ⟨ws,hw,g,nz',hb⟩:=hr;have hl:ws.length<=K/64+1:=mP nz' hb (yE hz (aqy K));unfold ai at e1 ⊢;by_cases h0:ws=[]
 ·subst h0;exact absurd (show z.natAbs=0 by rw [<-hb];rfl) (by omega)
 ·have hp:0<ws.length:=List.length_pos_iff.2 h0;have mF:=Kf nz' h0;have AG:=fY (show 0<18446744073709551616 by decide) g (ws.length-1);have ei:=hw.cd (i:=ws.length-1) (by omega);have dY:=iH (b:=18446744073709551616) (l:=ws) (ws.length-1);have Ir:=kZ (zA g (ws.length-1));rw [List.length_take,xA (by omega)] at Ir;rw [show ws.length-1+1=ws.length by omega,List.take_of_length_le (yB _)] at dY;generalize ws.getD (ws.length-1) 0=top at*
  have e2:=awA (P:=P) (f:=D P L) h.az5 AG;have hle:=PV 64 top;have Ln:=asE hp (uJ mF) AG dY Ir;obtain ⟨q1,q2,q3⟩:=OL 64 top AG;obtain ⟨q4,q5⟩:=q3 (uJ mF);have a6:2^(64*(ws.length-1)+dG 64 top-1)<=z.natAbs:=by
   rw [show 64*(ws.length-1)+dG 64 top-1=64*(ws.length-1)+(dG 64 top-1) by omega,xn,Nat.pow_mul,<-hb,dY];exact Nat.le_trans (Nat.mul_le_mul_left _ q5) (Nat.le_add_left _ _)
  rw [hb] at Ln;refine ⟨64*(ws.length-1)+dG 64 top,?_,Ln,by omega,a6,by omega⟩;rw [aF h.az6]
  simp only [go_sem,ya,yd,Rz,aY,cf,b5,u.pu,u.an,u.one,e1,hw.len,show ¬(ws.length:Int)=0 by omega,show (ws.length:Int)-1=((ws.length-1:Nat):Int) by omega,wrapN (n:=ws.length-1) (by omega),show (64:Int)*((ws.length-1:Nat):Int)=((64*(ws.length-1):Nat):Int) by omega,wrapN (n:=64*(ws.length-1)) (by omega),ei,e2,show ((64*(ws.length-1):Nat):Int)+((dG 64 top:Nat):Int)=((64*(ws.length-1)+dG 64 top:Nat):Int) from rfl,wrapN (n:=64*(ws.length-1)+dG 64 top) (by omega)]
def aA1 (h:Fr' P L) (Iw:Has P L 150 Hz) (Ix:Has P L 229 Dx) {v:AV} {y:Rat} (hv:dC v y) (ky:Hq 5000 y) (h0:0<=y) (aG:y<16777216):ai P L 229 [v] (ab (nR y)):=by
 have mb:=O9 h0;have aAZ:=PB h0 aG;have hR:nR y=if et<y-(y.floor.toNat:Rat)\/(y-(y.floor.toNat:Rat)=et/\y.floor.toNat%2=1) then y.floor.toNat+1 else y.floor.toNat:=rfl
 obtain ⟨r,e1,hr⟩:=az4 h hv ky (by decide);rw [<-mb] at hr;generalize y.floor.toNat=n at*
 have e2:=aAV Iw hr (by omega) (by omega);obtain ⟨q,e3,hq⟩:=M8 h hr;have kn:Hq 25 (((n:Nat):Int):Rat):=KU (n:=n) (by omega) (by decide);obtain ⟨d,e4,hd⟩:=m50 h hv hq ky (kn.mono (by decide)) (by decide);obtain ⟨o1,i1⟩:=sB h.toNu (z:=1) (by decide) (by decide);obtain ⟨o2,i2⟩:=sB h.toNu (z:=2) (by decide) (by decide);obtain ⟨hf,e5,hh⟩:=M7 h i1 i2 (by decide) (K:=2) (by unfold Bd;decide) (by unfold Bd;decide) (by decide)
 have agY:Rat.divInt 1 2=et:=by decide+kernel
 rw [agY] at hh;have kd:Hq 6000 (y-(((n:Nat):Int):Rat)):=(ky.sub kn).mono (by decide);have e6:=m71 h hd hh kd (WT.mono (by decide)) (by decide);have nW:(((n:Nat):Int):Rat)=(n:Rat):=rfl;have r2:Int.tmod (n:Int) 2=((n%2:Nat):Int):=by rw [xz (by omega)];omega
 have w1:IntKind.wrap .i64 ((n:Int)+1)=((n+1:Nat):Int):=wrap64 (by omega) (by omega);have w0:IntKind.wrap .i64 ((n:Int)+((n%2:Nat):Int))=((n+n%2:Nat):Int):=wrap64 (by omega) (by omega);obtain ⟨v1,v2,v3,v4,rfl,fE⟩:=hv.gen;obtain ⟨d1,d2,d3,d4,rfl,fd⟩:=hd.gen;obtain ⟨h1,h2,h3,h4,rfl,fh⟩:=hh.gen;obtain ⟨q1,q2,q3,q4,rfl,fq⟩:=hq.gen;obtain ⟨s,w,rfl,hn⟩:=hr;obtain ⟨l,u⟩:=hn.aJ;unfold ai at e1 e2 e3 e4 e5 e6 o1 o2;have un:=oW
 rcases (show y-(n:Rat)<et\/y-(n:Rat)=et\/et<y-(n:Rat) by
  by_cases a:y-(n:Rat)<et
  ·exact .inl a
  ·by_cases b:y-(n:Rat)=et
   ·exact .inr (.inl b)
   ·exact .inr (.inr (Rat.lt_of_le_of_ne (vd.1 a) (fun c=>b c.symm)))) with c | c | c
 ·have ir:nR y=n:=by
   rw [hR,yv];rintro (q | ⟨q,_⟩)<;>grind
  have hc:n9 (y-(((n:Nat):Int):Rat)) et= -1:=by unfold n9;rw [nW,yG c]
  rw [hc] at e6;rw [ir];unfold ai;rw [aF Ix];simp only [go_sem,ya,yd,Dx,aY,fE.an,fE.o1,fE.o2,fE.o3,fE.o4,e1,u.an,e2,e3,fq.an,e4,fd.an,fh.an,o1,o2,e5,e6,b5,bt,iU,iS,iT,cf,yu,cQ u,yh,dO,yu,uC,yr]
 ·have hc:n9 (y-(((n:Nat):Int):Rat)) et=0:=by unfold n9;rw [nW,yv (by rw [c];exact ui),yG c]
  have ir:nR y=n+n%2:=by
   rw [hR];by_cases q:n%2=1
   ·rw [yG (.inr ⟨c,q⟩),q]
   ·rw [yv (by rintro (x | ⟨_,x⟩)<;>grind)];omega
  rw [hc] at e6;rw [ir];unfold ai;rw [aF Ix];simp only [go_sem,ya,yd,Dx,aY,fE.an,fE.o1,fE.o2,fE.o3,fE.o4,e1,u.an,e2,e3,fq.an,e4,fd.an,fh.an,o1,o2,e5,e6,b5,bt,iU,iS,iT,cf,yu,cQ u,yh,dO,yu,uC,yr,yo,eP _ _ _ (show (2:Int)≠0 by decide),r2,w0]
 ·have ir:nR y=n+1:=by rw [hR,yG (.inl c)]
  have hc:n9 (y-(((n:Nat):Int):Rat)) et=1:=by
   unfold n9;rw [nW,yv (by intro x;grind),yv (by intro x;grind)]
  rw [hc] at e6;rw [ir];unfold ai;rw [aF Ix];simp only [go_sem,ya,yd,Dx,aY,fE.an,fE.o1,fE.o2,fE.o3,fE.o4,e1,u.an,e2,e3,fq.an,e4,fd.an,fh.an,o1,o2,e5,e6,b5,bt,iU,iS,iT,cf,yu,cQ u,yh,dO,yu,yo,w1]
end
end VE
end
section
namespace VE
open Go (IntKind)
open Ieee
def Gd {f:Format} {x y m n:Nat} {s t:Bool} {e j:Int} (hx:lI f x s m e) (hy:lI f y t n j):f.order x y=some (if fv s m e<fv t n j then .lt else if fv s m e=fv t n j then .eq else .gt):=by
 unfold Format.order;rw [hx.read,hy.read];unfold Datum.order;have h1:=KG (m:=m) (s:=s) (show min e j<=e by omega);have h2:=KG (m:=n) (s:=t) (show min e j<=j by omega);have hp:=jZ (min e j)
 dsimp only
 generalize signed s m (e-min e j).toNat=a at*
 generalize signed t n (j-min e j).toNat=b at*
 rw [<-h1,<-h2]
 congr 1
 have lt_iff:(a:Rat)*p2 (min e j)<(b:Rat)*p2 (min e j)↔a<b:=by
  rw [wg hp];exact vD
 have eq_iff:(a:Rat)*p2 (min e j)=(b:Rat)*p2 (min e j)↔a=b:=by
  constructor
  ·intro q;rcases vU a b with c | c | c
   ·have:=lt_iff.2 c;rw [q] at this;exact absurd this (ui)
   ·exact c
   ·have:=(wg hp).2 (vD.2 c);rw [q] at this;exact absurd this (ui)
  ·intro q;rw [q]
 rcases vU a b with c | c | c
 ·rw [yG (lt_iff.2 c)];exact Int.compare_eq_lt.2 c
 ·rw [yv (fun q=>by have:=lt_iff.1 q;omega),yG (eq_iff.2 c)];exact Int.compare_eq_eq.2 c
 ·rw [yv (fun q=>by have:=lt_iff.1 q;omega),yv (fun q=>by have:=eq_iff.1 q;omega)];exact Int.compare_eq_gt.2 c
structure Dn (b m:Nat) (e:Int):Prop where
 is:lI double b false m e
 nm:4503599627370496<=m
def rB:double.leastPlace= -1074:=by decide
def Dn.b {b m:Nat} {e:Int} (h:Dn b m e): -1074<=e/\m<9007199254740992/\e<=971:=by
 have h1:=h.is.can.lp;have h2:=h.is.can.lt;have h4:=h.is.lt;have h3:=h.nm;rw [rB] at h1;have h4:(e-double.leastPlace).toNat*4503599627370496+m<9218868437227405312:=h4;rw [rB] at h4;exact ⟨h1,h2,by omega⟩
def Dn.bits {b m:Nat} {e:Int} (h:Dn b m e):b=(e+1075).toNat*4503599627370496+(m-4503599627370496):=by
 have hb:=h.b;have hn:=h.nm
 have:=h.is.eq
 rw [this];show (e-double.leastPlace).toNat*4503599627370496+m=_
 rw [rB];obtain ⟨t,ht⟩:∃t:Nat,e=(t:Int)-1074:=⟨(e+1074).toNat,by omega⟩;rw [show (e - -1074).toNat=t by omega,show (e+1075).toNat=t+1 by omega];omega
def Dn.mk' {m:Nat} {e:Int} (h1: -1074<=e) (h2:e<=971) (h3:4503599627370496<=m) (h4:m<9007199254740992):Dn ((e+1075).toNat*4503599627370496+(m-4503599627370496)) m e:=by
 refine ⟨⟨⟨by rw [rB];exact h1,h4,.inl h3⟩,?_,?_⟩,h3⟩
 ·show (e-double.leastPlace).toNat*4503599627370496+m<9218868437227405312
  rw [rB];omega
 ·show _=(e-double.leastPlace).toNat*4503599627370496+m
  rw [rB];obtain ⟨t,ht⟩:∃t:Nat,e=(t:Int)-1074:=⟨(e+1074).toNat,by omega⟩;rw [show (e - -1074).toNat=t by omega,show (e+1075).toNat=t+1 by omega];omega
def al5 {x:Nat} (h:x<2^63):x&&&(2^63*1+(2^52-1))=x%2^52:=by
 refine Nat.eq_of_testBit_eq fun i=>?_
 rw [Nat.testBit_and,Nat.testBit_mod_two_pow,Nat.testBit_two_pow_mul_add _ (show 2^52-1<2^63 by decide)];by_cases c:i<63
 ·rw [yG c,Nat.testBit_two_pow_sub_one,Bool.and_comm]
 ·have:Nat.testBit x i=false:=Nat.testBit_lt_two_pow (yE h (yT (by decide) (by omega)))
  rw [this];simp
def amV {x:Nat} (h:x<9223372036854775808):binOp .andNot (.int .u64 (x:Int)) (.int .u64 9218868437227405312)=some (.int .u64 ((x%4503599627370496:Nat):Int)):=by
 show some (AV.int .u64 (IntKind.wrap .u64 ((xC 64 (x:Int)&&&~~~(xC 64 9218868437227405312)).toNat:Int)))=_
 rw [tz,yaH,wO,wO];rw [show ((x:Int)%((2^64:Nat):Int)).toNat=x by omega,show ((9218868437227405312:Int)%((2^64:Nat):Int)).toNat=9218868437227405312 by decide];rw [show 2^64-1-9218868437227405312=2^63*1+(2^52-1) by decide,al5 (show x<2^63 from h)]
 have:x%2^52<18446744073709551616:=xB (Nat.mod_le _ _) (by omega)
 rw [wrapM,yF this]
def al6 {x:Nat} (h:x<9223372036854775808):binOp .andNot (.int .u64 (x:Int)) (.int .u64 9223372036854775808)=some (.int .u64 (x:Int)):=by
 show some (AV.int .u64 (IntKind.wrap .u64 ((xC 64 (x:Int)&&&~~~(xC 64 9223372036854775808)).toNat:Int)))=_
 rw [tz,yaH,wO,wO];rw [show ((x:Int)%((2^64:Nat):Int)).toNat=x by omega,show ((9223372036854775808:Int)%((2^64:Nat):Int)).toNat=9223372036854775808 by decide];rw [show 2^64-1-9223372036854775808=2^63-1 by decide,tI,yF (show x<2^63 from h)];rw [wrapM,yF (by omega)]
def aqE {x:Nat} (h:x<2048):binOp .and (.int .i64 (x:Int)) (.int .i64 2047)=some (.int .i64 (x:Int)):=by
 show some (AV.int .i64 (IntKind.wrap .i64 ((xC 64 (x:Int)&&&xC 64 2047).toNat:Int)))=_
 rw [tz,wO,wO];rw [show ((x:Int)%((2^64:Nat):Int)).toNat=x by omega,show ((2047:Int)%((2^64:Nat):Int)).toNat=2^11-1 by decide,tI,yF (show x<2^11 from h)];rw [wrap64 (by omega) (by omega)]
structure Fl' (P:aK) (L:Lib):Prop where
 ajB:Has P L 230 LL
 ajC:Has P L 243 LM
 aA2:Has P L 245 RA
 aA3:Has P L 246 RB
 aA4:Has P L 247 RC
 aA5:L.pure 248=some Ke
 aA6:L.pure 251=some Jy
 aA7:Has P L 252 RD
def pg (n:Nat) (hp:Hp) (b:Nat):freeze (n+1) hp (.aw .f64 b)=some (.aw .f64 b,hp):=rfl
def aoA (b:Nat):bR (.aw .f64 b)= .aw .f64 b:=rfl
def p0 (b:Nat):shut (.aw .f64 b)= .aw .f64 b:=rfl
section
variable {P:aK} {L:Lib}
def ajD (h:Fl' P L) (b:Nat):ai P L 248 [.aw .f64 b] (.int .u64 b):=by
 unfold ai;rw [gK h.aA5];rfl
def ajE (h:Fl' P L) {b:Nat} (hb:b<18446744073709551616):ai P L 251 [.int .u64 b] (.aw .f64 b):=by
 unfold ai;rw [gK h.aA6];rfl
def ajF (h:Fl' P L) {b m:Nat} {e:Int} (hb:Dn b m e):ai P L 252 [.aw .f64 b] (.aw .f64 b):=by
 have hx:b<9223372036854775808:=by
  have h1:=hb.bits;have h2:=hb.b;have h3:=hb.nm;omega
 have e1:=ajD h b;have e2:=al6 hx;have e3:=ajE h (b:=b) (by omega);unfold ai at e1 e3;unfold ai;rw [aF h.aA7];simp only [go_sem,ya,RD,pg,e1,e2,e3];rfl
def Dn.pos {b m:Nat} {e:Int} (h:Dn b m e):fv false m e=(m:Rat)*p2 e:=by unfold fv sg;rw [yv (by decide),vR]
def maxD:lI double 9218868437227405311 false 9007199254740991 971:=⟨⟨by decide,by decide,.inl (by decide)⟩,by decide,by decide⟩
def minD:lI double 4503599627370496 false 4503599627370496 (-1074):=⟨⟨by decide,by decide,.inl (by decide)⟩,by decide,by decide⟩
def Lo:lI double 0 false 0 (-1074):=⟨⟨by decide,by decide,.inr (by decide)⟩,by decide,by decide⟩
def Dn.No {b m:Nat} {e:Int} (h:Dn b m e) (h1:1<=(m:Rat)*p2 e) (h2:(m:Rat)*p2 e<=16777216):
  binOp .eql (.aw .f64 b) (.aw .f64 0)=some (.bool false)/\binOp .gtr (.aw .f64 b) (.aw .f64 9218868437227405311)=some (.bool false)/\binOp .neq (.aw .f64 b) (.aw .f64 b)=some (.bool false)/\binOp .lss (.aw .f64 b) (.aw .f64 4503599627370496)=some (.bool false):=by
 have hp:=h.pos;have oz:=Gd h.is Lo;have om:=Gd h.is maxD;have oo:=Gd h.is h.is;have on:=Gd h.is minD;have z:fv false 0 (-1074)=0:=by unfold fv;simp
 have mx:fv false 9007199254740991 971>16777216:=by
  unfold fv sg;rw [yv (by decide),vR,show p2 971=((2^971:Nat):Rat) from eI 971,<-xv]
  have:((16777216:Nat):Rat)<((9007199254740991*2^971:Nat):Rat):=by
   rw [uP];exact asF 16777216 9007199254740991 971 (by decide)
  exact this
 have mn:fv false 4503599627370496 (-1074)<1:=by
  unfold fv sg;rw [yv (by decide),vR];have e1:((4503599627370496:Nat):Rat)=p2 52:=(eI 52).symm;rw [e1,<-dU];have h3:=Dd 1022;have h4:(1:Rat)<p2 1022:=by
   exact awC 1022 (by decide)
  rw [show (52:Int)+ -1074= -1022 by decide];refine vA.1 fun q=>?_
  have h5:1*p2 1022<=p2 (-1022)*p2 1022:=wL q (vm (jZ _));rw [h3,vR] at h5;exact absurd h4 (vd.2 h5)
 rw [hp] at oz om oo on;refine ⟨?_,?_,?_,?_⟩
 ·show some (AV.bool (double.order b 0==some .eq))=_
  rw [oz,z,yv (by grind),yv (by grind)];rfl
 ·show some (AV.bool (double.order b 9218868437227405311==some .gt))=_
  rw [om,yG (by grind)];rfl
 ·show some (AV.bool (double.order b b !=some .eq))=_
  rw [oo,yv (by grind),yG rfl];rfl
 ·show some (AV.bool (double.order b 4503599627370496==some .lt))=_
  rw [on,yv (by grind)]
  split<;>rfl
def aA8 (h:Fl' P L) {b m:Nat} {e:Int} (hb:Dn b m e) (h1:1<=(m:Rat)*p2 e) (h2:(m:Rat)*p2 e<=16777216):ai P L 245 [.aw .f64 b,.int .i64 0] (.bool false):=by
 obtain ⟨_,c2,_,_⟩:=hb.No h1 h2;have e1:=ajF h hb;unfold ai at e1;unfold ai;rw [aF h.aA2];simp only [go_sem,ya,RA,pg,p0,e1,c2,yo]
def aA9 (h:Fl' P L) {b m:Nat} {e:Int} (hb:Dn b m e) (h1:1<=(m:Rat)*p2 e) (h2:(m:Rat)*p2 e<=16777216):ai P L 246 [.aw .f64 b] (.bool false):=by
 obtain ⟨_,_,c3,_⟩:=hb.No h1 h2;unfold ai;rw [aF h.aA3];simp only [go_sem,ya,RB,c3]
def aBa (h:Fl' P L) {b m:Nat} {e:Int} (hb:Dn b m e) (h1:1<=(m:Rat)*p2 e) (h2:(m:Rat)*p2 e<=16777216):ai P L 247 [.aw .f64 b] (.aa [.aw .f64 b,ab 0]):=by
 obtain ⟨_,_,_,c4⟩:=hb.No h1 h2;have e1:=ajF h hb;unfold ai at e1;unfold ai;rw [aF h.aA4];simp only [go_sem,ya,RC,pg,p0,e1,c4];rfl
def aBb {x:Nat}:binOp .shr (.int .u64 (x:Int)) (.int .u64 52)=some (.int .u64 ((x/4503599627370496:Nat):Int)):=by
 rw [afB];show some (AV.int .u64 ((x:Int).fdiv 4503599627370496))=_
 rw [Int.fdiv_eq_ediv_of_nonneg _ (by decide)];rfl
def aBc {x:Nat} (h:x<2048):binOp .shl (.int .u64 (x:Int)) (.int .u64 52)=some (.int .u64 ((x*4503599627370496:Nat):Int)):=by
 rw [afA];show some (AV.int .u64 (IntKind.wrap .u64 ((x:Int)*4503599627370496)))=_
 have:(x:Int)*4503599627370496=((x*4503599627370496:Nat):Int):=by rw [Int.natCast_mul];rfl
 rw [this,wrapM,yF (by omega)]
def as3 {F E:Nat} (h:F<4503599627370496):F|||E*4503599627370496=E*4503599627370496+F:=by
 have:=Nat.two_pow_add_eq_or_of_lt (i:=52) (b:=F) h E
 rw [Nat.or_comm,xg E];exact this.symm
def aBd:double.read 4607182418800017408= .number false 4503599627370496 (-52):=by decide
def aBe {y m:Nat} {e:Int} (hr:double.read y= .number false m e):binOp .mul (.aw .f64 4607182418800017408) (.aw .f64 y)=some (.aw .f64 (double.write (.number false (4503599627370496*m) (-52+e)))):=by
 have:double.mul 4607182418800017408 y=some (double.write (.number false (4503599627370496*m) (-52+e))):=by
  unfold Format.mul;rw [aBd,hr];rfl
 show (match double.mul 4607182418800017408 y with | some b=>some (AV.aw .f64 b) | none=>none)=_
 rw [this]
def aBf (h:Fl' P L) {b m:Nat} {e k:Int} (hb:Dn b m e) (he1: -52<=e) (he2:e<=-28) (h1:1<=(m:Rat)*p2 e) (h2:(m:Rat)*p2 e<=16777216) (fC: -149<=k) (gU:k<=104):∃r m' e',ai P L 243 [.aw .f64 b,ab k] (.aw .f64 r)/\lI double r false m' e'/\(m':Rat)*p2 e'=(m:Rat)*p2 (e+k):=by
 obtain ⟨c1,_,_,_⟩:=hb.No h1 h2;have e1:=aA8 h hb h1 h2;have e2:=aA9 h hb h1 h2;have e3:=aBa h hb h1 h2;have e4:=ajD h b;obtain ⟨_,b2,_⟩:=hb.b;have hn:=hb.nm;have Ln:=hb.bits;obtain ⟨E,hE⟩:∃E:Nat,(E:Int)=e+1075:=⟨(e+1075).toNat,by omega⟩;obtain ⟨F,hF⟩:∃F,m=4503599627370496+F:=⟨m-4503599627370496,by omega⟩;have hx:b=E*4503599627370496+F:=by rw [Ln,show (e+1075).toNat=E by omega,hF];omega
 have hdiv:b/4503599627370496=E:=by omega
 have kG:b%4503599627370496=F:=by omega
 have q1:=aBb (x:=b);rw [hdiv] at q1;have q2:=aqE (x:=E) (by omega);have q3:=amV (x:=b) (by omega);rw [kG] at q3;obtain ⟨G,hG⟩:∃G:Nat,(G:Int)=e+k+1075:=⟨(e+k+1075).toNat,by omega⟩;have q4:=aBc (x:=G) (by omega);have q5:=N5 (a:=F) (b:=G*4503599627370496) (by omega) (by omega);rw [as3 (by omega)] at q5;have hD:=Dn.mk' (m:=m) (e:=e+k) (by omega) (by omega) hn b2;rw [show (e+k+1075).toNat=G by omega,show m-4503599627370496=F by omega] at hD;have Yv:G*4503599627370496+F<18446744073709551616:=by omega
 obtain ⟨Y,hY⟩:∃Y,Y=G*4503599627370496:=⟨_,rfl⟩;rw [<-hY] at q4 q5 hD Yv;obtain ⟨y,hy⟩:∃y,y=Y+F:=⟨_,rfl⟩;rw [<-hy] at q5 hD Yv;have q6:=ajE h (b:=y) Yv;obtain ⟨m',e',k1,k2,k3⟩:=wr (f:=double) (n:=m) (k:=e+k) (by omega) (show m<9007199254740992 from b2) (by rw [rB];omega) (by rw [rB];show _<=2047;omega) (m0:=4503599627370496*m) (e0:= -52+(e+k)) false (by
  have:((4503599627370496:Nat):Rat)=p2 52:=(eI 52).symm
  rw [xv,this];have h3:p2 52*(m:Rat)*p2 (-52+(e+k))=(m:Rat)*(p2 52*p2 (-52+(e+k))):=by grind
  rw [h3,<-dU,show (52:Int)+(-52+(e+k))=e+k by omega])
 have q7:=aBe hD.is.read;refine ⟨_,m',e',?_,k1,k3⟩;have w0:IntKind.wrap .i64 (k+0)=k:=by rw [Int.add_zero];exact wrap64 (by omega) (by omega)
 have w1:IntKind.wrap .i64 ((E:Nat):Int)=(E:Int):=wrap64 (by omega) (by omega);have w2:IntKind.wrap .i64 ((E:Int)-1023)=(E:Int)-1023:=wrap64 (by omega) (by omega);have w3:IntKind.wrap .i64 (k+((E:Int)-1023))=k+((E:Int)-1023):=wrap64 (by omega) (by omega);have w4:IntKind.wrap .i64 (k+((E:Int)-1023)+1023)=(G:Int):=by rw [wrap64 (by omega) (by omega)];omega
 have w5:IntKind.wrap .u64 (G:Int)=(G:Int):=by rw [wrapM,yF (by omega)]
 have cv1:fZ (.toInt .i64) (.int .u64 (E:Int))=some (.int .i64 (E:Int)):=by show some (AV.int .i64 (IntKind.wrap .i64 (E:Int)))=_;rw [w1]
 have cv2:fZ (.toInt .u64) (.int .i64 (G:Int))=some (.int .u64 (G:Int)):=by show some (AV.int .u64 (IntKind.wrap .u64 (G:Int)))=_;rw [w5]
 unfold ai at e1 e2 e3 e4 q6;unfold ai;rw [aF h.ajC];simp only [go_sem,ya,LM,pg,c1,e1,e2,e3,iU,iS,iT,aoA,p0,w0,e4,q1,cv1,q2,w2,w3,show ¬k+((E:Int)-1023)< -1075 by omega,show ¬(1023:Int)<k+((E:Int)-1023) by omega,show ¬k+((E:Int)-1023)< -1022 by omega,yr,q3,w4,cv2,q4,q5,q6,q7];rfl
def aBg (h:Fl' P L) {b m:Nat} {e k:Int} (hb:Dn b m e) (he1: -52<=e) (he2:e<=-28) (h1:1<=(m:Rat)*p2 e) (h2:(m:Rat)*p2 e<=16777216) (fC: -149<=k) (gU:k<=104):∃r m' e',ai P L 230 [.aw .f64 b,ab k] (.aw .f64 r)/\lI double r false m' e'/\(m':Rat)*p2 e'=(m:Rat)*p2 (e+k):=by
 obtain ⟨r,m',e',q1,q2,q3⟩:=aBf h hb he1 he2 h1 h2 fC gU;refine ⟨r,m',e',?_,q2,q3⟩;unfold ai at q1;unfold ai;rw [aF h.ajB];simp only [go_sem,ya,LL,pg,q1,p0];rfl
end
end VE
end
section
namespace VE
open Go (IntKind)
open Ieee
def axc {n:Nat} (h0:n≠0) (hn:n<=16777216):∃b m e,fZ (.toFlt .f64) (.int .i64 (n:Int))=some (.aw .f64 b)/\Dn b m e/\-52<=e/\e<=-28/\(m:Rat)*p2 e=(n:Rat):=by
 have hl:n.log2<25:=(Nat.log2_lt h0).2 (by omega);have h1:2^n.log2<=n:=Nat.log2_self_le h0;have h2:n<2^(n.log2+1):=Nat.lt_log2_self;obtain ⟨j,hj⟩:∃j:Nat,n.log2+j=52:=⟨52-n.log2,by omega⟩;have oB:2^52<=n*2^j:=by
  have:=Nat.mul_le_mul_right (2^j) h1
  rwa [<-xn,hj] at this
 have IT:n*2^j<2^53:=by
  have:=Nat.mul_lt_mul_of_pos_right h2 (y9 j)
  rwa [<-xn,show n.log2+1+j=53 by omega] at this
 have hc:Can double (n*2^j) (-(j:Int)):=⟨by rw [rB];omega,IT,.inl oB⟩;have hr:=aez hc (by rw [rB];show _<=2047;omega)
 have hv:(n:Rat)*p2 0=((n*2^j:Nat):Rat)*p2 (-(j:Int)):=by
  rw [xv,<-eI,lY,xU,<-dU,show (j:Int)+ -(j:Int)=0 by omega,lY]
 have pR:n*2^j≠0:=vV (yE (by decide) oB);have hw:=abj hc pR false hv;rw [xA (by omega)] at hw;refine ⟨double.write (.number false n 0),n*2^j,-(j:Int),?_,⟨⟨hc,hr,hw⟩,oB⟩,by omega,by omega,by rw [<-hv,lY,we]⟩;show some (AV.aw .f64 (double.write (.number (decide ((n:Int)<0)) (n:Int).natAbs 0)))=_
 rw [yM (by omega),xm]
def aqF:fZ (.toFlt .f64) (.int .i64 0)=some (.aw .f64 0):=by
 show some (AV.aw .f64 (double.write (.number false 0 0)))=_
 rw [show double.write (.number false 0 0)=0 by decide]
def afU {r m:Nat} {e:Int} (hr:lI double r false m e) {n:Nat} {k:Int} (hn:n<=16777216) (fC: -149<=k) (gU:k<=104) (AS:n=16777216->k<104) (hv:(m:Rat)*p2 e=(n:Rat)*p2 k):∃b,fZ (.toFlt .f32) (.aw .f64 r)=some (.aw .f32 b)/\Fl b false (n*2^(149+k).toNat):=by
 have e0:fZ (.toFlt .f32) (.aw .f64 r)=(match double.read r with
  | .number sg m e=>if (single.read (single.write (.number sg m e))).isInfinity then none else some (.aw .f32 (single.write (.number sg m e)))
  | _=>none):=rfl
 have hsc:∀{m':Nat} {e':Int},-149<=e'->(m':Rat)*p2 e'=(n:Rat)*p2 k->n*2^(149+k).toNat=cz m' e':=fun {m' e'} h1 h2=>by
  have h3:=PW (m:=m') (n:=n) h1 fC h2;rw [h3];unfold cz;rw [Int.add_comm]
 have fin:∀{m':Nat} {e':Int},lJ (single.write (.number false m e)) false m' e'->(m':Rat)*p2 e'=(n:Rat)*p2 k->∃b,fZ (.toFlt .f32) (.aw .f64 r)=some (.aw .f32 b)/\Fl b false (n*2^(149+k).toNat):=fun {m' e'} h1 h2=>by
  refine ⟨_,?_,m',e',h1,hsc h1.b.1 h2⟩;rw [e0,hr.read]
  dsimp only
  rw [h1.read];rfl
 by_cases n0:n=0
 ·subst n0;have hm:m=0:=by
   have h1:(m:Rat)*p2 e=0:=by rw [hv];simp
   rcases ybo.1 h1 with q | q
   ·exact_mod_cast q
   ·exact absurd q (Lh e)
  subst hm;exact fin (Nc false e) (by simp)
 ·by_cases c:n<16777216
  ·obtain ⟨m',e',k1,_,k3⟩:=zb (n:=n) (k:=k) n0 c fC gU false hv;exact fin k1 k3
  ·have cU:n=16777216:=by omega
   have hk3:=AS cU;have cC:(n:Rat)*p2 k=((8388608:Nat):Rat)*p2 (k+1):=by
    rw [cU,dU,oc]
    have:((16777216:Nat):Rat)=((8388608:Nat):Rat)*2:=by decide+kernel
    rw [this];grind
   obtain ⟨m',e',k1,_,k3⟩:=zb (n:=8388608) (k:=k+1) (by decide) (by decide) (by omega) (by omega) false (hv.trans cC);exact fin k1 (k3.trans cC.symm)
section
variable {P:aK} {L:Lib}
def axd (h:Fl' P L) {k:Int}:ai P L 230 [.aw .f64 0,ab k] (.aw .f64 0):=by
 have c0:binOp .eql (.aw .f64 0) (.aw .f64 0)=some (.bool true):=by
  show some (AV.bool (double.order 0 0==some .eq))=_
  rw [Gd Lo Lo,yv ui,yG rfl];rfl
 have e1:ai P L 243 [.aw .f64 0,ab k] (.aw .f64 0):=by
  unfold ai;rw [aF h.ajC];simp only [go_sem,ya,LM,c0];rfl
 unfold ai at e1;unfold ai;rw [aF h.ajB];simp only [go_sem,ya,LL,pg,e1,p0];rfl
def aBh (h:Fl' P L) {n:Nat} {k:Int} (hn:n<=16777216) (fC: -149<=k) (gU:k<=104) (AS:n=16777216->k<104):∃b r c,fZ (.toFlt .f64) (.int .i64 (n:Int))=some (.aw .f64 b)/\ai P L 230 [.aw .f64 b,ab k] (.aw .f64 r)/\fZ (.toFlt .f32) (.aw .f64 r)=some (.aw .f32 c)/\Fl c false (n*2^(149+k).toNat):=by
 by_cases n0:n=0
 ·subst n0;obtain ⟨c,e1,hc⟩:=afU Lo (n:=0) (k:=k) hn fC gU AS (by simp);exact ⟨0,0,c,aqF,axd h,e1,hc⟩
 ·obtain ⟨b,m,e,q1,q2,q3,q4,q5⟩:=axc n0 hn;have h1:(1:Rat)<=(m:Rat)*p2 e:=by
   rw [q5]
   have:((1:Nat):Rat)<=((n:Nat):Rat):=wT.2 (by omega)
   exact this
  have h2:(m:Rat)*p2 e<=16777216:=by
   rw [q5]
   have:((n:Nat):Rat)<=((16777216:Nat):Rat):=wT.2 hn
   exact this
  obtain ⟨r,m',e',k1,k2,k3⟩:=aBg h q2 q3 q4 h1 h2 fC gU;obtain ⟨c,e1,hc⟩:=afU k2 (n:=n) (k:=k) hn fC gU AS (by rw [k3,dU,<-xU,q5]);exact ⟨b,r,c,q1,k1,e1,hc⟩
end
end VE
end
section
namespace VE
open Go (IntKind)
open Ieee
def Lp {a b:Int} (h:a<=b):p2 a<=p2 b:=by
 obtain ⟨d,rfl⟩:∃d:Nat,b=a+d:=⟨(b-a).toNat,by omega⟩;rw [dU,eI];have h1:(1:Rat)<=((2^d:Nat):Rat):=by
  have:((1:Nat):Rat)<=((2^d:Nat):Rat):=wT.2 (y9 d)
  exact this
 have:=wP h1 (vm (jZ a))
 rwa [we] at this
def ayR {a b:Int} (h:p2 a<p2 b):a<b:=yaP.1 fun q=>absurd (Lp q) (vA.2 h)
def abr (a:Rat):(dc a).num=(a.num.natAbs:Nat)/\(dc a).den=a.den:=by
 unfold dc;by_cases c:a<0
 ·have:a.num<0:=yaP.1 fun q=>absurd (tW.1 q) (vA.2 c)
  rw [yG c,O8];exact ⟨by omega,rfl⟩
 ·have:0<=a.num:=tW.2 (vd.1 c)
  rw [yv c];exact ⟨by omega,rfl⟩
def aeF (a:Rat):0<=dc a:=by
 unfold dc
 split<;>grind
def aqG (a:Rat):dc a*(a.den:Rat)=(a.num.natAbs:Rat):=by
 have h:=abr a;have e0:((dc a).num:Rat)/(((dc a).den:Int):Rat)=dc a:=by rw [<-Rat.divInt_eq_div];exact Rat.num_divInt_den _
 have h0:(((dc a).den:Int):Rat)≠0:=fun e=>by
  have:((dc a).den:Int)=0:=by exact_mod_cast e
  have:=(dc a).den_nz
  omega
 have h1:dc a*(((dc a).den:Int):Rat)=((dc a).num:Rat):=by
  conv=>lhs;lhs;rw [<-e0]
  rw [Rat.div_def,xU,yaO _ h0,we]
 rw [h.1,h.2] at h1;exact h1
def alA {a:Rat} {B C:Nat} (h1:2^(B-1)<=a.num.natAbs) (hB:0<B) (h2:a.num.natAbs<2^B) (h3:2^(C-1)<=a.den) (hC:0<C) (h4:a.den<2^C):p2 ((B:Int)-C-24+23)<=dc a/\dc a<p2 ((B:Int)-C-24+25):=by
 have hm:=aqG a;have hn:=aeF a;have c1:p2 ((B:Int)-1)<=(a.num.natAbs:Rat):=by
  rw [show (B:Int)-1=((B-1:Nat):Int) by omega,eI];exact wT.2 h1
 have c2:(a.num.natAbs:Rat)<p2 B:=by rw [eI];exact uP.2 h2
 have c3:p2 ((C:Int)-1)<=(a.den:Rat):=by
  rw [show (C:Int)-1=((C-1:Nat):Int) by omega,eI];exact wT.2 h3
 have c4:(a.den:Rat)<p2 C:=by rw [eI];exact uP.2 h4
 rw [<-hm] at c1 c2;constructor
 ·have h5:p2 ((B:Int)-1)<=dc a*p2 C:=yao c1 (wP (vm c4) hn);have h6:=wL h5 (vm (jZ (-(C:Int))));rw [xU,<-dU,<-dU,show (C:Int)+ -(C:Int)=0 by omega,lY,we,show (B:Int)-1+ -(C:Int)=(B:Int)-C-24+23 by omega] at h6;exact h6
 ·have h5:dc a*p2 ((C:Int)-1)<p2 B:=by
   have:=wP c3 hn
   grind
  have h6:=(wg (jZ (-((C:Int)-1)))).2 h5;rw [xU,<-dU,<-dU,show (C:Int)-1+ -((C:Int)-1)=0 by omega,lY,we,show (B:Int)+ -((C:Int)-1)=(B:Int)-C-24+25 by omega] at h6;exact h6
def ayS {A:Rat} {k:Int} (h1:p2 (k+23)<=A) (h2:A<p2 (k+24)):KP A (max k (-149))/\(max k (-149)<=104->A<p2 128)/\(104<max k (-149)->p2 128<=A):=by
 have e24:(16777216:Rat)=p2 24:=(eI 24).symm;have e23:(8388608:Rat)=p2 23:=(eI 23).symm;refine ⟨⟨by omega,?_,?_⟩,fun h=>?_,fun h=>?_⟩
 ·rw [e24];have h3:A<p2 (max k (-149)+24):=by
   have:=Lp (show k+24<=max k (-149)+24 by omega)
   grind
  have h4:=(wg (jZ (-(max k (-149))))).2 h3
  rwa [<-dU,show max k (-149)+24+ -(max k (-149))=24 by omega] at h4
 ·by_cases c:k< -149
  ·right;omega
  ·left
   rw [e23];have h4:=wL h1 (vm (jZ (-(max k (-149)))))
   rwa [<-dU,show k+23+ -(max k (-149))=23 by omega] at h4
 ·have:=Lp (show k+24<=128 by omega)
  grind
 ·have:=Lp (show (128:Int)<=k+23 by omega)
  grind
end VE
end
section
namespace VE
open Go (IntKind)
open Ieee
def aqH (a b:Rat):0<=n9 a b↔b<=a:=by
 unfold n9;by_cases c:a<b
 ·rw [yG c];exact ⟨fun h=>absurd h (by decide),fun h=>absurd c (vd.2 h)⟩
 ·rw [yv c];refine ⟨fun _=>vd.1 c,fun _=>?_⟩
  split<;>decide
structure Jt (P:aK) (L:Lib):Prop extends Ck P L,Fl' P L where
 Iw:Has P L 150 Hz
 W0:Has P L 202 eG
 B5:Has P L 228 Dw
 Ix:Has P L 229 Dx
 sF:Has P L 241 Dy
section
variable {P:aK} {L:Lib}
def axe (h:Jt P L) {A:Rat} (kA:Hq 2600 A) {c1 c2 c3 c4 x1 x2 x3 x4:AV} (hc:dC (.agg [c1,c2,c3,c4]) A) (fc:F4 c1 c2 c3 c4) {k0:Int} (Nz: -5000<=k0/\k0<=5000) (hA:A<p2 (k0+25)):
  ∀(d:Nat) (st:St),(∃(k:Int),k+d=k0+1/\k0<=k/\p2 (k+23)<=A/\aQ [5,6,7] st=⟨[(5,.ptr 0 0),(6,.ptr 1 0),(7,ab k)],[(1,.cells true true true 4 [c1,c2,c3,c4]),(0,.cells true true true 4 [x1,x2,x3,x4])],2,0⟩)->
   ∃ex s',D P L (.loop [5,6,7] GG) st=some (ex,s')/\∃tm ct,∃k:Int,s'=⟨tm,[(1,.cells true true true 4 [c1,c2,c3,c4]),(0,.cells true true true 4 [x1,x2,x3,x4])],ct,0⟩/\ex= .exit 0/\k0<=k/\k<=k0+1/\p2 (k+23)<=A/\A<p2 (k+24)/\aj tm 5= .ptr 0 0/\aj tm 6= .ptr 1 0/\aj tm 7=ab k:=by
 intro dq sq;generalize bq:aQ [5,6,7] sq=s0;revert bq s0 sq dq;apply dh;rintro d st ⟨k,hd,hk,a6,rfl⟩;obtain ⟨v,e1,hv⟩:=WV h.toFr' h.mR h.sF h.B5 (k:=k+24) (by omega);have kv:Hq 6000 (p2 (k+24)):=(QX _).mono (by omega);have e2:=m71 h.toFr' hc hv (kA.mono (show 2600<=6000 by decide)) kv (by decide);obtain ⟨v1,v2,v3,v4,rfl,fE⟩:=hv.gen;have wk:IntKind.wrap .i64 (k+24)=k+24:=wrap64 (by omega) (by omega);have hg:=aqH A (p2 (k+24));unfold ai at e1 e2;by_cases c:p2 (k+24)<=A
 ·left
  have aG:=ayR (show p2 (k+24)<p2 (k0+25) by grind);have Yw:IntKind.wrap .i64 (k+1)=k+1:=wrap64 (by omega) (by omega);simp only [go_sem,ya,GG,dO,yu,wk,fc.an,fE.an,e1,e2,bt,hg.2 c,yo,Yw];refine ⟨_,d-1,rfl,by omega,k+1,by omega,by omega,by rw [show k+1+23=k+24 by omega];exact c,?_⟩
  simp only [go_sem,ya,yd,aB]<;>rfl
 ·right
  simp only [go_sem,ya,GG,dO,yu,wk,fc.an,fE.an,e1,e2,bt,show ¬0<=n9 A (p2 (k+24)) from fun q=>c (hg.1 q),yr];exact ⟨_,_,rfl,by simp,_,_,k,rfl,rfl,hk,by omega,a6,vA.1 c,by simp only [go_sem,ya],by simp only [go_sem,ya],by simp only [go_sem,ya]⟩
end
end VE
end
section
namespace VE
open Go (IntKind)
open Ieee
section
variable {P:aK} {L:Lib}
def axf (h:Jt P L) {a:Rat} (kA:Hq 2600 (dc a)) {c1 c2 c3 c4 x1 x2 x3 x4:AV} (hc:dC (.agg [c1,c2,c3,c4]) (dc a)) (fc:F4 c1 c2 c3 c4) (hx:dC (.agg [x1,x2,x3,x4]) a) (fx:F4 x1 x2 x3 x4) {k:Int} (hk: -5100<=k/\k<=5100) (a6:p2 (k+23)<=dc a) (fk:dc a<p2 (k+24)):
  ∃o,NF (dc a) o/\(match o with
   | none=>cX eG.cZ (D P L (bO 6 eG.body) ⟨[(5,.ptr 0 0),(6,.ptr 1 0),(7,ab k)],[(1,.cells true true true 4 [c1,c2,c3,c4]),(0,.cells true true true 4 [x1,x2,x3,x4])],2,0⟩)=some (.aa [.aw .f32 0,ab 4])
   | some M=>∃b,Fl b (iR a M) M/\cX eG.cZ (D P L (bO 6 eG.body) ⟨[(5,.ptr 0 0),(6,.ptr 1 0),(7,ab k)],[(1,.cells true true true 4 [c1,c2,c3,c4]),(0,.cells true true true 4 [x1,x2,x3,x4])],2,0⟩)=some (.aa [.aw .f32 b,ab 0])):=by
 obtain ⟨K1,K2,K3⟩:=ayS a6 fk;have r8:(if (-149:Int)>k then (-149:Int) else k)=max k (-149):=by split<;>omega
 generalize pH:max k (-149)=j at*
 by_cases cj:104<j
 ·refine ⟨none,.inl ⟨K3 cj,rfl⟩,?_⟩;simp only [go_sem,ya,eG,bO,aq,lQ,nE,r8,cj,yo];rfl
 ·have hA:=K2 (by omega);have Cb:=K1.lo;have Yx:=aeF a;have fm:0<=dc a*p2 (-j):=tX Yx (vm (jZ _));have ylt:=K1.lt;have wn:IntKind.wrap .i64 (0-j)= -j:=by rw [show (0:Int)-j= -j by omega];exact wrap64 (by omega) (by omega)
  obtain ⟨u,e1,hu⟩:=WV h.toFr' h.mR h.sF h.B5 (k:= -j) (by omega);have ku:Hq 1001 (p2 (-j)):=sG _ (by omega);obtain ⟨v,e2,hv⟩:=m49 h.toFr' hc hu kA (ku.mono (show 1001<=2600 by decide)) (by decide);have ky:Hq 5000 (dc a*p2 (-j)):=(kA.mul ku).mono (by decide);have e3:=aA1 h.toFr' h.Iw h.Ix hv ky fm ylt;have nle:=ahg fm ylt;have CB:∀{o:Option Nat},((nR (dc a*p2 (-j))=16777216/\j=104/\o=none)\/(¬(nR (dc a*p2 (-j))=16777216/\j=104)/\o=some (nR (dc a*p2 (-j))*2^(149+j).toNat)))->NF (dc a) o:=fun q=> .inr ⟨hA,j,K1,by omega,q⟩
  obtain ⟨u1,u2,u3,u4,rfl,fu⟩:=hu.gen;obtain ⟨v1,v2,v3,v4,rfl,fE⟩:=hv.gen;have e4:=ai3 h.toFr' hx;have oL:=A0 a;unfold ai at e1 e2 e3 e4;generalize nR (dc a*p2 (-j))=n at*
  by_cases z:n=16777216/\j=104
  ·obtain ⟨z1,z2⟩:=z;have hz:((n:Nat):Int)=16777216:=by omega
   refine ⟨none,CB (.inl ⟨z1,z2,rfl⟩),?_⟩;subst z2;simp only [go_sem,ya,eG,bO,aq,lQ,nE,r8,cj,yr,dO,yu,fc.an,wn,e1,bt,fu.an,e2,fE.an,e3,hz,yo];rfl
  ·obtain ⟨b,r,c,q1,q2,q3,q4⟩:=aBh (P:=P) (L:=L) h.toFl' (n:=n) (k:=j) nle Cb (by omega) (fun x=>by omega);have rz:n*2^(149+j).toNat≠0↔0<n:=by
    have:=y9 (149+j).toNat
    constructor
    ·intro x;exact uJ fun y=>x (by rw [y,wh])
    ·intro x;exact vV (wY x this)
   unfold ai at q2;by_cases s1:a<0/\0<n
   ·have hs:=oL.2 s1.1;refine ⟨some _,CB (.inr ⟨z,rfl⟩),c^^^2147483648,?_,?_⟩
    ·rw [show iR a (n*2^(149+j).toNat)=true by unfold iR;rw [xa s1.1,xa (rz.2 s1.2)];rfl]
     exact q4.neg
    ·by_cases z1:n=16777216
     ·have hz:((n:Nat):Int)=16777216:=by omega
      have z2:¬j=104:=fun x=>z ⟨z1,x⟩
      rw [hz] at q1;simp only [go_sem,ya,eG,bO,aq,lQ,nE,r8,cj,yr,dO,yu,fc.an,wn,e1,bt,fu.an,e2,fE.an,e3,hz,z2,yo,q1,pg,q2,p0,q3,fx.an,e4,hs,show (0:Int)<16777216 by decide,Lj];rfl
     ·simp only [go_sem,ya,eG,bO,aq,lQ,nE,r8,cj,yr,dO,yu,fc.an,wn,e1,bt,fu.an,e2,fE.an,e3,show ¬((n:Nat):Int)=16777216 by omega,q1,pg,q2,p0,q3,fx.an,e4,hs,show (0:Int)<(n:Int) by omega,yo,Lj];rfl
   ·refine ⟨some _,CB (.inr ⟨z,rfl⟩),c,?_,?_⟩
    ·rw [show iR a (n*2^(149+j).toNat)=false by
      unfold iR;by_cases x:a<0
      ·rw [yM (fun y=>s1 ⟨x,rz.1 y⟩),Bool.and_false]
      ·rw [yM x];rfl]
     exact q4
    ·by_cases x:a<0
     ·have hs:=oL.2 x;have n0:¬(0:Int)<(n:Int):=fun y=>s1 ⟨x,by omega⟩
      simp only [go_sem,ya,eG,bO,aq,lQ,nE,r8,cj,yr,dO,yu,fc.an,wn,e1,bt,fu.an,e2,fE.an,e3,show ¬((n:Nat):Int)=16777216 by omega,q1,pg,q2,p0,q3,fx.an,e4,hs,n0,yo];rfl
     ·have hs:¬bL a.num<0:=fun y=>x (oL.1 y)
      by_cases z1:n=16777216
      ·have hz:((n:Nat):Int)=16777216:=by omega
       have z2:¬j=104:=fun x=>z ⟨z1,x⟩
       rw [hz] at q1;simp only [go_sem,ya,eG,bO,aq,lQ,nE,r8,cj,yr,dO,yu,fc.an,wn,e1,bt,fu.an,e2,fE.an,e3,hz,z2,yo,q1,pg,q2,p0,q3,fx.an,e4,hs];rfl
      ·simp only [go_sem,ya,eG,bO,aq,lQ,nE,r8,cj,yr,dO,yu,fc.an,wn,e1,bt,fu.an,e2,fE.an,e3,show ¬((n:Nat):Int)=16777216 by omega,q1,pg,q2,p0,q3,fx.an,e4,hs];rfl
end
end VE
end
section
namespace VE
open Go (IntKind)
open Ieee
def aBi:NF 0 (some 0):=by
 refine .inr ⟨jZ 128,-149,⟨by omega,by rw [yce];decide,.inr rfl⟩,by omega,.inr ⟨fun q=>absurd q.2 (by decide),?_⟩⟩
 rw [yce,abq Rat.le_refl (by decide+kernel),wh]
section
variable {P:aK} {L:Lib}
def aqI (h:Jt P L) {s:List Nat} (hl:s.length<=1000000000) (hc:kM s≠0):ai P L 202 [.str s] (.aa [.aw .f32 0,ab (kM s)]):=by
 have e1:=m86 h.toCk hl;unfold ai at e1;unfold ai;rw [aF h.W0];simp only [go_sem,ya,eG,e1,hc,yr,yP];rfl
def aBj (h:Jt P L) {a:Rat} (ka:Hq 2600 a) (hc:kM (RT a)=0):∃o,NF (dc a) o/\(match o with
  | none=>ai P L 202 [.str (RT a)] (.aa [.aw .f32 0,ab 4])
  | some M=>∃b,Fl b (iR a M) M/\ai P L 202 [.str (RT a)] (.aa [.aw .f32 b,ab 0])):=by
 have hlen:=Df ka;have e1:=m86 h.toCk (s:=RT a) (by omega);rw [hc] at e1;obtain ⟨x,e2,hx⟩:=m62 h.toTx (a:=a) (by omega);have e3:=ai3 h.toFr' hx;have rA:=hx;obtain ⟨s1,w1,s2,w2,rfl,k1,k2⟩:=hx;have fx:F4 (ab s1) w1 (ab s2) w2:=by
  obtain ⟨_,_,_,_,e,g⟩:=dC.gen rA;simp only [AV.agg.injEq,tu,wN] at e;obtain ⟨rfl,rfl,rfl,rfl⟩:=e;exact g
 obtain ⟨l1,u1⟩:=k1.aJ;obtain ⟨l2,u2⟩:=k2.aJ;by_cases h0:a=0
 ·subst h0;have hs:bL (0:Rat).num=0:=by decide
  rw [hs] at e3;refine ⟨some 0,by rw [show dc 0=0 by unfold dc;rw [yv ui]];exact aBi,0,by rw [show iR 0 0=false by unfold iR;simp];exact Fl.zero,?_⟩
  unfold ai at e1 e2 e3;unfold ai;rw [aF h.W0];simp only [go_sem,ya,yd,eG,e1,yo,yN,e2,aY,fx.st,fx.an,bt,dO,yu,e3];rfl
 ·have hz:(a.num.natAbs:Int)≠0:=by
   intro q;have hn:a.num=0:=by omega
   exact h0 (Rat.num_eq_zero.1 hn)
  have hsn:¬bL a.num=0:=fun q=>h0 ((ZE a).1 q)
  have oN:=abr a;obtain ⟨r,e4,hr⟩:=Wu h.toNu (z:=a.num) ⟨s1,w1,rfl,k1⟩ ka.1 (by decide);obtain ⟨s3,w3,rfl,k3⟩:=hr;obtain ⟨l3,u3⟩:=k3.aJ;have hS:dC (.agg [ab s3,w3,ab s2,w2]) (dc a):=⟨s3,w3,s2,w2,rfl,by rw [oN.1];exact k3,by rw [oN.2];exact k2⟩
  have fs:F4 (ab s3) w3 (ab s2) w2:=by
   obtain ⟨_,_,_,_,e,g⟩:=dC.gen hS;simp only [AV.agg.injEq,tu,wN] at e;obtain ⟨rfl,rfl,rfl,rfl⟩:=e;exact g
  have kA:Hq 2600 (dc a):=⟨by rw [oN.1];unfold Bd;rw [xm];exact ka.1,by rw [oN.2];exact ka.2⟩
  obtain ⟨B,e5,b1,b2,b3,b4⟩:=ahh h.toTx (z:=(a.num.natAbs:Int)) ⟨s3,w3,rfl,k3⟩ (K:=2600) (by unfold Bd;rw [xm];exact ka.1) (by decide) hz
  obtain ⟨C,e6,d1,d2,d3,d4⟩:=ahh h.toTx (z:=(a.den:Int)) ⟨s2,w2,rfl,k2⟩ ka.2 (by decide) (by have:=a.den_nz;omega);rw [xm] at b1 b3 d1 d3;obtain ⟨g1,g2⟩:=alA b3 b2 b1 d3 d2 d1;have Yw:IntKind.wrap .i64 ((B:Int)-C)=(B:Int)-C:=wrap64 (by omega) (by omega);have wk2:IntKind.wrap .i64 ((B:Int)-C-24)=(B:Int)-C-24:=wrap64 (by omega) (by omega);have lp:=axe (P:=P) (L:=L) h kA hS fs (x1:=ab s1) (x2:=w1) (x3:=ab s2) (x4:=w2) (k0:=(B:Int)-C-24) (by omega) g2 1;have go:=fun k hk lo hi=>axf h kA hS fs rA fx (k:=k) hk lo hi
  suffices hh:∃k:Int,(-5100<=k/\k<=5100)/\p2 (k+23)<=dc a/\dc a<p2 (k+24)/\cX eG.cZ (D P L eG.body ⟨dR 0 [.str (RT a)],[],0,0⟩)=cX eG.cZ (D P L (bO 6 eG.body) ⟨[(5,.ptr 0 0),(6,.ptr 1 0),(7,ab k)],[(1,.cells true true true 4 [ab s3,w3,ab s2,w2]),(0,.cells true true true 4 [ab s1,w1,ab s2,w2])],2,0⟩) by
   obtain ⟨k,hk,lo,hi,hq⟩:=hh;have fin:∀{r:AV},cX eG.cZ (D P L eG.body ⟨dR 0 [.str (RT a)],[],0,0⟩)=some r->ai P L 202 [.str (RT a)] r:=fun q=>by
    unfold ai;rw [aF h.W0];exact q
   obtain ⟨o,ho,hm⟩:=go k hk lo hi;refine ⟨o,ho,?_⟩
   cases o with
   | none=>exact fin (hq.trans hm)
   | some M=>
    obtain ⟨b,hb,hm⟩:=hm;exact ⟨b,hb,fin (hq.trans hm)⟩
  unfold ai at e1 e2 e3 e4 e5 e6;have cut:eG.body= .seq (aS eG.body) (.seq (aS (bO 0 eG.body)) (.seq (aS (bO 1 eG.body)) (.seq (aS (bO 2 eG.body)) (.seq (aS (bO 3 eG.body)) (.seq (aS (bO 4 eG.body)) (.seq (aS (bO 5 eG.body)) (bO 6 eG.body))))))):=rfl;rw [cut];generalize bO 6 eG.body=T;simp only [go_sem,ya,yd,eG,bO,aq,aS,e1,yo,yN,e2,aY,fx.st,fx.an,bt,dO,yu,e3,hsn,yr,bI,yh,mG,qu,b5,u1.an,u2.an,u2.one,u3.an,u3.one,e4,zB,zC,fs.st,e5,e6,Yw,wk2];generalize hq:D P L (.loop [5,6,7] GG) _=q;obtain ⟨ex,st,rfl,tm,ct,k,rfl,rfl,q1,q2,q3,q4,t5,t6,t7⟩:=b6 hq lp ⟨(B:Int)-C-24,by omega,by omega,g1,by simp only [go_sem,ya,yd,aB]<;>rfl⟩
  refine ⟨k,by omega,q3,q4,?_⟩;simp only [go_sem,ya,yd,aB,t5,t6,t7]
end
end VE
end
section
namespace VE
open Go (IntKind)
open Ieee
def iN (b:Nat):Bool:=match single.read b with
 | .number .. =>true
 | _=>false
def mV:List AV->Option AV
 | [.aw .f32 b]=>some (.bool (iN b))
 | _=>none
def Fl.fin {b M:Nat} {s:Bool} (h:Fl b s M):iN b=true:=by
 obtain ⟨m,e,h1,_⟩:=h.ex;unfold iN;rw [h1.read]
def axg {b:Nat} (hb:b<4294967296):(∃s M,Fl b s M)\/iN b=false:=by
 rcases awE (f:=single) (b:=b) hb (by decide) with ⟨s,m,e,h⟩ | h
 ·exact .inl ⟨s,_,⟨m,e,h,rfl⟩⟩
 ·right
  unfold iN
  cases hr:single.read b with
  | number s m e=>exact absurd hr (h s m e)
  | _=>rfl
def Fl.pz {b:Nat} (h:Fl b false 0):b=0:=by
 obtain ⟨m,e,h1,h2⟩:=h.ex;have hm:m=0:=by
  unfold cz at h2;rcases Nat.mul_eq_zero.1 h2.symm with q | q
  ·exact q
  ·exact absurd q (vV (y9 _))
 subst hm;obtain ⟨b1,b2,b3,b4⟩:=h1.b;have he:e= -149:=by omega
 subst he;rw [h1.eq];decide
def pq (l:List (List Nat)):Bool:=l.any fun s=>decide (60<s.length)
def amW {l:List (List Nat)} {i:Nat} (h:i<l.length):pq (l.drop i)=(decide (60<l[i].length)||pq (l.drop (i+1))):=by
 rw [yX h];rfl
section
variable {P:aK} {L:Lib}
def ayT (h:Has P L 393 L3) {v:AV} {l:List (List Nat)} (hv:AR v l) (hl:l.length<=1000000) (hs:∀s,s∈l->s.length<9223372036854775808):ai P L 393 [v] (.bool (pq l)):=by
 have key:=kO (P:=P) (L:=L) (live:=[0,3]) (a:=C7)
  (I:=fun k st=>∃i:Nat,st=⟨[(0,v),(3,ab i)],[],0,0⟩/\i+k=l.length/\pq (l.drop i)=pq l)
  (Q:=fun ex st=>∃tm ct,st=⟨tm,[],ct,0⟩/\((ex= .ret/\aj tm 2= .bool true/\pq l=true)\/(ex= .exit 0/\pq l=false))) ?_
 ·unfold ai;rw [aF h];simp only [go_sem,L3];generalize hq:D P L (.loop [0,3] C7) _=q;obtain ⟨ex,st,rfl,tm,ct,rfl,h2⟩:=b6 hq (key l.length) ⟨0,by simp only [go_sem,ya,aB,aO hv.pu,aV _ hv.pu]<;>rfl,by omega,by simp⟩
  rcases h2 with ⟨rfl,h2,h3⟩ | ⟨rfl,h3⟩
  ·simp only [go_sem,h2,h3]
  ·simp only [go_sem,aB,h3]
 ·rintro k st ⟨i,rfl,hk,hd⟩;by_cases hi:i<l.length
  ·rw [amW hi] at hd;have hb:=hs l[i] (List.getElem_mem hi);have ev:=hv.cd hi;by_cases h1:l[i].length<=60
   ·left
    rw [yM (by omega),Bool.false_or] at hd;simp only [go_sem,ya,C7,hv.len,show (i:Int)<l.length by omega,ev,show ¬(60:Int)<(l[i].length:Int) by omega];refine ⟨_,k-1,rfl,by omega,i+1,?_,by omega,hd⟩;rw [wrap64 (by omega) (by omega)];simp only [go_sem,ya,aB,aO hv.pu,aV _ hv.pu]<;>rfl
   ·right
    rw [xa (by omega),Bool.true_or] at hd;simp only [go_sem,ya,C7,hv.len,show (i:Int)<l.length by omega,ev,show (60:Int)<(l[i].length:Int) by omega];exact ⟨_,_,rfl,by simp,_,_,rfl,.inl ⟨rfl,by simp only [go_sem],hd.symm⟩⟩
  ·right
   simp only [go_sem,ya,C7,hv.len,show ¬(i:Int)<l.length by omega];refine ⟨_,_,rfl,by simp,_,_,rfl,.inr ⟨rfl,?_⟩⟩;rw [<-hd,xk (by omega)];rfl
end
abbrev pE (l:List Nat):List AV:=l.map (.aw .f32)
def jv (b:Nat):Int:=if iN b=true then 0 else 1
def Np (l:List Nat):Int:=if 1024<l.length then 5 else fG (l.map jv)
section
variable {P:aK} {L:Lib}
def Iy {n:Nat} (h:L.pure n=some mV) (b:Nat):ai P L n [.aw .f32 b] (.bool (iN b)):=by
 unfold ai;rw [gK h];rfl
def aBk (hx:Fx P L) (ht:Tx P L) (mW:L.pure 231=some mV) (D7:Has P L 203 Dv) {b:Nat} {s:Bool} {M:Nat} (hb:Fl b s M):ai P L 203 [.aw .f32 b] (.aa [.str (RT (lK s M)),ab 0]):=by
 have e1:=Iy (P:=P) mW b;rw [hb.fin] at e1;obtain ⟨r,e2,hr⟩:=aAS hx hb;have e3:=m46 ht hr (QY hb) (by decide);obtain ⟨v1,v2,v3,v4,rfl,fv⟩:=hr.gen;unfold ai at e1 e2 e3;unfold ai;rw [aF D7];simp only [go_sem,ya,Dv,pc,e1,e2,e3,fv.an,bt,yN];rfl
def aqJ (mW:L.pure 231=some mV) (D7:Has P L 203 Dv) {b:Nat} (hb:iN b=false):ai P L 203 [.aw .f32 b] (.aa [.str [],ab 1]):=by
 have e1:=Iy (P:=P) mW b;rw [hb] at e1;unfold ai at e1;unfold ai;rw [aF D7];simp only [go_sem,ya,Dv,pc,e1,yP];rfl
def aBl (mW:L.pure 231=some mV) (lX:Has P L 124 sd) (B7:Has P L 464 DC) (b:Nat):ai P L 464 [.aw .f32 b] (ab (jv b)):=by
 have e1:=Iy (P:=P) mW b;have e2:=qM lX (!iN b) 1;have hn:(if (!iN b)=true then (1:Int) else 0)=jv b:=by unfold jv;cases iN b<;>rfl
 rw [hn] at e2;unfold ai at e1 e2;unfold ai;rw [aF B7];simp only [go_sem,ya,DC,pc,e1,e2]
def aBm (mW:L.pure 231=some mV) (lX:Has P L 124 sd) (B7:Has P L 464 DC) (Iz:Has P L 463 HT) {v:AV} {l:List Nat} (hv:cE v (pE l)) (hl:l.length<=1000000):ai P L 463 [v,.fn (.f 464) [] []] (ab (fG (l.map jv))):=by
 have hlen:(pE l).length=l.length:=by simp
 have pf:bh (.fn (.f 464) [] [])=true:=rfl;have key:=kO (P:=P) (L:=L) (live:=[1,8,9,10]) (a:=KK)
  (I:=fun k s=>∃i:Nat,s=⟨[(1,.fn (.f 464) [] []),(8,v),(9,ab l.length),(10,ab i)],[],0,0⟩/\i+k=l.length/\fG ((l.drop i).map jv)=fG (l.map jv))
  (Q:=fun ex s=>∃tm ct,s=⟨tm,[],ct,0⟩/\((ex= .ret/\aj tm 4=ab (fG (l.map jv)))\/(ex= .exit 0/\fG (l.map jv)=0))) ?_
 ·unfold ai;rw [aF Iz];simp only [go_sem,ya,HT,hv.len,hlen];generalize hq:D P L (.loop [1,8,9,10] KK) _=q;obtain ⟨ex,s,rfl,tm,ct,rfl,h2⟩:=b6 hq (key l.length) ⟨0,by simp only [go_sem,ya,aB,aO hv.pu,aV _ hv.pu,aO pf,aV _ pf]<;>rfl,by omega,by simp⟩
  rcases h2 with ⟨rfl,h2⟩ | ⟨rfl,h2⟩
  ·simp only [go_sem,h2]
  ·rw [h2];simp only [go_sem,aB]
 ·rintro k s ⟨i,rfl,hk,hf⟩;simp only [go_sem,ya,KK];by_cases hi:i<l.length
  ·have fB:(i:Int)<l.length:=by omega
   have e0:=hv.cd (i:=i) (by rw [hlen];exact hi)
   rw [yaZ] at e0;have e1:=aBl mW lX B7 l[i];unfold ai at e1;rw [yX hi,xi] at hf;simp only [fG] at hf;by_cases fA:jv l[i]=0
   ·left
    rw [fA] at e1;simp only [go_sem,ya,fB,e0,pc,e1];refine ⟨_,k-1,rfl,by omega,i+1,?_,by omega,by rw [yG fA] at hf;exact hf⟩
    rw [wrap64 (by omega) (by omega)];simp only [go_sem,ya,aB,aO hv.pu,aV _ hv.pu,aO pf,aV _ pf]<;>rfl
   ·right
    simp only [go_sem,ya,fB,e0,pc,e1,fA];rw [yv fA] at hf;refine ⟨_,_,rfl,by simp,_,_,rfl,.inl ⟨rfl,?_⟩⟩;simp only [go_sem,hf]
  ·right
   have fB:¬(i:Int)<l.length:=by omega
   simp only [go_sem,fB];refine ⟨_,_,rfl,by simp,_,_,rfl,.inr ⟨rfl,?_⟩⟩;rw [<-hf,xk (by omega)];rfl
def aBn (mW:L.pure 231=some mV) (lX:Has P L 124 sd) (B7:Has P L 464 DC) (Iz:Has P L 463 HT) (Nq:Has P L 461 HR) {v:AV} {l:List Nat} (hv:cE v (pE l)):ai P L 461 [v] (ab (Np l)):=by
 have hlen:(pE l).length=l.length:=by simp
 unfold Np;by_cases c:1024<l.length
 ·rw [yG c];unfold ai;rw [aF Nq];simp only [go_sem,ya,HR,hv.len,hlen,show (1024:Int)<(l.length:Int) by omega,yo]
 ·rw [yv c];have e1:=aBm mW lX B7 Iz hv (by omega);unfold ai at e1;unfold ai;rw [aF Nq];simp only [go_sem,ya,HR,hv.len,hv.an,hlen,show ¬(1024:Int)<(l.length:Int) by omega,yr,e1]
def aBo (Nr:L.pure 427=some mV) (Ns:Has P L 462 HS) {v:AV} {l:List Nat} (hv:cE v (pE l)):ai P L 462 [v] (ab (Np l)):=by
 have hlen:(pE l).length=l.length:=by simp
 unfold Np;by_cases c:1024<l.length
 ·rw [yG c];unfold ai;rw [aF Ns];simp only [go_sem,ya,HS,hv.len,hlen,show (1024:Int)<(l.length:Int) by omega,yo]
 ·rw [yv c];have key:=kO (P:=P) (L:=L) (live:=[0,3]) (a:=C8)
   (I:=fun k s=>∃i:Nat,s=⟨[(0,v),(3,ab i)],[],0,0⟩/\i+k=l.length/\fG ((l.drop i).map jv)=fG (l.map jv))
   (Q:=fun ex s=>∃tm ct,s=⟨tm,[],ct,0⟩/\((ex= .ret/\aj tm 2=ab (fG (l.map jv)))\/(ex= .exit 0/\fG (l.map jv)=0))) ?_
  ·unfold ai;rw [aF Ns];simp only [go_sem,ya,HS,hv.len,hlen,show ¬(1024:Int)<(l.length:Int) by omega,yr];generalize hq:D P L (.loop [0,3] C8) _=q;obtain ⟨ex,s,rfl,tm,ct,rfl,h2⟩:=b6 hq (key l.length) ⟨0,by simp only [go_sem,ya,aB,aO hv.pu,aV _ hv.pu]<;>rfl,by omega,by simp⟩
   rcases h2 with ⟨rfl,h2⟩ | ⟨rfl,h2⟩
   ·simp only [go_sem,h2]
   ·rw [h2];simp only [go_sem,aB]
  ·rintro k s ⟨i,rfl,hk,hf⟩;by_cases hi:i<l.length
   ·have fB:(i:Int)<l.length:=by omega
    have e0:=hv.cd (i:=i) (by rw [hlen];exact hi)
    rw [yaZ] at e0;have e1:=Iy (P:=P) Nr l[i];unfold ai at e1;rw [yX hi,xi] at hf;simp only [fG] at hf
    cases hz:iN l[i] with
    | true=>
     left
     rw [hz] at e1;rw [show jv l[i]=0 by unfold jv;rw [hz];rfl,yG rfl] at hf
     simp only [go_sem,ya,C8,hv.len,hlen,fB,e0,pc,e1,yN];refine ⟨_,k-1,rfl,by omega,i+1,?_,by omega,hf⟩;rw [wrap64 (by omega) (by omega)];simp only [go_sem,ya,aB,aO hv.pu,aV _ hv.pu]<;>rfl
    | false=>
     right
     rw [hz] at e1;rw [show jv l[i]=1 by unfold jv;rw [hz];rfl,yv (by decide)] at hf
     simp only [go_sem,ya,C8,hv.len,hlen,fB,e0,pc,e1,yP];refine ⟨_,_,rfl,by simp,_,_,rfl,.inl ⟨rfl,?_⟩⟩;simp only [go_sem,hf]
   ·right
    have fB:¬(i:Int)<l.length:=by omega
    simp only [go_sem,ya,C8,hv.len,hlen,fB];refine ⟨_,_,rfl,by simp,_,_,rfl,.inr ⟨rfl,?_⟩⟩;rw [<-hf,xk (by omega)];rfl
end
end VE
end
section
namespace VE
open Go
open Ieee
def as4 {b m:Nat} {s:Bool} {e:Int} (h:single.read b= .number s m e):single.sub b b=some 0:=by
 unfold Format.sub;rw [h];show some (single.write (.number (if signed s m (e-min e e).toNat+signed (!s) m (e-min e e).toNat=0 then s&& !s else decide (signed s m (e-min e e).toNat+signed (!s) m (e-min e e).toNat<0)) (signed s m (e-min e e).toNat+signed (!s) m (e-min e e).toNat).natAbs (min e e)))=some 0
 have h0:signed s m (e-min e e).toNat+signed (!s) m (e-min e e).toNat=0:=by
  unfold signed;cases s<;>simp<;>omega
 rw [h0,yG rfl];have hs:(s&& !s)=false:=by cases s<;>rfl
 rw [hs];rfl
def as5 {b:Nat} (h:∀s m e,single.read b≠.number s m e):single.sub b b=none:=by
 unfold Format.sub
 cases hr:single.read b with
 | number s m e=>exact absurd hr (h s m e)
 | infinity s=>cases s<;>rfl
 | nan s t=>rfl
def as6 {x:Nat} (hx:x<8388607) (t:Nat):single.order (t%2*2147483648+2139095040+1+x) 0=none:=by
 have hm:(t%2*2147483648+2139095040+1+x)%2147483648=2139095041+x:=by omega
 have hr:∃s n,single.read (t%2*2147483648+2139095040+1+x)= .nan s n:=by
  unfold Format.read;simp only [show single.signWeight=2147483648 from rfl,show single.binade=8388608 from rfl,show single.infRung=2139095040 from rfl];rw [hm,yv (by omega),yv (by omega),yv (by omega)];exact ⟨_,_,rfl⟩
 obtain ⟨s,n,hr⟩:=hr;unfold Format.order;rw [hr];rfl
def aeG (P:y8) (b:Nat) (w:yi):∃r w1,(∀t,(xL .sub t (.float .f32 b) (.float .f32 b)).run P w= .ok (.float .f32 r) w1)/\Calm w w1/\(∀t w',(xL .eql t (.float .f32 r) (.float .f32 0)).run P w'= .ok (.bool (iN b)) w'):=by
 by_cases h:∃s m e,single.read b= .number s m e
 ·obtain ⟨s,m,e,h⟩:=h;have h1:FloatKind.f32.format.sub b b=some 0:=as4 h;refine ⟨0,w,fun t=>?_,Calm.refl,fun t w'=>?_⟩
  ·simp [xL,Op.floatArith,h1]
  ·have:iN b=true:=by unfold iN;rw [h]
   rw [this];rfl
 ·have h':∀s m e,single.read b≠.number s m e:=fun s m e q=>h ⟨s,m,e,q⟩
  have h1:FloatKind.f32.format.sub b b=none:=as5 h';obtain ⟨t0,Yl⟩:∃t0,t0=w.tape w.drawn (.nanBits .f32 b b):=⟨_,rfl⟩;refine ⟨(Question.nanBits .f32 b b).cut t0,w.drew,fun t=>?_,⟨rfl,rfl,rfl,yB _,fun _ _=>rfl⟩,fun t w'=>?_⟩
  ·rw [Yl];simp [xL,Op.floatArith,h1,Question.forced]
  ·have:iN b=false:=by
    unfold iN
    cases hr:single.read b with
    | number s m e=>exact absurd hr (h' s m e)
    | _=>rfl
   rw [this];have hc:=as6 (x:=t0/2%8388607) (Nat.mod_lt _ (by decide)) t0;have mh:FloatKind.f32.format.order ((Question.nanBits .f32 b b).cut t0) 0=none:=hc;simp [xL,Op.floatCmp,mh]
variable {O:a8}
def aeH {n:Nat} (eS:∀args w,(callFunc (O.af n) args).run O.P w= .ok (.enter (O.af n) args) w) (hc:∀(b:Nat) (w:yi),xV O.P (O.af n) #[.float .f32 b] w fun e w'=>e= .returned (.bool (iN b))/\Calm w w'):∀ao r,mV ao=some r->dN O n ao r:=by
 intro ao r h;unfold mV at h
 split at h
 ·rename_i b;simp only [yb] at h;subst h;refine mr aaN eS ?_;intro w S args hg di;obtain ⟨u,rfl,h1⟩:=BC di;simp only [ah] at h1;subst h1;refine (hc b w).mono ?_;rintro e w' ⟨rfl,h2⟩;exact ⟨_,rfl,h2,fun S=>by simp only [ah]⟩
 ·cases h
end VE
end
section
namespace Go.Proofs
open Go.RowKit
def Tryz.aBp (b:Nat) (w:yi):xV Tryz.prog 49 #[.float .f32 b] w fun e w'=>e= .returned (.bool (VE.iN b))/\VE.Calm w w':=by
 obtain ⟨r,w1,h1,h2,h3⟩:=VE.aeG Tryz.prog b w
 go_enter Tryz.func49,Tryz.ntmps49
 go_wp2_with (simp only [h1,h3])
 go_ret
 exact ⟨rfl,h2⟩
def Tryz.aBq (b:Nat) (w:yi):xV Tryz.prog 7 #[.float .f32 b] w fun e w'=>e= .returned (.bool (VE.iN b))/\VE.Calm w w':=by
 obtain ⟨r,w1,h1,h2,h3⟩:=VE.aeG Tryz.prog b w
 go_enter Tryz.func7,Tryz.ntmps7
 go_wp2_with (simp only [h1,h3])
 go_ret
 exact ⟨rfl,h2⟩
end Go.Proofs
end
section
namespace VE
open Go
section
variable {H:Type} {enc:yx×yg->H} {P:y8} {w:yi} {base:Nat} {sp:Nat->Bool} {held:Bool}
def mapM_mem {α β:Type} {f:α->Option β}:∀{l:List α} {r:List β},l.mapM f=some r->∀y,y∈r->∃x,f x=some y
 | [],r,h,y,hy=>by simp only [List.mapM_nil,wA,yb] at h;subst h;cases hy
 | x::l,r,h,y,hy=>by
  rw [ud] at h
  cases h1:f x with
  | none=>simp [h1] at h
  | some z=>
   cases h2:l.mapM f with
   | none=>simp [h1,h2] at h
   | some zs=>
    simp only [h1,h2,xX,vv,wA,yb] at h;subst h;rcases List.mem_cons.1 hy with rfl | hy
    ·exact ⟨x,h1⟩
    ·exact mapM_mem h2 y hy
def Rd (enc:yx×yg->H) (P:y8) (w:yi) (base:Nat) (sp:Nat->Bool) (held:Bool) (t:yx) (d:xJ H):Prop:=∃bi cs ps,DataW.trod enc P w base sp held bi t cs=some (d,ps)
def axh {t:yx} {k:xc} {d:xJ H} {n:Nat} (ht:P.underlying t=some (.int k)) (h:Rd enc P w base sp held t d):∃z,cD P (n+1) t d=[.int k z]/\(Lit.int k z).wf=true:=by
 obtain ⟨bi,cs,ps,h⟩:=h
 cases bi with
 | zero=>simp [DataW.trod] at h
 | succ bi=>
  unfold DataW.trod at h
  split at h
  all_goals first
   | (rename_i hu;rw [ht] at hu;cases hu;done)
   | skip
  ·rename_i k1 k2 z hu;rw [ht] at hu;injection hu with hu
   injection hu with hu
   subst hu
   split at h
   ·rename_i hk;simp only [yb,yk] at h;obtain ⟨rfl,rfl⟩:=h;exact ⟨z,by simp only [cD,ht],hk.2⟩
   ·cases h
  all_goals (cases h;done)
def aqK {t e:yx} {d:xJ H} {n:Nat} (ht:P.underlying t=some (.slice e)) (h:Rd enc P w base sp held t d):
  cD P (n+1) t d=[.ae]\/∃(x:Bool) (iX:List (xJ H)),cD P (n+1) t d=[.aC x iX.length (iX.flatMap fun y=>cD P n e y)]/\∀y,y∈iX->Rd enc P w base sp held e y:=by
 obtain ⟨bi,cs,ps,h⟩:=h
 cases bi with
 | zero=>simp [DataW.trod] at h
 | succ bi=>
  unfold DataW.trod at h
  split at h
  all_goals first
   | (rename_i hu;rw [ht] at hu;cases hu;done)
   | skip
  ·simp only [yb,yk] at h;obtain ⟨rfl,rfl⟩:=h;exact .inl (by simp only [cD,ht])
  ·rename_i e' a len cap hu;rw [ht] at hu;injection hu with hu
   injection hu with hu
   subst hu;simp only at h
   split at h
   case isFalse=>cases h
   cases h1:(List.range len).mapM fun i=>(w.cells? base (a.add (i*P.cellsOf e)) (P.cellsOf e)).bind (DataW.trod enc P w base sp held bi e) with
   | none=>rw [h1] at h;simp at h
   | some iX=>
    rw [h1] at h;simp only [xX] at h;obtain ⟨rest,_,h⟩:=wv.1 h;simp only [yk] at h;obtain ⟨rfl,rfl⟩:=h;refine .inr ⟨(rest.map (·.1)).isEmpty,iX.map (·.1),by simp only [cD,ht,xt],?_⟩;intro y hy;obtain ⟨p,hp,rfl⟩:=uH.1 hy;obtain ⟨i,hi⟩:=mapM_mem h1 p hp;obtain ⟨dH,_,Aq⟩:=Option.bind_eq_some_iff.1 hi;exact ⟨bi,dH,p.2,Aq⟩
  all_goals (cases h;done)
def aoB {t:yx} {fs:Array td} {d:xJ H} {n:Nat} (ht:P.underlying t=some (.struct fs)) (h:Rd enc P w base sp held t d):
  ∃ds:List (xJ H),ds.length=fs.toList.length/\cD P (n+1) t d=(fs.toList.zip ds).flatMap (fun x=>cD P n x.1.type x.2)/\∀i (h1:i<fs.toList.length) (h2:i<ds.length),Rd enc P w base sp held fs.toList[i].type ds[i]:=by
 obtain ⟨bi,cs,ps,h⟩:=h
 cases bi with
 | zero=>simp [DataW.trod] at h
 | succ bi=>
  unfold DataW.trod at h
  split at h
  all_goals first
   | (rename_i hu;rw [ht] at hu;cases hu;done)
   | (cases h;done)
   | skip
  rename_i cs x1 I5 fs' hu;rw [ht] at hu;injection hu with hu
  injection hu with hu
  subst hu
  split at h
  case isFalse=>cases h
  obtain ⟨xs,h1,h⟩:=wv.1 h;simp only [yk] at h;obtain ⟨rfl,rfl⟩:=h;refine ⟨xs.map (·.1),by simp [JY h1],by simp only [cD,ht],?_⟩;have key:∀{r:List td} {xs:List (xJ H×List wq)},r.mapM (fun f=>DataW.trod enc P w base sp held bi f.type ((cs.drop f.offset).take (P.cellsOf f.type)))=some xs->
    ∀i (h1:i<r.length) (h2:i<(xs.map (·.1)).length),Rd enc P w base sp held r[i].type (xs.map (·.1))[i]:=by
   intro r
   induction r with
   | nil=>intro xs h i h1;exact absurd h1 (Nat.not_lt_zero i)
   | cons f r ih=>
    intro xs h i h1 h2;rw [ud] at h
    cases g1:DataW.trod enc P w base sp held bi f.type ((cs.drop f.offset).take (P.cellsOf f.type)) with
    | none=>simp [g1] at h
    | some x=>
     cases g2:r.mapM (fun f=>DataW.trod enc P w base sp held bi f.type ((cs.drop f.offset).take (P.cellsOf f.type))) with
     | none=>simp [g1,g2] at h
     | some ys=>
      simp only [g1,g2,xX,vv,wA,yb] at h;subst h
      cases i with
      | zero=>exact ⟨bi,_,x.2,g1⟩
      | succ i=>exact ih g2 i (by simpa using h1) (by simpa using h2)
  exact key h1
def aqL {t e:yx} {k:Nat} {d:xJ H} {n:Nat} (ht:P.underlying t=some (.array k e)) (h:Rd enc P w base sp held t d):
  ∃ds:List (xJ H),ds.length=k/\cD P (n+1) t d=ds.flatMap (fun x=>cD P n e x)/\∀y,y∈ds->Rd enc P w base sp held e y:=by
 obtain ⟨bi,cs,ps,h⟩:=h
 cases bi with
 | zero=>simp [DataW.trod] at h
 | succ bi=>
  unfold DataW.trod at h
  split at h
  all_goals first
   | (rename_i hu;rw [ht] at hu;cases hu;done)
   | (cases h;done)
   | skip
  rename_i cs x1 I5 k' e' hu;rw [ht] at hu;injection hu with hu
  injection hu with pL sS
  subst pL;subst sS
  split at h
  case isFalse=>cases h
  obtain ⟨xs,h1,h⟩:=wv.1 h;simp only [yk] at h;obtain ⟨rfl,rfl⟩:=h;refine ⟨xs.map (·.1),by simp [JY h1],by simp only [cD,ht],fun y hy=>?_⟩;obtain ⟨p,hp,rfl⟩:=uH.1 hy;obtain ⟨i,hi⟩:=mapM_mem h1 p hp;exact ⟨bi,_,p.2,hi⟩
end
end VE
end
section
namespace VE
open Go
inductive Ty
 | int (k:xc)
 | aw (k:vS)
 | bool
 | str
 | sl (e:Ty)
 | nil
 | cat (a b:Ty)
 | ar (n:Nat) (e:Ty)
def nC:Ty->List AV->Prop
 | .int k,l=>∃z,l=[.int k z]/\(Lit.int k z).wf=true
 | .aw k,l=>∃b,l=[.aw k b]/\(Lit.float k b).wf=true
 | .bool,l=>∃b,l=[.bool b]
 | .str,l=>∃s:List Nat,l=[.str s]/\s.length<9223372036854775808/\∀c,c∈s->c<256
 | .sl e,l=>l=[.ae]\/∃(x:Bool) (ps:List (List AV)),l=[.aC x ps.length ps.flatten]/\∀p,p∈ps->nC e p
 | .nil,l=>l=[]
 | .cat a b,l=>∃x y,l=x++y/\nC a x/\nC b y
 | .ar n e,l=>∃ps:List (List AV),ps.length=n/\l=ps.flatten/\∀p,p∈ps->nC e p
def lU:List (Option Ty)->Option Ty
 | []=>some .nil
 | some a::r=>match lU r with
  | some b=>some (.cat a b)
  | none=>none
 | none::_=>none
def fI (P:y8):Nat->yx->Option Ty
 | 0,_=>none
 | n+1,t=>
  match P.underlying t with
  | some .bool=>some .bool
  | some (.int k)=>some (.int k)
  | some (.float k)=>some (.aw k)
  | some .string=>some .str
  | some (.slice e)=>(fI P n e).map .sl
  | some (.struct fs)=>lU (fs.toList.map fun f=>fI P n f.type)
  | some (.array k e)=>(fI P n e).map (.ar k)
  | _=>none
section
variable {H:Type} {enc:yx×yg->H} {P:y8} {w:yi} {base:Nat} {sp:Nat->Bool} {held:Bool}
def axi {t:yx} {k:vS} {d:xJ H} {n:Nat} (ht:P.underlying t=some (.float k)) (h:Rd enc P w base sp held t d):∃b,cD P (n+1) t d=[.aw k b]/\(Lit.float k b).wf=true:=by
 obtain ⟨bi,cs,ps,h⟩:=h
 cases bi with
 | zero=>simp [DataW.trod] at h
 | succ bi=>
  unfold DataW.trod at h
  split at h
  all_goals first
   | (rename_i hu;rw [ht] at hu;cases hu;done)
   | skip
  ·rename_i k1 k2 z hu;rw [ht] at hu;injection hu with hu
   injection hu with hu
   subst hu
   split at h
   ·rename_i hw;simp only [yb,yk] at h;obtain ⟨rfl,rfl⟩:=h;exact ⟨z,by simp only [cD,ht],hw.2⟩
   ·cases h
  all_goals (cases h;done)
def as7 {t:yx} {d:xJ H} {n:Nat} (ht:P.underlying t=some .bool) (h:Rd enc P w base sp held t d):∃b,cD P (n+1) t d=[.bool b]:=by
 obtain ⟨bi,cs,ps,h⟩:=h
 cases bi with
 | zero=>simp [DataW.trod] at h
 | succ bi=>
  unfold DataW.trod at h
  split at h
  all_goals first
   | (rename_i hu;rw [ht] at hu;cases hu;done)
   | skip
  ·simp only [yb,yk] at h;obtain ⟨rfl,rfl⟩:=h;rename_i b _;exact ⟨b,by simp only [cD,ht]⟩
  all_goals (cases h;done)
def axj {t:yx} {d:xJ H} {n:Nat} (ht:P.underlying t=some .string) (h:Rd enc P w base sp held t d):
  ∃s:List Nat,cD P (n+1) t d=[.str s]/\s.length<9223372036854775808/\∀c,c∈s->c<256:=by
 obtain ⟨bi,cs,ps,h⟩:=h
 cases bi with
 | zero=>simp [DataW.trod] at h
 | succ bi=>
  unfold DataW.trod at h
  split at h
  all_goals first
   | (rename_i hu;rw [ht] at hu;cases hu;done)
   | skip
  ·rename_i s hu
   split at h
   ·rename_i hs;simp only [yb,yk] at h;obtain ⟨rfl,rfl⟩:=h;refine ⟨_,by simp only [cD,ht];rfl,?_,fun c hc=>?_⟩
    ·simp only [xt,Array.length_toList];have h1:s.size<=9223372036854775807:=hs;have h2:s.data.size=s.size:=rfl;omega
    ·obtain ⟨b,_,rfl⟩:=uH.1 hc;exact b.toNat_lt
   ·cases h
  all_goals (cases h;done)
def ZF {n:Nat} (ih:∀{t:yx} {T:Ty} {d:xJ H},fI P n t=some T->Rd enc P w base sp held t d->nC T (cD P n t d)):
  ∀(fs:List td) (ds:List (xJ H)) (T:Ty),lU (fs.map fun f=>fI P n f.type)=some T->ds.length=fs.length->(∀i (h1:i<fs.length) (h2:i<ds.length),Rd enc P w base sp held fs[i].type ds[i])->
   nC T ((fs.zip ds).flatMap fun x=>cD P n x.1.type x.2)
 | [],ds,T,hT,_,_=>by
  simp only [List.map_nil,lU,yb] at hT;subst hT;simp [nC]
 | f::fs,[],T,_,hl,_=>by simp at hl
 | f::fs,d::ds,T,hT,hl,hr=>by
  simp only [xi] at hT
  cases h1:fI P n f.type with
  | none=>simp [h1,lU] at hT
  | some a=>
   cases h2:lU (fs.map fun f=>fI P n f.type) with
   | none=>simp [h1,h2,lU] at hT
   | some b=>
    simp only [h1,h2,lU,yb] at hT;subst hT;simp only [List.zip_cons_cons,List.flatMap_cons];exact ⟨_,_,rfl,ih h1 (hr 0 (by simp) (by simp)),ZF ih fs ds b h2 (by simpa using hl) (fun i h1 h2=>hr (i+1) (by simpa using h1) (by simpa using h2))⟩
def afV:∀(n:Nat) {t:yx} {T:Ty} {d:xJ H},fI P n t=some T->Rd enc P w base sp held t d->nC T (cD P n t d)
 | 0,t,T,d,hT,_=>by simp [fI] at hT
 | n+1,t,T,d,hT,hr=>by
  have ih:=@afV n
  cases hu:P.underlying t with
  | none=>simp [fI,hu] at hT
  | some u=>
   cases u with
   | slice e=>
    simp only [fI,hu] at hT;obtain ⟨E,hE,rfl⟩:=wv.1 hT
    rcases aqK (n:=n) hu hr with h | ⟨x,iX,h,hm⟩
    ·exact .inl h
    ·refine .inr ⟨x,iX.map (cD P n e),by rw [h,xt,yba],fun p hp=>?_⟩;obtain ⟨y,hy,rfl⟩:=uH.1 hp;exact ih hE (hm y hy)
   | struct fs=>
    simp only [fI,hu] at hT;obtain ⟨ds,e1,e2,e3⟩:=aoB (n:=n) hu hr;rw [e2];exact ZF ih fs.toList ds T hT e1 e3
   | array k e=>
    simp only [fI,hu] at hT;obtain ⟨E,hE,rfl⟩:=wv.1 hT;obtain ⟨ds,e1,e2,e3⟩:=aqL (n:=n) hu hr;refine ⟨ds.map (cD P n e),by simp [e1],by rw [e2,yba],fun p hp=>?_⟩;obtain ⟨y,hy,rfl⟩:=uH.1 hp;exact ih hE (e3 y hy)
   | int k=>
    simp only [fI,hu,yb] at hT;subst hT;exact axh hu hr
   | float k=>
    simp only [fI,hu,yb] at hT;subst hT;exact axi hu hr
   | bool=>
    simp only [fI,hu,yb] at hT;subst hT;exact as7 hu hr
   | string=>
    simp only [fI,hu,yb] at hT;subst hT;exact axj hu hr
   | _=>simp [fI,hu] at hT
def D8:Ty->List AV->AV
 | .nil,l | .cat _ _,l | .ar _ _,l=> .agg l
 | _,l=>l.headD .undef
def aoC:∀{l:List (Option Ty)} {T:Ty},lU l=some T->∀x,D8 T x= .agg x
 | [],T,h=>by simp only [lU,yb] at h;subst h;exact fun _=>rfl
 | none::r,T,h=>by simp [lU] at h
 | some a::r,T,h=>by
  cases h1:lU r with
  | none=>simp [lU,h1] at h
  | some b=>
   simp only [lU,h1,yb] at h;subst h;exact fun _=>rfl
def ayU {n:Nat} {t:yx} {T:Ty} {d:xJ H} (hT:fI P n t=some T):kh P n t d=D8 T (cD P n t d):=by
 cases n with
 | zero=>simp [fI] at hT
 | succ n=>
  cases hu:P.underlying t with
  | none=>simp [fI,hu] at hT
  | some u=>
   cases u with
   | slice e=>
    simp only [fI,hu] at hT;obtain ⟨E,hE,rfl⟩:=wv.1 hT;simp only [kh,hu,D8]
   | struct fs=>
    simp only [fI,hu] at hT;rw [aoC hT];simp only [kh,hu]
   | array k e=>
    simp only [fI,hu] at hT;obtain ⟨E,hE,rfl⟩:=wv.1 hT;simp only [kh,hu,D8]
   | _=>
    simp only [fI,hu,yb,reduceCtorEq] at hT<;>
    (subst hT
     simp only [kh,hu,D8])
def Ho:List Ty->List (List AV)->List AV
 | T::Ts,l::ls=>D8 T l::Ho Ts ls
 | _,_=>[]
def abt {n:Nat}:∀{ts:List yx} {Ts:List Ty} {vs:List yg} {ds:List (xJ H)} {ps:List wq},(ts.map (fI P n))=Ts.map some->DataW.TrodAll enc P w base sp held ts vs ds ps->
  ∃ls,Ab nC Ts ls/\rQ P n ts ds=Ho Ts ls/\ds.length=ts.length
 | [],[],[],[],ps,_,_=>⟨[],trivial,rfl,rfl⟩
 | t::ts,T::Ts,v::vs,d::ds,ps,hT,⟨p,q,⟨bi,h1⟩,h2,_⟩=>by
  simp only [xi,tu] at hT;obtain ⟨ls,k1,k2,k3⟩:=abt hT.2 h2;exact ⟨cD P n t d::ls,⟨afV n hT.1 ⟨bi,_,_,h1⟩,k1⟩,by simp only [rQ,Ho,k2,ayU hT.1],by simp [k3]⟩
 | [],_::_,_,_,_,h,_=>by simp at h
 | _::_,[],_,_,_,h,_=>by simp at h
 | [],[],_::_,_,_,_,h=>by simp [DataW.TrodAll] at h
 | [],[],[],_::_,_,_,h=>by simp [DataW.TrodAll] at h
 | _::_,_,[],_,_,_,h=>by simp [DataW.TrodAll] at h
 | _::_,_,_::_,[],_,_,h=>by simp [DataW.TrodAll] at h
def axk {α β:Type} {p:α->β->Prop} {a:α}:∀{l:List β},Ab p [a] l->∃x,l=[x]/\p a x
 | [x],h=>⟨x,rfl,h.1⟩
 | [],h=>h.elim
 | _::_::_,h=>h.2.elim
def axl {α β:Type} {p:α->β->Prop} {a b:α}:∀{l:List β},Ab p [a,b] l->∃x y,l=[x,y]/\p a x/\p b y
 | x::l,h=>let ⟨y,h1,h2⟩:=axk h.2;⟨x,y,by rw [h1],h.1,h2⟩
 | [],h=>h.elim
def axm {α β:Type} {p:α->β->Prop} {a b c:α}:∀{l:List β},Ab p [a,b,c] l->∃x y z,l=[x,y,z]/\p a x/\p b y/\p c z
 | x::l,h=>let ⟨y,z,h1,h2,h3⟩:=axl h.2;⟨x,y,z,by rw [h1],h.1,h2,h3⟩
 | [],h=>h.elim
end
end VE
end
section
namespace VE
open Go (IntKind)
section
variable {P:aK} {L:Lib}
def aqM (D9:Has P L 460 BR) {bad:Int} (h0:bad≠0) (w:List Nat):bG P L (D P L) 460 [.str [],ab bad,ab bad,.str w]=some (.bool true):=by
 rw [aF D9];simp only [go_sem,ya,BR,h0,yr,yP,jk,show cG [] []=true from rfl,yo]
def aBr (hr:Rl P L) (D9:Has P L 460 BR) {a:Rat} {K:Nat} (ka:Hq K a) (hK:K<=4000000000) {u:List Nat} {e:Int} (he:WW a= .aa [.str u,ab e]):bG P L (D P L) 460 [.str u,ab e,ab 0,.str (RT a)]=some (.bool true):=by
 have e1:=ayM hr ka hK;unfold WW at he;unfold ai at e1;rw [aF D9];cases hL:LG a<;>rw [hL] at e1 he<;>simp only [yC,xj,xO] at e1 he<;>cases he
 ·simp only [go_sem,ya,BR,e1,yo,yN,jk,aat]
 ·simp only [go_sem,ya,BR,e1,uC,yo,yr,yP,jk,aat]
end
end VE
end
section
namespace VE
open Go (IntKind)
open Ieee
structure Ge (P:aK) (L:Lib):Prop where
 p:Jt P L
 x:Fx P L
 r:Fz P L
 y:Fy P L
 l:Rl P L
 D7:Has P L 203 Dv
 mW:L.pure 231=some mV
 aBs:Has P L 393 L3
 Nr:L.pure 427=some mV
 aBt:Has P L 459 gi
 D9:Has P L 460 BR
 Nq:Has P L 461 HR
 Ns:Has P L 462 HS
 Iz:Has P L 463 HT
 B7:Has P L 464 DC
 ayV:ai P L 179 [] (.bool true)
def axn {b:Nat} {s:Bool} {M:Nat} (h:Fl b s M):LG (lK s M)=false:=by
 have hM:=h.lt;have k1:Hq 278 (((bc s M:Int)):Rat):=abo 278 (ahe 278 277 hM (by decide)) (by decide)
 exact ayO (K:=278+151) (k1.mul (QX (-149))) (by decide)
def axo:binOp .quo (.aw .f32 1065353216) (.aw .f32 0)=some (.aw .f32 2139095040):=by
 have:single.div 1065353216 0=some 2139095040:=by decide+kernel
 show (match single.div 1065353216 0 with | some b=>some (AV.aw .f32 b) | none=>none)=_
 rw [this]
def axp:binOp .gtr (.aw .f32 2139095040) (.aw .f32 0)=some (.bool true):=by
 have:single.order 2139095040 0=some .gt:=by decide+kernel
 show some (AV.bool (single.order 2139095040 0==some .gt))=_
 rw [this];rfl
def aBu:binOp .eql (.aw .f32 0) (.aw .f32 0)=some (.bool true):=by
 have ez:=Li Fl.zero Fl.zero
 rwa [xa rfl] at ez
def Gq {tm:Env} {x:AV} {s:List Nat} {r:List (Nat×Nat×X)}:rV tm [x] 0 1 [.str s] r=fill tm [.str s] r:=PM (by simp) rfl
def IA {ct:Nat} {s:List Nat}:Hj ct 1 1 (some [.str s])=some (.aE ct 0 1,.cells true (aI [.str s]) true 1 [.str s]):=aev rfl
section
variable {P:aK} {L:Lib} {b:Nat} {s:List Nat} {v:AV} {l:List Nat}
def aqN (h:Ge P L) (hb:b<4294967296) {tm:Env} {hp:Hp} {ct:Nat} (t0:aj tm 0= .aw .f32 b) (t1:aj tm 1= .str s) (t2:aj tm 2=v):
  ∃bU,D P L (jc 1 (bO 1 gi.body)) ⟨tm,hp,ct,0⟩=some (.normal,⟨bU,hp,ct,0⟩)/\aj bU 1= .str s/\aj bU 2=v:=by
 have e0:=Iy (P:=P) h.Nr b;rcases axg hb with ⟨g,M,hF⟩ | hn
 ·have e1:=aBk h.x h.p.toTx h.mW h.D7 hF;have e2:=aAX h.y hF;have e3:=aBr h.l h.D9 (QY hF) (by decide) (u:=RT (lK g M)) (e:=0) (by unfold WW;rw [axn hF];rfl)
  rw [hF.fin] at e0;unfold ai at e0 e1 e2;refine ⟨_,(by simp only [go_sem,ya,gi,jc,aS,aq,bO,t0,pc,iU,iS,iT,e0,e1,e2,e3,yN]<;>rfl),?_,?_⟩<;>simp only [go_sem,ya,t1,t2]
 ·have e1:=aqJ (P:=P) h.mW h.D7 hn;have e3:=aqM (P:=P) (L:=L) h.D9 (bad:=1) (by decide) [];rw [hn] at e0;unfold ai at e0 e1;refine ⟨_,(by simp only [go_sem,ya,gi,jc,aS,aq,bO,t0,pc,iU,iS,iT,e0,e1,e3,yP,yN]<;>rfl),?_,?_⟩<;>simp only [go_sem,ya,t1,t2]
def aqO (h:Ge P L) (hs:s.length<=60) (hv:cE v (pE l)) {tm:Env} {hp:Hp} {ct:Nat} (t1:aj tm 1= .str s) (t2:aj tm 2=v):
  cX [.t 6] (D P L (bO 3 gi.body) ⟨tm,hp,ct,0⟩)=some (.bool true):=by
 have e1:=aBn h.mW h.p.lX h.B7 h.Iz h.Nq hv;have e2:=aBo h.Nr h.Ns hv;have e3:=aAM h.r.toRm (s:=s) (by omega);have e0:=aBu;unfold ai at e1 e2 e3;by_cases c0:kM s=0
 ·have hq:=(abn c0).1;have ka:Hq 2600 (po s):=(asZ c0 (yB 2400)).mono (by decide);have c1:kM (RT (po s))=0:=by rw [<-hq];exact c0
  obtain ⟨o,n1,w1⟩:=aBj h.p ka c1;obtain ⟨o',n2,w2⟩:=aA0 h.r ka;cases axb n1 n2;rw [<-hq] at w1 w2
  cases o with
  | none=>
   have e4:ai P L 202 [.str s] (.aa [.aw .f32 0,ab 4]):=w1;have e5:ai P L 388 [.str s] (.aa [.aw .f32 0,.bool false]):=w2;unfold ai at e4 e5;simp only [go_sem,ya,gi,bO,aq,t1,t2,hv.an,iU,iS,iT,A2,e1,e2,e3,c0,e4,e5,e0,yN,yP,yo]
  | some M=>
   obtain ⟨x,hx,e4⟩:=w1;obtain ⟨y,hy,e5⟩:=w2;have e6:=Li hx hy;rw [xa rfl] at e6;have e7:=QS hx Fl.zero;unfold ai at e4 e5;by_cases m0:M=0
   ·subst m0;have hg:iR (po s) 0=false:=by unfold iR;simp
    rw [hg] at hx;have pP:=hx.pz;subst pP;rw [show decide (bc (iR (po s) 0) 0=bc false 0)=true by rw [hg];rfl] at e7
    simp only [go_sem,ya,gi,bO,aq,t1,t2,hv.an,iU,iS,iT,A2,e1,e2,e3,c0,e4,e5,e6,e7,axo,axp,yN,yo]
   ·rw [show decide (bc (iR (po s) M) M=bc false 0)=false by
     rw [yM];unfold bc;split<;>simp<;>omega] at e7
    simp only [go_sem,ya,gi,bO,aq,t1,t2,hv.an,iU,iS,iT,A2,e1,e2,e3,c0,e4,e5,e6,e7,yN,yP,yo]
 ·have e4:=aqI h.p (s:=s) (by omega) c0;unfold ai at e4;simp only [go_sem,ya,gi,bO,aq,t1,t2,hv.an,iU,iS,iT,A2,e1,e2,e3,c0,e4,e0,yN,yP,yo,yr]
def amX (h:Ge P L) (hb:b<4294967296) (ls:s.length<9223372036854775808) (hv:cE v (pE l)):ai P L 459 [.aw .f32 b,.str s,v] (.bool true):=by
 have hlen:(pE l).length=l.length:=by simp
 have ea:=h.ayV;have ew:=ayT h.aBs (asX true [s]) (by simp) (fun t ht=>by rw [List.mem_singleton] at ht;rw [ht];exact ls)
 change bG P L (D P L) 393 [.aC true 1 [.str s]]=_ at ew
 unfold ai at ea;unfold ai;rw [aF h.aBt];rw [show gi.cZ=[.t 6] from rfl]
 rw [PS 1 (c:=gi.body) (by refine ⟨rfl,?_⟩;show _=_;rfl)]
 have bad:∀{tm:Env} {hp:Hp} {ct:Nat},D P L (jc 1 gi.body) ⟨dR 0 [.aw .f32 b,.str s,v],[],0,0⟩=some (.ret,⟨tm,hp,ct,0⟩)->aj tm 6= .bool true->cX [.t 6] (kj P L (D P L (jc 1 gi.body) ⟨dR 0 [.aw .f32 b,.str s,v],[],0,0⟩) (bO 1 gi.body))=some (.bool true):=fun e t6=>by
  rw [e];simp only [go_sem,t6]
 have jb:∀{tm:Env} {hp:Hp} {ct:Nat},D P L (jc 1 gi.body) ⟨dR 0 [.aw .f32 b,.str s,v],[],0,0⟩=some (.normal,⟨tm,hp,ct,0⟩)->aj tm 0= .aw .f32 b->aj tm 1= .str s->aj tm 2=v->s.length<=60->cX [.t 6] (kj P L (D P L (jc 1 gi.body) ⟨dR 0 [.aw .f32 b,.str s,v],[],0,0⟩) (bO 1 gi.body))=some (.bool true):=fun e t0 t1 t2 hs=>by
  obtain ⟨bU,e2,u1,u2⟩:=aqN h hb t0 t1 t2
  rw [e,fp,PS 1 (c:=bO 1 gi.body) (by refine ⟨rfl,?_⟩;show _=_;rfl),e2,fp]
  exact aqO h hs hv u1 u2
 by_cases c1:s.length<=60
 ·have w0:pq [s]=false:=by unfold pq;simp;omega
  rw [w0] at ew;by_cases c2:l.length<=40
  ·exact jb (by simp only [go_sem,ya,yd,yI,ym,jc,gi,aS,aq,Gq,IA,ea,ew,hv.len,hlen,show ¬(40:Int)<(l.length:Int) by omega,show ¬(1026:Int)<(l.length:Int) by omega,yr,yN]<;>rfl) (by simp only [go_sem,ya]) (by simp only [go_sem,ya]) (by simp only [go_sem,ya]) c1
  ·by_cases c3:l.length<=1024
   ·exact bad (by simp only [go_sem,ya,yd,yI,ym,jc,gi,aS,aq,Gq,IA,ea,ew,hv.len,hlen,show (40:Int)<(l.length:Int) by omega,show (l.length:Int)<=1024 by omega,yo,yN]<;>rfl) (by simp only [go_sem])
   ·by_cases c4:l.length<=1026
    ·exact jb (by simp only [go_sem,ya,yd,yI,ym,jc,gi,aS,aq,Gq,IA,ea,ew,hv.len,hlen,show (40:Int)<(l.length:Int) by omega,show ¬(l.length:Int)<=1024 by omega,show ¬(1026:Int)<(l.length:Int) by omega,yo,yr,yN]<;>rfl) (by simp only [go_sem,ya]) (by simp only [go_sem,ya]) (by simp only [go_sem,ya]) c1
    ·exact bad (by simp only [go_sem,ya,yd,yI,ym,jc,gi,aS,aq,Gq,IA,ea,ew,hv.len,hlen,show (40:Int)<(l.length:Int) by omega,show ¬(l.length:Int)<=1024 by omega,show (1026:Int)<(l.length:Int) by omega,yo,yr,yN]<;>rfl) (by simp only [go_sem])
 ·have w0:pq [s]=true:=by unfold pq;simp;omega
  rw [w0] at ew;exact bad (by simp only [go_sem,ya,yd,yI,ym,jc,gi,aS,aq,Gq,IA,ea,ew,yN]<;>rfl) (by simp only [go_sem])
end
end VE
end
section
namespace VE
open Go (IntKind)
abbrev Gr:List Ty:=[.aw .f32,.str,.sl (.aw .f32)]
def aav:∀{ps:List (List AV)},(∀p,p∈ps->nC (.aw .f32) p)->∃l:List Nat,l.length=ps.length/\ps.flatten=pE l
 | [],_=>⟨[],rfl,rfl⟩
 | p::ps,h=>by
  obtain ⟨b,rfl,_⟩:=h p (by simp);obtain ⟨l,h1,h2⟩:=aav (ps:=ps) fun q hq=>h q (by simp [hq])
  exact ⟨b::l,by simp [h1],by rw [List.flatten_cons,h2];rfl⟩
def aqP {l:List AV} (h:nC (.sl (.aw .f32)) l):∃(v:AV) (m:List Nat),l=[v]/\cE v (pE m):=by
 rcases h with rfl | ⟨x,ps,rfl,hp⟩
 ·exact ⟨_,[],rfl,.inl ⟨rfl,rfl⟩⟩
 ·obtain ⟨m,h1,h2⟩:=aav hp;refine ⟨_,m,rfl,.inr ⟨x,?_⟩⟩;rw [h2,<-h1];simp
def al7 {P:aK} {L:Lib} (h:Ge P L) {ls:List (List AV)} (hs:Ab nC Gr ls):ai P L 459 (Ho Gr ls) (.bool true):=by
 obtain ⟨_,_,_,rfl,⟨b,rfl,hb⟩,⟨s,rfl,ha,_⟩,h3⟩:=axm hs;obtain ⟨v,m,rfl,hv⟩:=aqP h3;have hb:b<4294967296:=of_decide_eq_true hb;exact amX h hb ha hv
end VE
end
section
namespace VE
namespace J2
open Go Go.Proofs
def T:List (Tr ak):=[.n 179 [.o 7 [] (.bool true)] .l .l]
def L0:VE.Lib:=G2 (G2 (G2 VE.az 99 KE) 231 mV) 427 mV
def L1:VE.Lib:=LA L0 T 1000
def nu:Nu VE.prog VE.az:=by
 repeat' (first | rfl | constructor)
def lw:Ge VE.prog L1:=by
 repeat' (first | rfl | constructor)
section
variable {W:yi} {m:Int} (hm:W.cell? ⟨3,0,none⟩=some (.int .i64 m)) (ht:Go.Lib.TabIs Tryz.prog W "internal/strconv.uint64pow10" .u64 Go.Lib.pow10Tab)
include hm ht
theorem linked:ef ((J1.O W).nK L1):=by
 have hO:=J1.art hm ht;have hs:=aor hO nu rfl rfl rfl ⟨rfl,rfl,rfl⟩ (fn:=Tryz.f117) (c:=Ai) Tryz.func117 rfl rfl trivial aqw;have hT:eA (J1.O W) T:=eA.cons (Tr.iW (jM.one (oD.holds hO rfl rfl)) Tr.ib Tr.ib) eA.nil;have h1:=O6 hO hs;have h2:=O6 h1 (aeH (O:=(J1.O W).nK _) (n:=231) (fun _ _=>CQ Tryz.func49 rfl (by decide)) Tryz.aBp);have h3:=O6 h2 (aeH (O:=((J1.O W).nK _).nK _) (n:=427) (fun _ _=>CQ Tryz.func7 rfl (by decide)) Tryz.aBq);exact abP h3 hT 1000
theorem law {ls:List (List AV)} (hs:Ab nC Gr ls):dN (J1.O W) 459 (Ho Gr ls) (.bool true):=by
 obtain ⟨k,hk⟩:=afu (al7 lw hs);exact sound (linked hm ht) hk
end
end J2
end VE
end
