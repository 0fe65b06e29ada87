import Derived.OwnWalk
import Derived.WalkKit
import Derived.Test.YtdibafmjplecaaaGreatDoorUap
import Derived.Test.YtdibafmjplecaaaGreatDoorUaf
import Derived.Test.YtdibafmjplecaaaGreatDoorUam
import Derived.Test.YtdibafmjplecaaaGreatDoorUab
import Derived.Test.YtdibafmjplecaaaGreatDoorUac
import Derived.Test.YtdibafmjplecaaaGreatDoorUao
set_option linter.all false
set_option maxRecDepth 100000
open BitVec renaming ofInt→xC,toNat_and→tF,toNat_not→yaL,toNat_ofInt→wQ
open Bool renaming and_true→vO,false_eq_true→yB,not_false→yS,not_true→yN
open Go renaming Calls→xX,DataW→xK,Field→tp,FloatKind→vS,IntKind→xc,MemPlace→wx,Program→xa,TypeId→yx,Value→yg,World→yi,binOp→xO
open Int renaming lt_trichotomy→vU,natAbs_natCast→xn,not_le→yad,not_lt→um,reduceEq→vE
open List.cons renaming injEq→tC
open List renaming drop_zero→yt,flatMap_def→ybd,length_cons→yM,length_map→xy,mapM_cons→ud,map_cons→xm,mem_map→uO
open Nat renaming and_two_pow_sub_one_eq_mod→tP,div_lt_iff_lt_mul→xx,eq_zero_or_pos→xh,le_refl→yA,lt_of_le_of_lt→xJ,lt_of_lt_of_le→yE,lt_trans→vj,min_eq_left→xA,mod_eq_of_lt→yG,mul_assoc→xb,mul_comm→xg,mul_le_mul→xZ,mul_le_mul_left→yP,mul_le_mul_right→yT,mul_lt_mul_of_pos_right→xI,mul_pos→vd,ne_of_gt→uI,one_le_two_pow→yaT,pos_of_ne_zero→uQ,pow_add→xj,pow_le_pow_right→yR,pow_succ→yU,pow_zero→vL,reduceAdd→yd,reduceEqDiff→ya,two_pow_pos→y7,zero_add→yh,zero_mul→wE
open Option renaming bind_eq_bind→vA,bind_some→wb,map_eq_some_iff→wz,pure_def→wF
open Option.some renaming injEq→yb
open Prod.mk renaming injEq→yk
open Rat renaming den_intCast→uC,floor_le→yar,intCast_lt_intCast→wV,intCast_neg→vn,inv_mul_cancel→yaS,le_floor_iff→ybj,le_of_lt→wa,le_refl→ycu,le_trans→tI,lt_irrefl→uj,mul_assoc→xB,mul_eq_zero→ybp,mul_le_mul_of_nonneg_left→wR,mul_le_mul_of_nonneg_right→xz,mul_lt_mul_of_pos_right→ua,mul_lt_mul_right→wm,mul_nonneg→uk,mul_one→wj,natCast_add→ybq,natCast_le_natCast→wW,natCast_lt_natCast→uW,natCast_mul→xd,natCast_nonneg→tE,not_le→wM,not_lt→wD,num_intCast→uB,num_nonneg→tv,one_mul→uD,zero_mul→uZ
section
namespace VE
open Go (IntKind)
open Ieee
structure Fy0 (P:aM) (L:Lib):Prop extends Rn P L where
 Wx:Has P L 265 LD
 Ie:Has P L 283 Hy
 B2:Has P L 389 Ds
structure Fy (P:aM) (L:Lib):Prop extends Fy0 P L where
 aji:Has P L 429 LO
 DX:Has P L 430 HF
def awQ {b M:Nat} (h:Fl b true M) (h0:M≠0):∃b',binOp .sub (.aw .f32 0) (.aw .f32 b)=some (.aw .f32 b')/\Fl b' false M:=by
 obtain ⟨m,e,h1,rfl⟩:=h.ex;obtain ⟨b1,b2,b3,b4⟩:=h1.b;have m0:m≠0:=fun q=>h0 (by unfold cZ;rw [q,wE])
 obtain ⟨m',e',k1,k2,k3⟩:=AO (n:=m) (k:=e) m0 b2 b1 b4 (m0:=cZ m e) (e0:= -149) false (by
  rw [pZ b1]
  have:p2 149*p2 (-149)=1:=by rw [<-du];exact me
  rw [xB,this,wj])
 have e1:single.sub 0 b=some (single.write (.number false (cZ m e) (-149))):=by
  unfold Format.sub;rw [h1.read,show single.read 0= .number false 0 (-149) by decide];show some (single.write (.number (if signed false 0 ((-149:Int)-min (-149) e).toNat+signed (!true) m (e-min (-149) e).toNat=0 then false&&(!true) else decide (signed false 0 ((-149:Int)-min (-149) e).toNat+signed (!true) m (e-min (-149) e).toNat<0)) (signed false 0 ((-149:Int)-min (-149) e).toNat+signed (!true) m (e-min (-149) e).toNat).natAbs (min (-149) e)))=_
  have hm:min (-149) e= -149:=by omega
  have hs:signed false 0 ((-149:Int)-min (-149) e).toNat+signed (!true) m (e-min (-149) e).toNat=(cZ m e:Nat):=by
   rw [hm];unfold signed cZ;simp only [yN,yB,xk,Nat.shiftLeft_eq,wE];rw [show e - -149=e+149 by omega];simp
  rw [hs,hm,yu (by omega),xn,yF (by omega)]
 refine ⟨_,?_,m',e',k1,(aek k1.b.1 b1 k3).symm⟩;show (match single.sub 0 b with | some b=>some (AV.aw .f32 b) | none=>none)=_
 rw [e1]
def agY:∀k,pw 2 k=p2 k
 | 0=>by rw [show ((0:Nat):Int)=0 from rfl,me];rfl
 | k+1=>by
  have ih:=agY k;rw [show ((k+1:Nat):Int)=(k:Int)+1 from rfl,du,oh,<-ih];show _=_
  simp only [pw]
def awR (k:Nat):pw (2:Rat)⁻¹ k=p2 (-(k:Int)):=by
 have:∀k,pw (2:Rat)⁻¹ k*p2 k=1:=fun k=>by
  induction k with
  | zero=>rw [show ((0:Nat):Int)=0 from rfl,me];simp [pw]
  | succ k ih=>
   rw [show ((k+1:Nat):Int)=(k:Int)+1 from rfl,du,oh];have h2:(2:Rat)⁻¹*2=1:=yaS _ (by decide);simp only [pw]
   have:pw (2:Rat)⁻¹ k*2⁻¹*(p2 k*2)=(pw (2:Rat)⁻¹ k*p2 k)*((2:Rat)⁻¹*2):=by grind
   rw [this,ih,h2,uD]
 have h1:=this k;have h2:=KF (k:Int);have h3:pw (2:Rat)⁻¹ k*p2 k*p2 (-(k:Int))=p2 (-(k:Int)):=by rw [h1,uD]
 rw [xB,Rat.mul_comm (p2 k),h2,wj] at h3;exact h3
section
variable {P:aM} {L:Lib}
def awS {s:Bool} {M:Nat} (hs:s=true->M=0) (hM:M<2^277):
  ∀(d:Nat) (st:St),(∃(b:Nat) (N:Nat) (k:Nat),d=N/\Fl b s N/\N*2^k=M/\(M=0->k=0)/\aP [0,4] st=⟨[(0,.aw .f32 b),(4,ab k)],[],0,0⟩)->
   ∃ex s',D P L (.loop [0,4] GL) st=some (ex,s')/\∃tm ct b N,∃k:Nat,s'=⟨tm,[],ct,0⟩/\ex= .exit 0/\Fl b s N/\N*2^k=M/\N<2^173/\k<277/\aj tm 0= .aw .f32 b/\aj tm 4=ab k:=by
 intro dq sq;generalize bq:aP [0,4] sq=s0;revert bq s0 sq dq;apply dt;rintro d st ⟨b,N,k,hd,hN,hq,hz,rfl⟩;have mZ:0<2^k:=y7 _;have hk:k<277:=by
  by_cases h0:M=0
  ·rw [hz h0];decide
  ·have N0:0<N:=by
    rcases xh N with q | q
    ·rw [q,wE] at hq;exact absurd hq.symm h0
    ·exact q
   have h1:2^k<=N*2^k:=Nat.le_mul_of_pos_left _ N0;exact aiX k 277 (xJ (by rw [hq] at h1;exact h1) hM)
 have e2:=agL hN agM;have hsN:aZ s N=N:=by
  cases s with
  | false=>rfl
  | true=>
   have rn:=hs rfl
   have:N=0:=by
    rcases xh N with q | q
    ·exact q
    ·have:=vd q mZ;omega
   subst this;rfl
 have hc:(aZ false (2^173)<=aZ s N)↔2^173<=N:=by rw [hsN];exact Int.ofNat_le
 by_cases c:2^173<=N
 ·left
  have qY:=hN.even c;obtain ⟨b',e3,bJ⟩:=P6 hN qY;rw [y5 (hc.2 c)] at e2;have wk:IntKind.wrap .i64 ((k:Int)+1)=((k+1:Nat):Int):=wrap64 (by omega) (by omega);simp only [go_sem,ya,GL,e2,e3,wk];have rn:M≠0:=fun q=>by
   have:=vd (show 0<N by omega) mZ
   omega
  refine ⟨_,N/2,rfl,by omega,b',N/2,k+1,rfl,bJ,by rw [yU,xg (2^k),<-xb,show N/2*2=N by omega,hq],fun q=>absurd q rn,?_⟩;simp only [go_sem,ya,aC,jj,jl]<;>rfl
 ·right
  rw [yF (fun q=>c (hc.1 q))] at e2;simp only [go_sem,GL,e2];exact ⟨_,_,rfl,by simp,_,_,b,N,k,rfl,rfl,hN,hq,by omega,hk,by simp only [go_sem,ya],by simp only [go_sem,ya]⟩
def aol {s:Bool} {N:Nat}:(aZ s N=aZ (decide (aZ s (N/2^149)<0)) (N/2^149*2^149))↔N%2^149=0:=by
 have eB:=Nat.div_add_mod N (2^149);have X9:N/2^149=0->N/2^149*2^149=0:=fun h=>by rw [h,wE]
 generalize hQ:N/2^149=q at*
 generalize hR:N%2^149=r at*
 rw [xg] at eB;generalize q*2^149=X at*
 unfold aZ
 cases s with
 | false=>
  have:decide ((if false=true then -(q:Int) else (q:Int))<0)=false:=yF (by simp)
  rw [this];simp;omega
 | true=>
  rw [yL rfl,yL rfl];by_cases q0:q=0
  ·have hX:=X9 q0
   have:decide (-(q:Int)<0)=false:=yF (by omega)
   rw [this,yu (by decide)];omega
  ·have:decide (-(q:Int)<0)=true:=y5 (by omega)
   rw [this,yL rfl];omega
def awT {s:Bool} {M:Nat}:
  ∀(d:Nat) (st:St),(∃(b:Nat) (N:Nat) (j:Nat) (k:Int),d+j=149/\Fl b s N/\2^j∣N/\N<2^173/\(N:Rat)*p2 k=(M:Rat)/\-149<=k+j/\k+j<=277/\aP [0,4] st=⟨[(0,.aw .f32 b),(4,ab k)],[],0,0⟩)->
   ∃ex s',D P L (.loop [0,4] GM) st=some (ex,s')/\∃tm ct b N,∃k:Int,s'=⟨tm,[],ct,0⟩/\ex= .exit 2/\Fl b s N/\N%2^149=0/\N<2^173/\(N:Rat)*p2 k=(M:Rat)/\-298<=k/\k<=277/\aj tm 0= .aw .f32 b/\aj tm 4=ab k:=by
 intro dq sq;generalize bq:aP [0,4] sq=s0;revert bq s0 sq dq;apply dt;rintro d st ⟨b,N,j,k,hd,hN,hj,aF,hq,k1,k2,rfl⟩;have ot:N<2^200:=vj aF (by decide);have e1:=Kr hN ot;have hn:N/2^149<2^24:=by rw [xx (y7 _),<-xj];exact aF
 have ha:(aZ s (N/2^149)).natAbs=N/2^149:=by unfold aZ;split<;>omega
 obtain ⟨c,e2,hc⟩:=PF (n:=aZ s (N/2^149)) (by omega);rw [ha] at hc;have e3:=K9 hN hc;have hw:=aol (s:=s) (N:=N);by_cases w:N%2^149=0
 ·right
  rw [y5 (hw.2 w)] at e3;simp only [go_sem,ya,GM,e1,e2,e3,yN];exact ⟨_,_,rfl,by simp,_,_,b,N,k,rfl,rfl,hN,w,aF,hq,by omega,by omega,by simp only [go_sem,ya],by simp only [go_sem,ya]⟩
 ·left
  rw [yF (fun q=>w (hw.1 q))] at e3;have aAE:N<2^172:=by
   by_cases q:N<2^172
   ·exact q
   ·exact absurd (hN.whole (by omega)) w
  obtain ⟨b',e4,bJ⟩:=P5 hN (vj aF (aiW 173 276 (by decide)));have B6:j<149:=by
   rcases Nat.lt_or_ge j 149 with q | q
   ·exact q
   ·have:j=149:=by omega
    subst this;exact absurd (Nat.mod_eq_zero_of_dvd hj) w
  have wk:IntKind.wrap .i64 (k-1)=k-1:=wrap64 (by omega) (by omega);simp only [go_sem,ya,GM,e1,e2,e3,yS,e4,wk];refine ⟨_,d-1,rfl,by omega,b',2*N,j+1,k-1,by omega,bJ,by rw [yU,xg (2^j)];exact Nat.mul_dvd_mul_left 2 hj,by omega,?_,by omega,by omega,?_⟩
  ·rw [<-hq,xd]
   have:p2 k=p2 1*p2 (k-1):=by rw [<-du,show 1+(k-1)=k by omega]
   rw [this,oh];show (2:Rat)*(N:Rat)*p2 (k-1)=(N:Rat)*(2*p2 (k-1))
   grind
  ·simp only [go_sem,ya,aC,jj,jl]<;>rfl
def ajj (DX:Has P L 430 HF) {b:Nat} {s:Bool} {M:Nat} (hb:Fl b s M) (hs:s=true->M=0):∃(n:Nat) (k:Int),ai P L 430 [.aw .f32 b] (.aa [ab n,ab k])/\n<2^24/\-298<=k/\k<=277/\((n:Nat):Rat)*p2 k=b7 s M:=by
 have l1:=awS (P:=P) (L:=L) hs hb.lt M;unfold ai;rw [aG DX];simp only [go_sem,HF];generalize hq:D P L (.loop [0,4] GL) _=q;obtain ⟨ex,st,rfl,tm,ct,b',N,k,rfl,rfl,hN,Ya,aF,hk,t0,t4⟩:=cr hq l1 ⟨b,M,0,rfl,hb,by rw [vL,Nat.mul_one],fun _=>rfl,by simp only [go_sem,ya,aC,jj,jl]<;>rfl⟩
 simp only [go_sem,aC,t0,t4,jj,jl];generalize hq:D P L (.loop [0,4] GM) _=q;have l2:=awT (P:=P) (L:=L) (s:=s) (M:=M) 149;obtain ⟨ex,st,rfl,tm,ct,b2,N2,k2,rfl,rfl,Yb,hw,ot,ri,k3,k4,u0,u4⟩:=cr hq l2 ⟨b',N,0,k,rfl,hN,by rw [vL];exact Nat.one_dvd N,aF,by rw [<-Ya,xd,eJ],by omega,by omega,by simp only [go_sem,ya,aC,jj,jl]<;>rfl⟩
 have e1:=Kr Yb (vj ot (by decide));have hn:N2/2^149<2^24:=by rw [xx (y7 _),<-xj];exact ot
 have hx:=afC (s:=s) ri hw;have oP:aZ s (N2/2^149)=(N2/2^149:Nat):=by
  cases s with
  | false=>rfl
  | true=>
   have rn:=hs rfl
   have:N2=0:=by
    rw [rn] at ri;have hp:=K7 k2;have h0:((N2:Nat):Rat)*p2 k2=0:=ri;rcases ybp.1 h0 with q | q
    ·exact_mod_cast q
    ·exact absurd q hp
   subst this;rfl
 rw [oP] at hx e1;refine ⟨N2/2^149,k2,?_,hn,k3,k4,hx⟩;simp only [go_sem,ya,aC,u0,u4,jj,jl,e1];rfl
end
end VE
end
section
namespace VE
open Go (IntKind)
def awU:RT (2:Rat)=[50]:=by decide
def agZ {b:Nat} {s:Bool} {M:Nat} (h:Fl b s M):Hq 2500 (b7 s M):=by
 have hM:=h.lt;have k1:Hq 278 (((aZ s M:Int)):Rat):=aa5 278 (agW 278 277 hM (by decide)) (by decide);exact (k1.mul (M3 (-149) (by decide))).mono (by decide)
def asP (M:Nat):b7 true M= -b7 false M:=by
 unfold b7 aZ;rw [yL rfl,yu (by decide),vn];grind
section
variable {P:aM} {L:Lib}
def ayE (h:Fy0 P L) {k:Int} (h1: -300<=k) (h2:k<=300):ai P L 389 [.str [50],ab k] (.str (RT (p2 k))):=by
 rw [<-awU];by_cases c:k<0
 ·obtain ⟨n,rfl⟩:∃n:Nat,k= -(n:Int):=⟨k.natAbs,by omega⟩
  have:=ayD h.toRn h.Ie h.B2 KI (k:=n) (by omega) (by omega) (by omega) (by decide) (by decide)
  rwa [awR] at this
 ·obtain ⟨n,rfl⟩:∃n:Nat,k=n:=⟨k.natAbs,by omega⟩
  have:=ajh h.toRn h.B2 KI (k:=n) (by omega) (by omega)
  rwa [agY] at this
def afF (h:Fy P L) {b:Nat} {s:Bool} {M:Nat} (hb:Fl b s M) (hs:s=true->M=0):ai P L 429 [.aw .f32 b] (.str (RT (b7 s M))):=by
 obtain ⟨n,k,e1,hn,k1,k2,hq⟩:=ajj h.DX hb hs;have e0:=K8 hb Fl.zero;have aF:¬aZ s M<aZ false 0:=by
  cases s with
  | false=>show ¬(M:Int)<0;omega
  | true=>rw [hs rfl];decide
 rw [yF aF] at e0;have e2:=ayA h.toRm h.Wx (n:=(n:Int)) (by omega);have e3:=ayE h.toFy0 (k:=k) (by omega) (by omega);have kn:Hq 25 (((n:Int):Int):Rat):=⟨by rw [uB];unfold Bd;rw [xn];omega,by rw [uC];unfold Bd;decide⟩
 have e4:=Lc h.toRn kn (M3 k (by omega)) (by decide);have bL:(((n:Nat):Int):Rat)*p2 k=b7 s M:=hq;rw [bL] at e4;unfold ai at e1 e2 e3 e4;unfold ai;rw [aG h.aji];simp only [go_sem,ya,LO,e0,nS,e1,ji,jf,jg,e2,e3,e4]
def aAH (h:Fy P L) {b:Nat} {s:Bool} {M:Nat} (hb:Fl b s M):ai P L 429 [.aw .f32 b] (.str (RT (b7 s M))):=by
 by_cases hs:s=true->M=0
 ·exact afF h hb hs
 ·have kP:s=true:=Classical.byContradiction fun q=>hs fun q'=>absurd q' q
  have hM:M≠0:=fun q=>hs fun _=>q
  subst kP;obtain ⟨b',e1,bJ⟩:=awQ hb hM;have e2:=afF h bJ (fun q=>by cases q);have e3:=QC h.toRp (agZ bJ) (by decide);rw [<-asP] at e3;have e0:=K8 hb Fl.zero;have aF:aZ true M<aZ false 0:=by show -(M:Int)<0;omega
  rw [y5 aF] at e0;unfold ai at e2 e3;unfold ai;rw [aG h.aji];simp only [go_sem,ya,LO,e0,e1,nS,e2,e3]
end
end VE
end
section
namespace VE
open Go (IntKind)
open Ieee
section
variable {P:aM} {L:Lib}
def awV {n i:Nat} (hn:n<=16777216) (hi:i<=251\/(i<=252/\n<16777216)):n*2^i<2^276:=by
 rcases hi with h | ⟨h,h2⟩
 ·have:=xZ hn (yR (n:=2) (by decide) h)
  exact xJ this (P4 16777216 25 251 276 (by decide) rfl)
 ·have:=xZ (show n<=16777215 by omega) (yR (n:=2) (by decide) h)
  exact xJ this (P4 16777215 24 252 276 (by decide) rfl)
def awW {n:Nat} {k:Int} (hn:n<=16777216) (hk:k<=104) (AT:n=16777216->k<104):
  ∀(d:Nat) (st:St),(∃(b i:Nat),(i:Int)+d=max k 0/\Fl b false (n*2^(149+i))/\aP [1,5,6] st=⟨[(1,ab k),(5,.aw .f32 b),(6,ab i)],[],0,0⟩)->
   ∃ex s',D P L (.loop [1,5,6] GI) st=some (ex,s')/\∃tm ct b,s'=⟨tm,[],ct,0⟩/\ex= .exit 0/\Fl b false (n*2^(149+(max k 0).toNat))/\aj tm 1=ab k/\aj tm 5= .aw .f32 b:=by
 intro dq sq;generalize bq:aP [1,5,6] sq=s0;revert bq s0 sq dq;apply dt;rintro d st ⟨b,i,hd,hN,rfl⟩;by_cases c:(i:Int)<k
 ·left
  obtain ⟨b',e1,bJ⟩:=P5 hN (awV hn (by
   by_cases q:n=16777216
   ·have:=AT q;left;omega
   ·right;omega))
  have wi:IntKind.wrap .i64 ((i:Int)+1)=((i+1:Nat):Int):=wrap64 (by omega) (by omega);simp only [go_sem,ya,GI,c,yq,e1,wi]
  refine ⟨_,d-1,rfl,by omega,b',i+1,by omega,by
   rw [show 149+(i+1)=(149+i)+1 by omega,yU,<-xb,xg];exact bJ,?_⟩
  simp only [go_sem,ya,aC,jj,jl]<;>rfl
 ·right
  have hi:(max k 0).toNat=i:=by omega
  simp only [go_sem,ya,GI,c,yv];exact ⟨_,_,rfl,by simp,_,_,b,rfl,rfl,by rw [hi];exact hN,by simp only [go_sem,ya],by simp only [go_sem,ya]⟩
def awX {n:Nat} {k:Int} (fg: -149<=k) (hk:k<=104):
  ∀(d:Nat) (st:St),(∃(b:Nat) (i:Int),i-d=min k 0/\i<=0/\Fl b false (n*2^(149+i+max k 0).toNat)/\aP [1,5,7] st=⟨[(1,ab k),(5,.aw .f32 b),(7,ab i)],[],0,0⟩)->
   ∃ex s',D P L (.loop [1,5,7] GJ) st=some (ex,s')/\∃tm ct b,s'=⟨tm,[],ct,0⟩/\ex= .exit 2/\Fl b false (n*2^(149+k).toNat)/\aj tm 5= .aw .f32 b:=by
 intro dq sq;generalize bq:aP [1,5,7] sq=s0;revert bq s0 sq dq;apply dt;rintro d st ⟨b,i,hd,oQ,hN,rfl⟩;by_cases c:k<i
 ·left
  obtain ⟨t,ht⟩:∃t,(149+i+max k 0).toNat=t+1:=⟨(148+i+max k 0).toNat,by omega⟩;rw [ht,yU,<-xb] at hN;obtain ⟨b',e1,bJ⟩:=P6 hN (by omega);rw [Nat.mul_div_cancel _ (by decide)] at bJ;have wi:IntKind.wrap .i64 (i-1)=i-1:=wrap64 (by omega) (by omega);simp only [go_sem,ya,GJ,c,yq,e1,wi];refine ⟨_,d-1,rfl,by omega,b',i-1,by omega,by omega,by rw [show (149+(i-1)+max k 0).toNat=t by omega];exact bJ,?_⟩
  simp only [go_sem,ya,aC,jj,jl]<;>rfl
 ·right
  simp only [go_sem,ya,GJ,c,yv];exact ⟨_,_,rfl,by simp,_,_,b,rfl,rfl,by rw [show (149+k).toNat=(149+i+max k 0).toNat by omega];exact hN,by simp only [go_sem,ya]⟩
def aAI (Ii:Has P L 390 HE) {n:Nat} {k:Int} (hn:n<=16777216) (fg: -149<=k) (hk:k<=104) (AT:n=16777216->k<104):∃b,ai P L 390 [ab n,ab k] (.aw .f32 b)/\Fl b false (n*2^(149+k).toNat):=by
 obtain ⟨b0,e0,de⟩:=PF (n:=(n:Int)) (by omega);rw [xn,yF (show ¬(n:Int)<0 by omega)] at de;have l0:=awW (P:=P) (L:=L) hn hk AT (max k 0).toNat;have l1:=awX (P:=P) (L:=L) (n:=n) fg hk (-(min k 0)).toNat;unfold ai;rw [aG Ii];simp only [go_sem,ya,HE,e0];generalize hq:D P L (.loop [1,5,6] GI) _=q;obtain ⟨ex,st,rfl,tm,ct,b1,rfl,rfl,jU,t1,t5⟩:=cr hq l0 ⟨b0,0,by omega,de,by simp only [go_sem,ya,aC,jj,jl]<;>rfl⟩
 simp only [go_sem,aC,t1,t5,jj,jl];generalize hq:D P L (.loop [1,5,7] GJ) _=q;obtain ⟨ex,st,rfl,tm,ct,b2,rfl,rfl,NM,u5⟩:=cr hq l1 ⟨b1,0,by omega,by omega,by rw [show (149+(0:Int)+max k 0).toNat=149+(max k 0).toNat by omega];exact jU,by simp only [go_sem,ya,aC,jj,jl]<;>rfl⟩
 refine ⟨b2,?_,NM⟩;simp only [go_sem,aC,u5,jj,jl];rfl
end
end VE
end
section
namespace VE
open Go (IntKind)
open Ieee
def Zm (q:Rat):0<=bV q.num↔0<=q:=by
 rw [<-tv];unfold bV;constructor
 ·intro h;split at h<;>omega
 ·intro h;split
  ·omega
  ·split<;>omega
def JC (q:Rat):bV q.num<0↔q<0:=by
 have h:=Zm q;constructor
 ·intro c;exact wM.1 fun q'=>by have:=h.2 q';omega
 ·intro c;exact yad.1 fun q'=>absurd (h.1 q') (wM.2 c)
def aab (q:Rat):(-q).num= -q.num:=rfl
def OA (q:Rat):0<bV q.num↔0<q:=by
 have h:=JC (-q);rw [aab] at h;have h2:0<bV q.num↔bV (-q.num)<0:=by
  unfold bV;constructor
  ·intro c;split at c
   ·omega
   ·split at c
    ·omega
    ·rw [yL (by omega)];decide
  ·intro c;split at c
   ·rw [yu (by omega),yu (by omega)];decide
   ·split at c<;>omega
 rw [h2,h];constructor
 ·intro c;grind
 ·intro c;grind
def amJ (q:Rat):bV q.num=0↔q=0:=by
 have h1:=OA q;have h2:=JC q;constructor
 ·intro c;have a1:¬0<q:=fun x=>by have:=h1.2 x;omega
  have a2:¬q<0:=fun x=>by have:=h2.2 x;omega
  exact Rat.le_antisymm (wD.1 a1) (wD.1 a2)
 ·rintro rfl;decide
structure KP (a:Rat) (k:Int):Prop where
 lo: -149<=k
 lt:a*p2 (-k)<16777216
 ge:8388608<=a*p2 (-k)\/k= -149
def nR (y:Rat):Nat:=if ij<y-(y.floor.toNat:Rat)\/(y-(y.floor.toNat:Rat)=ij/\y.floor.toNat%2=1) then y.floor.toNat+1 else y.floor.toNat
def awY {n:Nat} {K:Nat} (h:n<2^K) (hK:1<=K):Hq K ((n:Nat):Rat):=
 ⟨by show Bd K (((n:Nat):Int):Rat).num;rw [uB];unfold Bd;rw [xn];exact h,by show Bd K ((((n:Nat):Int):Rat).den:Int);rw [uC];unfold Bd;exact Nat.one_lt_two_pow (by omega)⟩
end VE
end
section
namespace VE
open Go (IntKind)
open Ieee
def awZ {a:Rat} {k j:Int} (h1:KP a k) (h2:KP a j):k=j:=by
 have key:∀{k j:Int},KP a k->KP a j->k<j->False:=fun {k j} h1 h2 aF=>by
  rcases h2.ge with g | g
  ·obtain ⟨d,hd⟩:∃d:Nat,j=k+1+d:=⟨(j-k-1).toNat,by omega⟩;have e:a*p2 (-k)=a*p2 (-j)*p2 ((d+1:Nat):Int):=by
    rw [xB,<-du,show -j+((d+1:Nat):Int)= -k by omega]
   have h3:=h1.lt;rw [e,eJ] at h3;have h4:(2:Rat)<=((2^(d+1):Nat):Rat):=by
    have:2<=2^(d+1):=by
     have:=yR (n:=2) (by decide) (show 1<=d+1 by omega)
     simpa using this
    exact_mod_cast this
   have h5:(8388608:Rat)*2<=a*p2 (-j)*((2^(d+1):Nat):Rat):=by
    have q1:(8388608:Rat)*2<=(a*p2 (-j))*2:=xz g (by decide);have q2:(a*p2 (-j))*2<=(a*p2 (-j))*((2^(d+1):Nat):Rat):=wR h4 (tI (by decide) g);exact tI q1 q2
   grind
  ·have:=h1.lo;omega
 rcases vU k j with c | c | c
 ·exact (key h1 h2 c).elim
 ·exact c
 ·exact (key h2 h1 c).elim
def NF (a:Rat) (o:Option Nat):Prop:=
 (p2 128<=a/\o=none)\/(a<p2 128/\∃k,KP a k/\k<=104/\((nR (a*p2 (-k))=16777216/\k=104/\o=none)\/(¬(nR (a*p2 (-k))=16777216/\k=104)/\o=some (nR (a*p2 (-k))*2^(149+k).toNat))))
def P8 {a:Rat} {o q:Option Nat} (h1:NF a o) (h2:NF a q):o=q:=by
 rcases h1 with ⟨a1,rfl⟩ | ⟨a1,k,k1,k2,k3⟩
 ·rcases h2 with ⟨_,rfl⟩ | ⟨b1,_⟩
  ·rfl
  ·exact absurd a1 (wM.2 b1)
 ·rcases h2 with ⟨b1,rfl⟩ | ⟨b1,j,j1,j2,j3⟩
  ·exact absurd b1 (wM.2 a1)
  ·have:=awZ k1 j1
   subst this;rcases k3 with ⟨x1,x2,rfl⟩ | ⟨x1,rfl⟩
   ·rcases j3 with ⟨_,_,rfl⟩ | ⟨y1,rfl⟩
    ·rfl
    ·exact absurd ⟨x1,x2⟩ y1
   ·rcases j3 with ⟨y1,y2,rfl⟩ | ⟨_,rfl⟩
    ·exact absurd ⟨y1,y2⟩ x1
    ·rfl
def OT {y:Rat} (h:0<=y):((y.floor.toNat:Nat):Int)=y.floor:=by
 have:0<=y.floor:=ybj.2 h
 omega
def aa8 {y:Rat} (h0:0<=y) (h:y<16777216):y.floor.toNat<16777216:=by
 have h1:=OT h0;have h2:((y.floor:Int):Rat)<=y:=yar y;have h3:((y.floor:Int):Rat)<((16777216:Int):Rat):=by
  have:((16777216:Int):Rat)=16777216:=rfl
  grind
 have:y.floor<16777216:=wV.1 h3
 omega
def ayF {y:Rat} (h0:0<=y) (h:y<16777216):nR y<=16777216:=by
 have:=aa8 h0 h
 unfold nR;split<;>omega
def aqr {y:Rat} (h0:0<=y) (h:y<ij):nR y=0:=by
 have hh:ij=1/2:=by decide+kernel
 have hf:y.floor=0:=by
  have h1:0<=y.floor:=ybj.2 h0;have h2:((y.floor:Int):Rat)<=y:=yar y;have h3:((y.floor:Int):Rat)<((1:Int):Rat):=by
   rw [hh] at h
   have:((1:Int):Rat)=1:=rfl
   grind
  have:y.floor<1:=wV.1 h3
  omega
 unfold nR;rw [hf];rw [yu]
 ·rfl
 ·intro q;have e:((Int.toNat 0:Nat):Rat)=0:=rfl;rw [e] at q;rcases q with q | ⟨q,_⟩<;>grind
end VE
end
section
namespace VE
open Go (IntKind)
open Ieee
def zf (b:Nat):b9 (.aw .f32 b)= .aw .f32 b:=rfl
def bz (a:Rat):Rat:=if a<0 then -a else a
def cE (a:Rat) (M:Nat):Bool:=decide (a<0)&&decide (M≠0)
end VE
end
section
namespace VE
open Go (IntKind)
section
variable {P:aM} {L:Lib}
def ag0 (h:Tx P L) {v:AV} {z:Int} {K:Nat} (hv:cw v z) (hz:Bd K z) (hK:K<=4000000000) (lM:z≠0):∃B:Nat,ai P L 172 [v] (ab B)/\z.natAbs<2^B/\0<B/\2^(B-1)<=z.natAbs/\B<=K+64:=by
 obtain ⟨s,w,rfl,hn⟩:=hv;obtain ⟨l,u⟩:=hn.aJ;obtain ⟨r,e1,hr⟩:=ss h.toNu hn;obtain ⟨ws,hw,g,nz',hb⟩:=hr;have hl:ws.length<=K/64+1:=mV nz' hb (yE hz (aqk K));unfold ai at e1 ⊢;by_cases h0:ws=[]
 ·subst h0;exact absurd (show z.natAbs=0 by rw [<-hb];rfl) (by omega)
 ·have hp:0<ws.length:=List.length_pos_iff.2 h0;have mM:=J0 nz' h0;have AG:=gi (show 0<18446744073709551616 by decide) g (ws.length-1);have ei:=hw.cB (i:=ws.length-1) (by omega);have ep:=iK (b:=18446744073709551616) (l:=ws) (ws.length-1);have Ia:=lk (zt g (ws.length-1));rw [List.length_take,xA (by omega)] at Ia;rw [show ws.length-1+1=ws.length by omega,List.take_of_length_le (yA _)] at ep;generalize ws.getD (ws.length-1) 0=top at*
  have e2:=awq (P:=P) (f:=D P L) h.azT AG;have hle:=PE 64 top;have Ld:=asu hp (uQ mM) AG ep Ia;obtain ⟨q1,q2,q3⟩:=Ow 64 top AG;obtain ⟨q4,q5⟩:=q3 (uQ mM);have aY:2^(64*(ws.length-1)+dK 64 top-1)<=z.natAbs:=by
   rw [show 64*(ws.length-1)+dK 64 top-1=64*(ws.length-1)+(dK 64 top-1) by omega,xj,Nat.pow_mul,<-hb,ep];exact Nat.le_trans (yP _ q5) (Nat.le_add_left _ _)
  rw [hb] at Ld;refine ⟨64*(ws.length-1)+dK 64 top,?_,Ld,by omega,aY,by omega⟩;rw [aG h.azU]
  simp only [go_sem,ya,yd,Q5,bf,cm,b8,u.pu,u.an,u.one,e1,hw.len,show ¬(ws.length:Int)=0 by omega,show (ws.length:Int)-1=((ws.length-1:Nat):Int) by omega,wrapN (n:=ws.length-1) (by omega),show (64:Int)*((ws.length-1:Nat):Int)=((64*(ws.length-1):Nat):Int) by omega,wrapN (n:=64*(ws.length-1)) (by omega),ei,e2,show ((64*(ws.length-1):Nat):Int)+((dK 64 top:Nat):Int)=((64*(ws.length-1)+dK 64 top:Nat):Int) from rfl,wrapN (n:=64*(ws.length-1)+dK 64 top) (by omega)]
def aAJ (h:Fr' P L) (Ih:Has P L 150 Hn) (Ij:Has P L 229 Dl) {v:AV} {y:Rat} (hv:dG v y) (ky:Hq 5000 y) (h0:0<=y) (aF:y<16777216):ai P L 229 [v] (ab (nR y)):=by
 have D5:=OT h0;have aGs:=aa8 h0 aF;have hR:nR y=if ij<y-(y.floor.toNat:Rat)\/(y-(y.floor.toNat:Rat)=ij/\y.floor.toNat%2=1) then y.floor.toNat+1 else y.floor.toNat:=rfl
 obtain ⟨r,e1,hr⟩:=azS h hv ky (by decide);rw [<-D5] at hr;generalize y.floor.toNat=n at*
 have e2:=aAG Ih hr (by omega) (by omega);obtain ⟨q,e3,hq⟩:=MV h hr;have kn:Hq 25 (((n:Nat):Int):Rat):=awY (n:=n) (by omega) (by decide);obtain ⟨d,e4,hd⟩:=m50 h hv hq ky (kn.mono (by decide)) (by decide);obtain ⟨o1,i1⟩:=sr h.toNu (z:=1) (by decide) (by decide);obtain ⟨o2,i2⟩:=sr h.toNu (z:=2) (by decide) (by decide);obtain ⟨hf,e5,hh⟩:=MU h i1 i2 (by decide) (K:=2) (by unfold Bd;decide) (by unfold Bd;decide) (by decide)
 have agH:Rat.divInt 1 2=ij:=by decide+kernel
 rw [agH] at hh;have kd:Hq 6000 (y-(((n:Nat):Int):Rat)):=(ky.sub kn).mono (by decide);have e6:=m71 h hd hh kd (WA.mono (by decide)) (by decide);have qu:(((n:Nat):Int):Rat)=(n:Rat):=rfl;have r2:Int.tmod (n:Int) 2=((n%2:Nat):Int):=by rw [Int.tmod_eq_emod_of_nonneg (by omega)];omega
 have w1:IntKind.wrap .i64 ((n:Int)+1)=((n+1:Nat):Int):=wrap64 (by omega) (by omega);have w0:IntKind.wrap .i64 ((n:Int)+((n%2:Nat):Int))=((n+n%2:Nat):Int):=wrap64 (by omega) (by omega);obtain ⟨v1,v2,v3,v4,rfl,fG⟩:=hv.gen;obtain ⟨d1,d2,d3,d4,rfl,fd⟩:=hd.gen;obtain ⟨h1,h2,h3,h4,rfl,fh⟩:=hh.gen;obtain ⟨q1,q2,q3,q4,rfl,fq⟩:=hq.gen;obtain ⟨s,w,rfl,hn⟩:=hr;obtain ⟨l,u⟩:=hn.aJ;unfold ai at e1 e2 e3 e4 e5 e6 o1 o2;have un:=oX
 rcases (show y-(n:Rat)<ij\/y-(n:Rat)=ij\/ij<y-(n:Rat) by
  by_cases a:y-(n:Rat)<ij
  ·exact .inl a
  ·by_cases b:y-(n:Rat)=ij
   ·exact .inr (.inl b)
   ·exact .inr (.inr (Rat.lt_of_le_of_ne (wD.1 a) (fun c=>b c.symm)))) with c | c | c
 ·have fU:nR y=n:=by
   rw [hR,yu];rintro (q | ⟨q,_⟩)<;>grind
  have hc:og (y-(((n:Nat):Int):Rat)) ij= -1:=by unfold og;rw [qu,yL c]
  rw [hc] at e6;rw [fU];unfold ai;rw [aG Ij];simp only [go_sem,ya,yd,Dl,bf,fG.an,fG.o1,fG.o2,fG.o3,fG.o4,e1,u.an,e2,e3,fq.an,e4,fd.an,fh.an,o1,o2,e5,e6,b8,bF,ji,jf,jg,cm,yt,cT u,yh,dT,yt,vE,yv]
 ·have hc:og (y-(((n:Nat):Int):Rat)) ij=0:=by unfold og;rw [qu,yu (by rw [c];exact uj),yL c]
  have fU:nR y=n+n%2:=by
   rw [hR];by_cases q:n%2=1
   ·rw [yL (.inr ⟨c,q⟩),q]
   ·rw [yu (by rintro (x | ⟨_,x⟩)<;>grind)];omega
  rw [hc] at e6;rw [fU];unfold ai;rw [aG Ij];simp only [go_sem,ya,yd,Dl,bf,fG.an,fG.o1,fG.o2,fG.o3,fG.o4,e1,u.an,e2,e3,fq.an,e4,fd.an,fh.an,o1,o2,e5,e6,b8,bF,ji,jf,jg,cm,yt,cT u,yh,dT,yt,vE,yv,yq,fo _ _ _ (show (2:Int)≠0 by decide),r2,w0]
 ·have fU:nR y=n+1:=by rw [hR,yL (.inl c)]
  have hc:og (y-(((n:Nat):Int):Rat)) ij=1:=by
   unfold og;rw [qu,yu (by intro x;grind),yu (by intro x;grind)]
  rw [hc] at e6;rw [fU];unfold ai;rw [aG Ij];simp only [go_sem,ya,yd,Dl,bf,fG.an,fG.o1,fG.o2,fG.o3,fG.o4,e1,u.an,e2,e3,fq.an,e4,fd.an,fh.an,o1,o2,e5,e6,b8,bF,ji,jf,jg,cm,yt,cT u,yh,dT,yt,yq,w1]
end
end VE
end
section
namespace VE
open Go (IntKind)
open Ieee
def F1 {f:Format} {x y m n:Nat} {s t:Bool} {e j:Int} (hx:lP f x s m e) (hy:lP f y t n j):f.order x y=some (if fv s m e<fv t n j then .lt else if fv s m e=fv t n j then .eq else .gt):=by
 unfold Format.order;rw [hx.read,hy.read];unfold Datum.order;have h1:=Kq (m:=m) (s:=s) (show min e j<=e by omega);have h2:=Kq (m:=n) (s:=t) (show min e j<=j by omega);have hp:=iU (min e j)
 dsimp only
 generalize signed s m (e-min e j).toNat=a at*
 generalize signed t n (j-min e j).toNat=b at*
 rw [<-h1,<-h2]
 congr 1
 have lt_iff:(a:Rat)*p2 (min e j)<(b:Rat)*p2 (min e j)↔a<b:=by
  rw [wm hp];exact wV
 have eq_iff:(a:Rat)*p2 (min e j)=(b:Rat)*p2 (min e j)↔a=b:=by
  constructor
  ·intro q;rcases vU a b with c | c | c
   ·have:=lt_iff.2 c;rw [q] at this;exact absurd this (uj)
   ·exact c
   ·have:=(wm hp).2 (wV.2 c);rw [q] at this;exact absurd this (uj)
  ·intro q;rw [q]
 rcases vU a b with c | c | c
 ·rw [yL (lt_iff.2 c)];exact Int.compare_eq_lt.2 c
 ·rw [yu (fun q=>by have:=lt_iff.1 q;omega),yL (eq_iff.2 c)];exact Int.compare_eq_eq.2 c
 ·rw [yu (fun q=>by have:=lt_iff.1 q;omega),yu (fun q=>by have:=eq_iff.1 q;omega)];exact Int.compare_eq_gt.2 c
structure Dn (b m:Nat) (e:Int):Prop where
 is:lP double b false m e
 nm:4503599627370496<=m
def ru:double.leastPlace= -1074:=by decide
def Dn.b {b m:Nat} {e:Int} (h:Dn b m e): -1074<=e/\m<9007199254740992/\e<=971:=by
 have h1:=h.is.can.lp;have h2:=h.is.can.lt;have h4:=h.is.lt;have h3:=h.nm;rw [ru] at h1;have h4:(e-double.leastPlace).toNat*4503599627370496+m<9218868437227405312:=h4;rw [ru] at h4;exact ⟨h1,h2,by omega⟩
def Dn.bits {b m:Nat} {e:Int} (h:Dn b m e):b=(e+1075).toNat*4503599627370496+(m-4503599627370496):=by
 have hb:=h.b;have hn:=h.nm
 have:=h.is.eq
 rw [this];show (e-double.leastPlace).toNat*4503599627370496+m=_
 rw [ru];obtain ⟨t,ht⟩:∃t:Nat,e=(t:Int)-1074:=⟨(e+1074).toNat,by omega⟩;rw [show (e - -1074).toNat=t by omega,show (e+1075).toNat=t+1 by omega];omega
def Dn.mk' {m:Nat} {e:Int} (h1: -1074<=e) (h2:e<=971) (h3:4503599627370496<=m) (h4:m<9007199254740992):Dn ((e+1075).toNat*4503599627370496+(m-4503599627370496)) m e:=by
 refine ⟨⟨⟨by rw [ru];exact h1,h4,.inl h3⟩,?_,?_⟩,h3⟩
 ·show (e-double.leastPlace).toNat*4503599627370496+m<9218868437227405312
  rw [ru];omega
 ·show _=(e-double.leastPlace).toNat*4503599627370496+m
  rw [ru];obtain ⟨t,ht⟩:∃t:Nat,e=(t:Int)-1074:=⟨(e+1074).toNat,by omega⟩;rw [show (e - -1074).toNat=t by omega,show (e+1075).toNat=t+1 by omega];omega
def alU {x:Nat} (h:x<2^63):x&&&(2^63*1+(2^52-1))=x%2^52:=by
 refine Nat.eq_of_testBit_eq fun i=>?_
 rw [Nat.testBit_and,Nat.testBit_mod_two_pow,Nat.testBit_two_pow_mul_add _ (show 2^52-1<2^63 by decide)];by_cases c:i<63
 ·rw [yL c,Nat.testBit_two_pow_sub_one,Bool.and_comm]
 ·have:Nat.testBit x i=false:=Nat.testBit_lt_two_pow (yE h (yR (by decide) (by omega)))
  rw [this];simp
def amK {x:Nat} (h:x<9223372036854775808):binOp .andNot (.int .u64 (x:Int)) (.int .u64 9218868437227405312)=some (.int .u64 ((x%4503599627370496:Nat):Int)):=by
 show some (AV.int .u64 (IntKind.wrap .u64 ((xC 64 (x:Int)&&&~~~(xC 64 9218868437227405312)).toNat:Int)))=_
 rw [tF,yaL,wQ,wQ];rw [show ((x:Int)%((2^64:Nat):Int)).toNat=x by omega,show ((9218868437227405312:Int)%((2^64:Nat):Int)).toNat=9218868437227405312 by decide];rw [show 2^64-1-9218868437227405312=2^63*1+(2^52-1) by decide,alU (show x<2^63 from h)]
 have:x%2^52<18446744073709551616:=xJ (Nat.mod_le _ _) (by omega)
 rw [wrapM,yG this]
def alV {x:Nat} (h:x<9223372036854775808):binOp .andNot (.int .u64 (x:Int)) (.int .u64 9223372036854775808)=some (.int .u64 (x:Int)):=by
 show some (AV.int .u64 (IntKind.wrap .u64 ((xC 64 (x:Int)&&&~~~(xC 64 9223372036854775808)).toNat:Int)))=_
 rw [tF,yaL,wQ,wQ];rw [show ((x:Int)%((2^64:Nat):Int)).toNat=x by omega,show ((9223372036854775808:Int)%((2^64:Nat):Int)).toNat=9223372036854775808 by decide];rw [show 2^64-1-9223372036854775808=2^63-1 by decide,tP,yG (show x<2^63 from h)];rw [wrapM,yG (by omega)]
def aqs {x:Nat} (h:x<2048):binOp .and (.int .i64 (x:Int)) (.int .i64 2047)=some (.int .i64 (x:Int)):=by
 show some (AV.int .i64 (IntKind.wrap .i64 ((xC 64 (x:Int)&&&xC 64 2047).toNat:Int)))=_
 rw [tF,wQ,wQ];rw [show ((x:Int)%((2^64:Nat):Int)).toNat=x by omega,show ((2047:Int)%((2^64:Nat):Int)).toNat=2^11-1 by decide,tP,yG (show x<2^11 from h)];rw [wrap64 (by omega) (by omega)]
structure Fl' (P:aM) (L:Lib):Prop where
 ajk:Has P L 230 LB
 ajl:Has P L 243 LC
 aAK:Has P L 245 Q6
 aAL:Has P L 246 Q7
 aAM:Has P L 247 Q8
 aAN:L.pure 248=some JZ
 aAO:L.pure 251=some Jj
 aAP:Has P L 252 Q9
def pc (n:Nat) (hp:Hp) (b:Nat):freeze (n+1) hp (.aw .f64 b)=some (.aw .f64 b,hp):=rfl
def aom (b:Nat):b9 (.aw .f64 b)= .aw .f64 b:=rfl
def pX (b:Nat):shut (.aw .f64 b)= .aw .f64 b:=rfl
section
variable {P:aM} {L:Lib}
def ajm (h:Fl' P L) (b:Nat):ai P L 248 [.aw .f64 b] (.int .u64 b):=by
 unfold ai;rw [gN h.aAN];rfl
def ajn (h:Fl' P L) {b:Nat} (hb:b<18446744073709551616):ai P L 251 [.int .u64 b] (.aw .f64 b):=by
 unfold ai;rw [gN h.aAO];rfl
def ajo (h:Fl' P L) {b m:Nat} {e:Int} (hb:Dn b m e):ai P L 252 [.aw .f64 b] (.aw .f64 b):=by
 have hx:b<9223372036854775808:=by
  have h1:=hb.bits;have h2:=hb.b;have h3:=hb.nm;omega
 have e1:=ajm h b;have e2:=alV hx;have e3:=ajn h (b:=b) (by omega);unfold ai at e1 e3;unfold ai;rw [aG h.aAP];simp only [go_sem,ya,Q9,pc,e1,e2,e3];rfl
def Dn.pos {b m:Nat} {e:Int} (h:Dn b m e):fv false m e=(m:Rat)*p2 e:=by unfold fv sg;rw [yu (by decide),uD]
def maxD:lP double 9218868437227405311 false 9007199254740991 971:=⟨⟨by decide,by decide,.inl (by decide)⟩,by decide,by decide⟩
def minD:lP double 4503599627370496 false 4503599627370496 (-1074):=⟨⟨by decide,by decide,.inl (by decide)⟩,by decide,by decide⟩
def Lf:lP double 0 false 0 (-1074):=⟨⟨by decide,by decide,.inr (by decide)⟩,by decide,by decide⟩
def Dn.M5 {b m:Nat} {e:Int} (h:Dn b m e) (h1:1<=(m:Rat)*p2 e) (h2:(m:Rat)*p2 e<=16777216):
  binOp .eql (.aw .f64 b) (.aw .f64 0)=some (.bool false)/\binOp .gtr (.aw .f64 b) (.aw .f64 9218868437227405311)=some (.bool false)/\binOp .neq (.aw .f64 b) (.aw .f64 b)=some (.bool false)/\binOp .lss (.aw .f64 b) (.aw .f64 4503599627370496)=some (.bool false):=by
 have hp:=h.pos;have oz:=F1 h.is Lf;have om:=F1 h.is maxD;have oo:=F1 h.is h.is;have on:=F1 h.is minD;have z:fv false 0 (-1074)=0:=by unfold fv;simp
 have mx:fv false 9007199254740991 971>16777216:=by
  unfold fv sg;rw [yu (by decide),uD,show p2 971=((2^971:Nat):Rat) from eJ 971,<-xd]
  have:((16777216:Nat):Rat)<((9007199254740991*2^971:Nat):Rat):=by
   rw [uW];exact asv 16777216 9007199254740991 971 (by decide)
  exact this
 have mn:fv false 4503599627370496 (-1074)<1:=by
  unfold fv sg;rw [yu (by decide),uD];have e1:((4503599627370496:Nat):Rat)=p2 52:=(eJ 52).symm;rw [e1,<-du];have h3:=KF 1022;have h4:(1:Rat)<p2 1022:=by
   exact aws 1022 (by decide)
  rw [show (52:Int)+ -1074= -1022 by decide];refine wM.1 fun q=>?_
  have h5:1*p2 1022<=p2 (-1022)*p2 1022:=xz q (wa (iU _));rw [h3,uD] at h5;exact absurd h4 (wD.2 h5)
 rw [hp] at oz om oo on;refine ⟨?_,?_,?_,?_⟩
 ·show some (AV.bool (double.order b 0==some .eq))=_
  rw [oz,z,yu (by grind),yu (by grind)];rfl
 ·show some (AV.bool (double.order b 9218868437227405311==some .gt))=_
  rw [om,yL (by grind)];rfl
 ·show some (AV.bool (double.order b b !=some .eq))=_
  rw [oo,yu (by grind),yL rfl];rfl
 ·show some (AV.bool (double.order b 4503599627370496==some .lt))=_
  rw [on,yu (by grind)]
  split<;>rfl
def aAQ (h:Fl' P L) {b m:Nat} {e:Int} (hb:Dn b m e) (h1:1<=(m:Rat)*p2 e) (h2:(m:Rat)*p2 e<=16777216):ai P L 245 [.aw .f64 b,.int .i64 0] (.bool false):=by
 obtain ⟨_,c2,_,_⟩:=hb.M5 h1 h2;have e1:=ajo h hb;unfold ai at e1;unfold ai;rw [aG h.aAK];simp only [go_sem,ya,Q6,pc,pX,e1,c2,yq]
def aAR (h:Fl' P L) {b m:Nat} {e:Int} (hb:Dn b m e) (h1:1<=(m:Rat)*p2 e) (h2:(m:Rat)*p2 e<=16777216):ai P L 246 [.aw .f64 b] (.bool false):=by
 obtain ⟨_,_,c3,_⟩:=hb.M5 h1 h2;unfold ai;rw [aG h.aAL];simp only [go_sem,ya,Q7,c3]
def aAS (h:Fl' P L) {b m:Nat} {e:Int} (hb:Dn b m e) (h1:1<=(m:Rat)*p2 e) (h2:(m:Rat)*p2 e<=16777216):ai P L 247 [.aw .f64 b] (.aa [.aw .f64 b,ab 0]):=by
 obtain ⟨_,_,_,c4⟩:=hb.M5 h1 h2;have e1:=ajo h hb;unfold ai at e1;unfold ai;rw [aG h.aAM];simp only [go_sem,ya,Q8,pc,pX,e1,c4];rfl
def aAT {x:Nat}:binOp .shr (.int .u64 (x:Int)) (.int .u64 52)=some (.int .u64 ((x/4503599627370496:Nat):Int)):=by
 rw [afo];show some (AV.int .u64 ((x:Int).fdiv 4503599627370496))=_
 rw [Int.fdiv_eq_ediv_of_nonneg _ (by decide)];rfl
def aAU {x:Nat} (h:x<2048):binOp .shl (.int .u64 (x:Int)) (.int .u64 52)=some (.int .u64 ((x*4503599627370496:Nat):Int)):=by
 rw [afn];show some (AV.int .u64 (IntKind.wrap .u64 ((x:Int)*4503599627370496)))=_
 have:(x:Int)*4503599627370496=((x*4503599627370496:Nat):Int):=by rw [Int.natCast_mul];rfl
 rw [this,wrapM,yG (by omega)]
def asQ {F E:Nat} (h:F<4503599627370496):F|||E*4503599627370496=E*4503599627370496+F:=by
 have:=Nat.two_pow_add_eq_or_of_lt (i:=52) (b:=F) h E
 rw [Nat.or_comm,xg E];exact this.symm
def aAV:double.read 4607182418800017408= .number false 4503599627370496 (-52):=by decide
def aAW {y m:Nat} {e:Int} (hr:double.read y= .number false m e):binOp .mul (.aw .f64 4607182418800017408) (.aw .f64 y)=some (.aw .f64 (double.write (.number false (4503599627370496*m) (-52+e)))):=by
 have:double.mul 4607182418800017408 y=some (double.write (.number false (4503599627370496*m) (-52+e))):=by
  unfold Format.mul;rw [aAV,hr];rfl
 show (match double.mul 4607182418800017408 y with | some b=>some (AV.aw .f64 b) | none=>none)=_
 rw [this]
def aAX (h:Fl' P L) {b m:Nat} {e k:Int} (hb:Dn b m e) (he1: -52<=e) (he2:e<=-28) (h1:1<=(m:Rat)*p2 e) (h2:(m:Rat)*p2 e<=16777216) (fg: -149<=k) (iy:k<=104):∃r m' e',ai P L 243 [.aw .f64 b,ab k] (.aw .f64 r)/\lP double r false m' e'/\(m':Rat)*p2 e'=(m:Rat)*p2 (e+k):=by
 obtain ⟨c1,_,_,_⟩:=hb.M5 h1 h2;have e1:=aAQ h hb h1 h2;have e2:=aAR h hb h1 h2;have e3:=aAS h hb h1 h2;have e4:=ajm h b;obtain ⟨_,b2,_⟩:=hb.b;have hn:=hb.nm;have Ld:=hb.bits;obtain ⟨E,hE⟩:∃E:Nat,(E:Int)=e+1075:=⟨(e+1075).toNat,by omega⟩;obtain ⟨F,hF⟩:∃F,m=4503599627370496+F:=⟨m-4503599627370496,by omega⟩;have hx:b=E*4503599627370496+F:=by rw [Ld,show (e+1075).toNat=E by omega,hF];omega
 have hdiv:b/4503599627370496=E:=by omega
 have kO:b%4503599627370496=F:=by omega
 have q1:=aAT (x:=b);rw [hdiv] at q1;have q2:=aqs (x:=E) (by omega);have q3:=amK (x:=b) (by omega);rw [kO] at q3;obtain ⟨G,hG⟩:∃G:Nat,(G:Int)=e+k+1075:=⟨(e+k+1075).toNat,by omega⟩;have q4:=aAU (x:=G) (by omega);have q5:=NN (a:=F) (b:=G*4503599627370496) (by omega) (by omega);rw [asQ (by omega)] at q5;have hD:=Dn.mk' (m:=m) (e:=e+k) (by omega) (by omega) hn b2;rw [show (e+k+1075).toNat=G by omega,show m-4503599627370496=F by omega] at hD;have Yc:G*4503599627370496+F<18446744073709551616:=by omega
 obtain ⟨Y,hY⟩:∃Y,Y=G*4503599627370496:=⟨_,rfl⟩;rw [<-hY] at q4 q5 hD Yc;obtain ⟨y,hy⟩:∃y,y=Y+F:=⟨_,rfl⟩;rw [<-hy] at q5 hD Yc;have q6:=ajn h (b:=y) Yc;obtain ⟨m',e',k1,k2,k3⟩:=wr (f:=double) (n:=m) (k:=e+k) (by omega) (show m<9007199254740992 from b2) (by rw [ru];omega) (by rw [ru];show _<=2047;omega) (m0:=4503599627370496*m) (e0:= -52+(e+k)) false (by
  have:((4503599627370496:Nat):Rat)=p2 52:=(eJ 52).symm
  rw [xd,this];have h3:p2 52*(m:Rat)*p2 (-52+(e+k))=(m:Rat)*(p2 52*p2 (-52+(e+k))):=by grind
  rw [h3,<-du,show (52:Int)+(-52+(e+k))=e+k by omega])
 have q7:=aAW hD.is.read;refine ⟨_,m',e',?_,k1,k3⟩;have w0:IntKind.wrap .i64 (k+0)=k:=by rw [Int.add_zero];exact wrap64 (by omega) (by omega)
 have w1:IntKind.wrap .i64 ((E:Nat):Int)=(E:Int):=wrap64 (by omega) (by omega);have w2:IntKind.wrap .i64 ((E:Int)-1023)=(E:Int)-1023:=wrap64 (by omega) (by omega);have w3:IntKind.wrap .i64 (k+((E:Int)-1023))=k+((E:Int)-1023):=wrap64 (by omega) (by omega);have w4:IntKind.wrap .i64 (k+((E:Int)-1023)+1023)=(G:Int):=by rw [wrap64 (by omega) (by omega)];omega
 have w5:IntKind.wrap .u64 (G:Int)=(G:Int):=by rw [wrapM,yG (by omega)]
 have cv1:gj (.toInt .i64) (.int .u64 (E:Int))=some (.int .i64 (E:Int)):=by show some (AV.int .i64 (IntKind.wrap .i64 (E:Int)))=_;rw [w1]
 have cv2:gj (.toInt .u64) (.int .i64 (G:Int))=some (.int .u64 (G:Int)):=by show some (AV.int .u64 (IntKind.wrap .u64 (G:Int)))=_;rw [w5]
 unfold ai at e1 e2 e3 e4 q6;unfold ai;rw [aG h.ajl];simp only [go_sem,ya,LC,pc,c1,e1,e2,e3,ji,jf,jg,aom,pX,w0,e4,q1,cv1,q2,w2,w3,show ¬k+((E:Int)-1023)< -1075 by omega,show ¬(1023:Int)<k+((E:Int)-1023) by omega,show ¬k+((E:Int)-1023)< -1022 by omega,yv,q3,w4,cv2,q4,q5,q6,q7];rfl
def aAY (h:Fl' P L) {b m:Nat} {e k:Int} (hb:Dn b m e) (he1: -52<=e) (he2:e<=-28) (h1:1<=(m:Rat)*p2 e) (h2:(m:Rat)*p2 e<=16777216) (fg: -149<=k) (iy:k<=104):∃r m' e',ai P L 230 [.aw .f64 b,ab k] (.aw .f64 r)/\lP double r false m' e'/\(m':Rat)*p2 e'=(m:Rat)*p2 (e+k):=by
 obtain ⟨r,m',e',q1,q2,q3⟩:=aAX h hb he1 he2 h1 h2 fg iy;refine ⟨r,m',e',?_,q2,q3⟩;unfold ai at q1;unfold ai;rw [aG h.ajk];simp only [go_sem,ya,LB,pc,q1,pX];rfl
end
end VE
end
section
namespace VE
open Go (IntKind)
open Ieee
def aw0 {n:Nat} (h0:n≠0) (hn:n<=16777216):∃b m e,gj (.toFlt .f64) (.int .i64 (n:Int))=some (.aw .f64 b)/\Dn b m e/\-52<=e/\e<=-28/\(m:Rat)*p2 e=(n:Rat):=by
 have hl:n.log2<25:=(Nat.log2_lt h0).2 (by omega);have h1:2^n.log2<=n:=Nat.log2_self_le h0;have h2:n<2^(n.log2+1):=Nat.lt_log2_self;obtain ⟨j,hj⟩:∃j:Nat,n.log2+j=52:=⟨52-n.log2,by omega⟩;have oF:2^52<=n*2^j:=by
  have:=yT (2^j) h1
  rwa [<-xj,hj] at this
 have IC:n*2^j<2^53:=by
  have:=xI h2 (y7 j)
  rwa [<-xj,show n.log2+1+j=53 by omega] at this
 have hc:Can double (n*2^j) (-(j:Int)):=⟨by rw [ru];omega,IC,.inl oF⟩;have hr:=aej hc (by rw [ru];show _<=2047;omega)
 have hv:(n:Rat)*p2 0=((n*2^j:Nat):Rat)*p2 (-(j:Int)):=by
  rw [xd,<-eJ,me,xB,<-du,show (j:Int)+ -(j:Int)=0 by omega,me]
 have pN:n*2^j≠0:=uI (yE (by decide) oF);have hw:=aa1 hc pN false hv;rw [xA (by omega)] at hw;refine ⟨double.write (.number false n 0),n*2^j,-(j:Int),?_,⟨⟨hc,hr,hw⟩,oF⟩,by omega,by omega,by rw [<-hv,me,wj]⟩;show some (AV.aw .f64 (double.write (.number (decide ((n:Int)<0)) (n:Int).natAbs 0)))=_
 rw [yF (by omega),xn]
def aqt:gj (.toFlt .f64) (.int .i64 0)=some (.aw .f64 0):=by
 show some (AV.aw .f64 (double.write (.number false 0 0)))=_
 rw [show double.write (.number false 0 0)=0 by decide]
def afG {r m:Nat} {e:Int} (hr:lP double r false m e) {n:Nat} {k:Int} (hn:n<=16777216) (fg: -149<=k) (iy:k<=104) (AT:n=16777216->k<104) (hv:(m:Rat)*p2 e=(n:Rat)*p2 k):∃b,gj (.toFlt .f32) (.aw .f64 r)=some (.aw .f32 b)/\Fl b false (n*2^(149+k).toNat):=by
 have e0:gj (.toFlt .f32) (.aw .f64 r)=(match double.read r with
  | .number sg m e=>if (single.read (single.write (.number sg m e))).isInfinity then none else some (.aw .f32 (single.write (.number sg m e)))
  | _=>none):=rfl
 have hsc:∀{m':Nat} {e':Int},-149<=e'->(m':Rat)*p2 e'=(n:Rat)*p2 k->n*2^(149+k).toNat=cZ m' e':=fun {m' e'} h1 h2=>by
  have h3:=aek (m:=m') (n:=n) h1 fg h2;rw [h3];unfold cZ;rw [Int.add_comm]
 have fin:∀{m':Nat} {e':Int},lQ (single.write (.number false m e)) false m' e'->(m':Rat)*p2 e'=(n:Rat)*p2 k->∃b,gj (.toFlt .f32) (.aw .f64 r)=some (.aw .f32 b)/\Fl b false (n*2^(149+k).toNat):=fun {m' e'} h1 h2=>by
  refine ⟨_,?_,m',e',h1,hsc h1.b.1 h2⟩;rw [e0,hr.read]
  dsimp only
  rw [h1.read];rfl
 by_cases n0:n=0
 ·subst n0;have hm:m=0:=by
   have h1:(m:Rat)*p2 e=0:=by rw [hv];simp
   rcases ybp.1 h1 with q | q
   ·exact_mod_cast q
   ·exact absurd q (K7 e)
  subst hm;exact fin (MZ false e) (by simp)
 ·by_cases c:n<16777216
  ·obtain ⟨m',e',k1,_,k3⟩:=AO (n:=n) (k:=k) n0 c fg iy false hv;exact fin k1 k3
  ·have cX:n=16777216:=by omega
   have hk3:=AT cX;have cI:(n:Rat)*p2 k=((8388608:Nat):Rat)*p2 (k+1):=by
    rw [cX,du,oh]
    have:((16777216:Nat):Rat)=((8388608:Nat):Rat)*2:=by decide+kernel
    rw [this];grind
   obtain ⟨m',e',k1,_,k3⟩:=AO (n:=8388608) (k:=k+1) (by decide) (by decide) (by omega) (by omega) false (hv.trans cI);exact fin k1 (k3.trans cI.symm)
section
variable {P:aM} {L:Lib}
def aw1 (h:Fl' P L) {k:Int}:ai P L 230 [.aw .f64 0,ab k] (.aw .f64 0):=by
 have c0:binOp .eql (.aw .f64 0) (.aw .f64 0)=some (.bool true):=by
  show some (AV.bool (double.order 0 0==some .eq))=_
  rw [F1 Lf Lf,yu uj,yL rfl];rfl
 have e1:ai P L 243 [.aw .f64 0,ab k] (.aw .f64 0):=by
  unfold ai;rw [aG h.ajl];simp only [go_sem,ya,LC,c0];rfl
 unfold ai at e1;unfold ai;rw [aG h.ajk];simp only [go_sem,ya,LB,pc,e1,pX];rfl
def aAZ (h:Fl' P L) {n:Nat} {k:Int} (hn:n<=16777216) (fg: -149<=k) (iy:k<=104) (AT:n=16777216->k<104):∃b r c,gj (.toFlt .f64) (.int .i64 (n:Int))=some (.aw .f64 b)/\ai P L 230 [.aw .f64 b,ab k] (.aw .f64 r)/\gj (.toFlt .f32) (.aw .f64 r)=some (.aw .f32 c)/\Fl c false (n*2^(149+k).toNat):=by
 by_cases n0:n=0
 ·subst n0;obtain ⟨c,e1,hc⟩:=afG Lf (n:=0) (k:=k) hn fg iy AT (by simp);exact ⟨0,0,c,aqt,aw1 h,e1,hc⟩
 ·obtain ⟨b,m,e,q1,q2,q3,q4,q5⟩:=aw0 n0 hn;have h1:(1:Rat)<=(m:Rat)*p2 e:=by
   rw [q5]
   have:((1:Nat):Rat)<=((n:Nat):Rat):=wW.2 (by omega)
   exact this
  have h2:(m:Rat)*p2 e<=16777216:=by
   rw [q5]
   have:((n:Nat):Rat)<=((16777216:Nat):Rat):=wW.2 hn
   exact this
  obtain ⟨r,m',e',k1,k2,k3⟩:=aAY h q2 q3 q4 h1 h2 fg iy;obtain ⟨c,e1,hc⟩:=afG k2 (n:=n) (k:=k) hn fg iy AT (by rw [k3,du,<-xB,q5]);exact ⟨b,r,c,q1,k1,e1,hc⟩
end
end VE
end
section
namespace VE
open Go (IntKind)
open Ieee
def Lg {a b:Int} (h:a<=b):p2 a<=p2 b:=by
 obtain ⟨d,rfl⟩:∃d:Nat,b=a+d:=⟨(b-a).toNat,by omega⟩;rw [du,eJ];have h1:(1:Rat)<=((2^d:Nat):Rat):=by
  have:((1:Nat):Rat)<=((2^d:Nat):Rat):=wW.2 (y7 d)
  exact this
 have:=wR h1 (wa (iU a))
 rwa [wj] at this
def ayG {a b:Int} (h:p2 a<p2 b):a<b:=yad.1 fun q=>absurd (Lg q) (wM.2 h)
def aa9 (a:Rat):(bz a).num=(a.num.natAbs:Nat)/\(bz a).den=a.den:=by
 unfold bz;by_cases c:a<0
 ·have:a.num<0:=yad.1 fun q=>absurd (tv.1 q) (wM.2 c)
  rw [yL c,aab];exact ⟨by omega,rfl⟩
 ·have:0<=a.num:=tv.2 (wD.1 c)
  rw [yu c];exact ⟨by omega,rfl⟩
def Ku (a:Rat):0<=bz a:=by
 unfold bz
 split<;>grind
def aqu (a:Rat):bz a*(a.den:Rat)=(a.num.natAbs:Rat):=by
 have h:=aa9 a;have e0:((bz a).num:Rat)/(((bz a).den:Int):Rat)=bz a:=by rw [<-Rat.divInt_eq_div];exact Rat.num_divInt_den _
 have h0:(((bz a).den:Int):Rat)≠0:=fun e=>by
  have:((bz a).den:Int)=0:=by exact_mod_cast e
  have:=(bz a).den_nz
  omega
 have h1:bz a*(((bz a).den:Int):Rat)=((bz a).num:Rat):=by
  conv=>lhs;lhs;rw [<-e0]
  rw [Rat.div_def,xB,yaS _ h0,wj]
 rw [h.1,h.2] at h1;exact h1
def alp {a:Rat} {B C:Nat} (h1:2^(B-1)<=a.num.natAbs) (hB:0<B) (h2:a.num.natAbs<2^B) (h3:2^(C-1)<=a.den) (hC:0<C) (h4:a.den<2^C):p2 ((B:Int)-C-24+23)<=bz a/\bz a<p2 ((B:Int)-C-24+25):=by
 have hm:=aqu a;have hn:=Ku a;have c1:p2 ((B:Int)-1)<=(a.num.natAbs:Rat):=by
  rw [show (B:Int)-1=((B-1:Nat):Int) by omega,eJ];exact wW.2 h1
 have c2:(a.num.natAbs:Rat)<p2 B:=by rw [eJ];exact uW.2 h2
 have c3:p2 ((C:Int)-1)<=(a.den:Rat):=by
  rw [show (C:Int)-1=((C-1:Nat):Int) by omega,eJ];exact wW.2 h3
 have c4:(a.den:Rat)<p2 C:=by rw [eJ];exact uW.2 h4
 rw [<-hm] at c1 c2;constructor
 ·have h5:p2 ((B:Int)-1)<=bz a*p2 C:=tI c1 (wR (wa c4) hn);have h6:=xz h5 (wa (iU (-(C:Int))));rw [xB,<-du,<-du,show (C:Int)+ -(C:Int)=0 by omega,me,wj,show (B:Int)-1+ -(C:Int)=(B:Int)-C-24+23 by omega] at h6;exact h6
 ·have h5:bz a*p2 ((C:Int)-1)<p2 B:=by
   have:=wR c3 hn
   grind
  have h6:=(wm (iU (-((C:Int)-1)))).2 h5;rw [xB,<-du,<-du,show (C:Int)-1+ -((C:Int)-1)=0 by omega,me,wj,show (B:Int)+ -((C:Int)-1)=(B:Int)-C-24+25 by omega] at h6;exact h6
def ayH {A:Rat} {k:Int} (h1:p2 (k+23)<=A) (h2:A<p2 (k+24)):KP A (max k (-149))/\(max k (-149)<=104->A<p2 128)/\(104<max k (-149)->p2 128<=A):=by
 have e24:(16777216:Rat)=p2 24:=(eJ 24).symm;have e23:(8388608:Rat)=p2 23:=(eJ 23).symm;refine ⟨⟨by omega,?_,?_⟩,fun h=>?_,fun h=>?_⟩
 ·rw [e24];have h3:A<p2 (max k (-149)+24):=by
   have:=Lg (show k+24<=max k (-149)+24 by omega)
   grind
  have h4:=(wm (iU (-(max k (-149))))).2 h3
  rwa [<-du,show max k (-149)+24+ -(max k (-149))=24 by omega] at h4
 ·by_cases c:k< -149
  ·right;omega
  ·left
   rw [e23];have h4:=xz h1 (wa (iU (-(max k (-149)))))
   rwa [<-du,show k+23+ -(max k (-149))=23 by omega] at h4
 ·have:=Lg (show k+24<=128 by omega)
  grind
 ·have:=Lg (show (128:Int)<=k+23 by omega)
  grind
end VE
end
section
namespace VE
open Go (IntKind)
open Ieee
def aqv (a b:Rat):0<=og a b↔b<=a:=by
 unfold og;by_cases c:a<b
 ·rw [yL c];exact ⟨fun h=>absurd h (by decide),fun h=>absurd c (wD.2 h)⟩
 ·rw [yu c];refine ⟨fun _=>wD.1 c,fun _=>?_⟩
  split<;>decide
structure N6 (P:aM) (L:Lib):Prop extends Ck P L,Fl' P L where
 Ih:Has P L 150 Hn
 ajp:Has P L 202 eO
 B1:Has P L 228 Dk
 Ij:Has P L 229 Dl
 sB:Has P L 241 Dm
section
variable {P:aM} {L:Lib}
def aw2 (h:N6 P L) {A:Rat} (kA:Hq 2600 A) {c1 c2 c3 c4 x1 x2 x3 x4:AV} (hc:dG (.agg [c1,c2,c3,c4]) A) (fc:F4 c1 c2 c3 c4) {k0:Int} (Nh: -5000<=k0/\k0<=5000) (hA:A<p2 (k0+25)):
  ∀(d:Nat) (st:St),(∃(k:Int),k+d=k0+1/\k0<=k/\p2 (k+23)<=A/\aP [5,6,7] st=⟨[(5,.ptr 0 0),(6,.ptr 1 0),(7,ab k)],[(1,.cells true true true 4 [c1,c2,c3,c4]),(0,.cells true true true 4 [x1,x2,x3,x4])],2,0⟩)->
   ∃ex s',D P L (.loop [5,6,7] Gu) st=some (ex,s')/\∃tm ct,∃k:Int,s'=⟨tm,[(1,.cells true true true 4 [c1,c2,c3,c4]),(0,.cells true true true 4 [x1,x2,x3,x4])],ct,0⟩/\ex= .exit 0/\k0<=k/\k<=k0+1/\p2 (k+23)<=A/\A<p2 (k+24)/\aj tm 5= .ptr 0 0/\aj tm 6= .ptr 1 0/\aj tm 7=ab k:=by
 intro dq sq;generalize bq:aP [5,6,7] sq=s0;revert bq s0 sq dq;apply dt;rintro d st ⟨k,hd,hk,aY,rfl⟩;obtain ⟨v,e1,hv⟩:=WD h.toFr' h.mW h.sB h.B1 (k:=k+24) (by omega);have kv:Hq 6000 (p2 (k+24)):=(QE _).mono (by omega);have e2:=m71 h.toFr' hc hv (kA.mono (show 2600<=6000 by decide)) kv (by decide);obtain ⟨v1,v2,v3,v4,rfl,fG⟩:=hv.gen;have wk:IntKind.wrap .i64 (k+24)=k+24:=wrap64 (by omega) (by omega);have hg:=aqv A (p2 (k+24));unfold ai at e1 e2;by_cases c:p2 (k+24)<=A
 ·left
  have aF:=ayG (show p2 (k+24)<p2 (k0+25) by grind);have Yd:IntKind.wrap .i64 (k+1)=k+1:=wrap64 (by omega) (by omega);simp only [go_sem,ya,Gu,dT,yt,wk,fc.an,fG.an,e1,e2,bF,hg.2 c,yq,Yd];refine ⟨_,d-1,rfl,by omega,k+1,by omega,by omega,by rw [show k+1+23=k+24 by omega];exact c,?_⟩
  simp only [go_sem,ya,yd,aC]<;>rfl
 ·right
  simp only [go_sem,ya,Gu,dT,yt,wk,fc.an,fG.an,e1,e2,bF,show ¬0<=og A (p2 (k+24)) from fun q=>c (hg.1 q),yv];exact ⟨_,_,rfl,by simp,_,_,k,rfl,rfl,hk,by omega,aY,wM.1 c,by simp only [go_sem,ya],by simp only [go_sem,ya],by simp only [go_sem,ya]⟩
end
end VE
end
section
namespace VE
open Go (IntKind)
open Ieee
section
variable {P:aM} {L:Lib}
def aw3 (h:N6 P L) {a:Rat} (kA:Hq 2600 (bz a)) {c1 c2 c3 c4 x1 x2 x3 x4:AV} (hc:dG (.agg [c1,c2,c3,c4]) (bz a)) (fc:F4 c1 c2 c3 c4) (hx:dG (.agg [x1,x2,x3,x4]) a) (fx:F4 x1 x2 x3 x4) {k:Int} (hk: -5100<=k/\k<=5100) (aY:p2 (k+23)<=bz a) (fA:bz a<p2 (k+24)):
  ∃o,NF (bz a) o/\(match o with
   | none=>db eO.dj (D P L (bT 6 eO.body) ⟨[(5,.ptr 0 0),(6,.ptr 1 0),(7,ab k)],[(1,.cells true true true 4 [c1,c2,c3,c4]),(0,.cells true true true 4 [x1,x2,x3,x4])],2,0⟩)=some (.aa [.aw .f32 0,ab 4])
   | some M=>∃b,Fl b (cE a M) M/\db eO.dj (D P L (bT 6 eO.body) ⟨[(5,.ptr 0 0),(6,.ptr 1 0),(7,ab k)],[(1,.cells true true true 4 [c1,c2,c3,c4]),(0,.cells true true true 4 [x1,x2,x3,x4])],2,0⟩)=some (.aa [.aw .f32 b,ab 0])):=by
 obtain ⟨K1,K2,K3⟩:=ayH aY fA;have r5:(if (-149:Int)>k then (-149:Int) else k)=max k (-149):=by split<;>omega
 generalize pC:max k (-149)=j at*
 by_cases cj:104<j
 ·refine ⟨none,.inl ⟨K3 cj,rfl⟩,?_⟩;simp only [go_sem,ya,eO,bT,au,lW,nH,r5,cj,yq];rfl
 ·have hA:=K2 (by omega);have B6:=K1.lo;have Ye:=Ku a;have gA:0<=bz a*p2 (-j):=uk Ye (wa (iU _));have ylt:=K1.lt;have wn:IntKind.wrap .i64 (0-j)= -j:=by rw [show (0:Int)-j= -j by omega];exact wrap64 (by omega) (by omega)
  obtain ⟨u,e1,hu⟩:=WD h.toFr' h.mW h.sB h.B1 (k:= -j) (by omega);have ku:Hq 1001 (p2 (-j)):=M3 _ (by omega);obtain ⟨v,e2,hv⟩:=m49 h.toFr' hc hu kA (ku.mono (show 1001<=2600 by decide)) (by decide);have ky:Hq 5000 (bz a*p2 (-j)):=(kA.mul ku).mono (by decide);have e3:=aAJ h.toFr' h.Ih h.Ij hv ky gA ylt;have nle:=ayF gA ylt;have Yf:∀{o:Option Nat},((nR (bz a*p2 (-j))=16777216/\j=104/\o=none)\/(¬(nR (bz a*p2 (-j))=16777216/\j=104)/\o=some (nR (bz a*p2 (-j))*2^(149+j).toNat)))->NF (bz a) o:=fun q=> .inr ⟨hA,j,K1,by omega,q⟩
  obtain ⟨u1,u2,u3,u4,rfl,fu⟩:=hu.gen;obtain ⟨v1,v2,v3,v4,rfl,fG⟩:=hv.gen;have e4:=aiN h.toFr' hx;have oP:=JC a;unfold ai at e1 e2 e3 e4;generalize nR (bz a*p2 (-j))=n at*
  by_cases z:n=16777216/\j=104
  ·obtain ⟨z1,z2⟩:=z;have hz:((n:Nat):Int)=16777216:=by omega
   refine ⟨none,Yf (.inl ⟨z1,z2,rfl⟩),?_⟩;subst z2;simp only [go_sem,ya,eO,bT,au,lW,nH,r5,cj,yv,dT,yt,fc.an,wn,e1,bF,fu.an,e2,fG.an,e3,hz,yq];rfl
  ·obtain ⟨b,r,c,q1,q2,q3,q4⟩:=aAZ (P:=P) (L:=L) h.toFl' (n:=n) (k:=j) nle B6 (by omega) (fun x=>by omega);have rn:n*2^(149+j).toNat≠0↔0<n:=by
    have:=y7 (149+j).toNat
    constructor
    ·intro x;exact uQ fun y=>x (by rw [y,wE])
    ·intro x;exact uI (vd x this)
   unfold ai at q2;by_cases s1:a<0/\0<n
   ·have hs:=oP.2 s1.1;refine ⟨some _,Yf (.inr ⟨z,rfl⟩),c^^^2147483648,?_,?_⟩
    ·rw [show cE a (n*2^(149+j).toNat)=true by unfold cE;rw [y5 s1.1,y5 (rn.2 s1.2)];rfl]
     exact q4.neg
    ·by_cases z1:n=16777216
     ·have hz:((n:Nat):Int)=16777216:=by omega
      have z2:¬j=104:=fun x=>z ⟨z1,x⟩
      rw [hz] at q1;simp only [go_sem,ya,eO,bT,au,lW,nH,r5,cj,yv,dT,yt,fc.an,wn,e1,bF,fu.an,e2,fG.an,e3,hz,z2,yq,q1,pc,q2,pX,q3,fx.an,e4,hs,show (0:Int)<16777216 by decide,G8];rfl
     ·simp only [go_sem,ya,eO,bT,au,lW,nH,r5,cj,yv,dT,yt,fc.an,wn,e1,bF,fu.an,e2,fG.an,e3,show ¬((n:Nat):Int)=16777216 by omega,q1,pc,q2,pX,q3,fx.an,e4,hs,show (0:Int)<(n:Int) by omega,yq,G8];rfl
   ·refine ⟨some _,Yf (.inr ⟨z,rfl⟩),c,?_,?_⟩
    ·rw [show cE a (n*2^(149+j).toNat)=false by
      unfold cE;by_cases x:a<0
      ·rw [yF (fun y=>s1 ⟨x,rn.1 y⟩),Bool.and_false]
      ·rw [yF x];rfl]
     exact q4
    ·by_cases x:a<0
     ·have hs:=oP.2 x;have n0:¬(0:Int)<(n:Int):=fun y=>s1 ⟨x,by omega⟩
      simp only [go_sem,ya,eO,bT,au,lW,nH,r5,cj,yv,dT,yt,fc.an,wn,e1,bF,fu.an,e2,fG.an,e3,show ¬((n:Nat):Int)=16777216 by omega,q1,pc,q2,pX,q3,fx.an,e4,hs,n0,yq];rfl
     ·have hs:¬bV a.num<0:=fun y=>x (oP.1 y)
      by_cases z1:n=16777216
      ·have hz:((n:Nat):Int)=16777216:=by omega
       have z2:¬j=104:=fun x=>z ⟨z1,x⟩
       rw [hz] at q1;simp only [go_sem,ya,eO,bT,au,lW,nH,r5,cj,yv,dT,yt,fc.an,wn,e1,bF,fu.an,e2,fG.an,e3,hz,z2,yq,q1,pc,q2,pX,q3,fx.an,e4,hs];rfl
      ·simp only [go_sem,ya,eO,bT,au,lW,nH,r5,cj,yv,dT,yt,fc.an,wn,e1,bF,fu.an,e2,fG.an,e3,show ¬((n:Nat):Int)=16777216 by omega,q1,pc,q2,pX,q3,fx.an,e4,hs];rfl
end
end VE
end
section
namespace VE
open Go (IntKind)
open Ieee
def ajq:NF 0 (some 0):=by
 refine .inr ⟨iU 128,-149,⟨by omega,by rw [uZ];decide,.inr rfl⟩,by omega,.inr ⟨fun q=>absurd q.2 (by decide),?_⟩⟩
 rw [uZ,aqr ycu (by decide+kernel),wE]
section
variable {P:aM} {L:Lib}
def aA0 (h:N6 P L) {a:Rat} (ka:Hq 2600 a) (hc:jE (RT a)=0):∃o,NF (bz a) o/\(match o with
  | none=>ai P L 202 [.str (RT a)] (.aa [.aw .f32 0,ab 4])
  | some M=>∃b,Fl b (cE a M) M/\ai P L 202 [.str (RT a)] (.aa [.aw .f32 b,ab 0])):=by
 have hlen:=zH ka;have e1:=m86 h.toCk (s:=RT a) (by omega);rw [hc] at e1;obtain ⟨x,e2,hx⟩:=m62 h.toTx (a:=a) (by omega);have e3:=aiN h.toFr' hx;have rq:=hx;obtain ⟨s1,w1,s2,w2,rfl,k1,k2⟩:=hx;have fx:F4 (ab s1) w1 (ab s2) w2:=by
  obtain ⟨_,_,_,_,e,g⟩:=dG.gen rq;simp only [AV.agg.injEq,tC,wP] at e;obtain ⟨rfl,rfl,rfl,rfl⟩:=e;exact g
 obtain ⟨l1,u1⟩:=k1.aJ;obtain ⟨l2,u2⟩:=k2.aJ;by_cases h0:a=0
 ·subst h0;have hs:bV (0:Rat).num=0:=by decide
  rw [hs] at e3;refine ⟨some 0,by rw [show bz 0=0 by unfold bz;rw [yu uj]];exact ajq,0,by rw [show cE 0 0=false by unfold cE;simp];exact Fl.zero,?_⟩
  unfold ai at e1 e2 e3;unfold ai;rw [aG h.ajp];simp only [go_sem,ya,yd,eO,e1,yq,yN,e2,bf,fx.st,fx.an,bF,dT,yt,e3];rfl
 ·have hz:(a.num.natAbs:Int)≠0:=by
   intro q;have hn:a.num=0:=by omega
   exact h0 (Rat.num_eq_zero.1 hn)
  have hsn:¬bV a.num=0:=fun q=>h0 ((amJ a).1 q)
  have nD:=aa9 a;obtain ⟨r,e4,hr⟩:=V9 h.toNu (z:=a.num) ⟨s1,w1,rfl,k1⟩ ka.1 (by decide);obtain ⟨s3,w3,rfl,k3⟩:=hr;obtain ⟨l3,u3⟩:=k3.aJ;have hS:dG (.agg [ab s3,w3,ab s2,w2]) (bz a):=⟨s3,w3,s2,w2,rfl,by rw [nD.1];exact k3,by rw [nD.2];exact k2⟩
  have fs:F4 (ab s3) w3 (ab s2) w2:=by
   obtain ⟨_,_,_,_,e,g⟩:=dG.gen hS;simp only [AV.agg.injEq,tC,wP] at e;obtain ⟨rfl,rfl,rfl,rfl⟩:=e;exact g
  have kA:Hq 2600 (bz a):=⟨by rw [nD.1];unfold Bd;rw [xn];exact ka.1,by rw [nD.2];exact ka.2⟩
  obtain ⟨B,e5,b1,b2,b3,b4⟩:=ag0 h.toTx (z:=(a.num.natAbs:Int)) ⟨s3,w3,rfl,k3⟩ (K:=2600) (by unfold Bd;rw [xn];exact ka.1) (by decide) hz
  obtain ⟨C,e6,d1,d2,d3,d4⟩:=ag0 h.toTx (z:=(a.den:Int)) ⟨s2,w2,rfl,k2⟩ ka.2 (by decide) (by have:=a.den_nz;omega);rw [xn] at b1 b3 d1 d3;obtain ⟨g1,g2⟩:=alp b3 b2 b1 d3 d2 d1;have Yd:IntKind.wrap .i64 ((B:Int)-C)=(B:Int)-C:=wrap64 (by omega) (by omega);have wk2:IntKind.wrap .i64 ((B:Int)-C-24)=(B:Int)-C-24:=wrap64 (by omega) (by omega);have lp:=aw2 (P:=P) (L:=L) h kA hS fs (x1:=ab s1) (x2:=w1) (x3:=ab s2) (x4:=w2) (k0:=(B:Int)-C-24) (by omega) g2 1;have go:=fun k hk lo hi=>aw3 h kA hS fs rq fx (k:=k) hk lo hi
  suffices hh:∃k:Int,(-5100<=k/\k<=5100)/\p2 (k+23)<=bz a/\bz a<p2 (k+24)/\db eO.dj (D P L eO.body ⟨dQ 0 [.str (RT a)],[],0,0⟩)=db eO.dj (D P L (bT 6 eO.body) ⟨[(5,.ptr 0 0),(6,.ptr 1 0),(7,ab k)],[(1,.cells true true true 4 [ab s3,w3,ab s2,w2]),(0,.cells true true true 4 [ab s1,w1,ab s2,w2])],2,0⟩) by
   obtain ⟨k,hk,lo,hi,hq⟩:=hh;have fin:∀{r:AV},db eO.dj (D P L eO.body ⟨dQ 0 [.str (RT a)],[],0,0⟩)=some r->ai P L 202 [.str (RT a)] r:=fun q=>by
    unfold ai;rw [aG h.ajp];exact q
   obtain ⟨o,ho,hm⟩:=go k hk lo hi;refine ⟨o,ho,?_⟩
   cases o with
   | none=>exact fin (hq.trans hm)
   | some M=>
    obtain ⟨b,hb,hm⟩:=hm;exact ⟨b,hb,fin (hq.trans hm)⟩
  unfold ai at e1 e2 e3 e4 e5 e6;have cut:eO.body= .seq (aW eO.body) (.seq (aW (bT 0 eO.body)) (.seq (aW (bT 1 eO.body)) (.seq (aW (bT 2 eO.body)) (.seq (aW (bT 3 eO.body)) (.seq (aW (bT 4 eO.body)) (.seq (aW (bT 5 eO.body)) (bT 6 eO.body))))))):=rfl;rw [cut];generalize bT 6 eO.body=T;simp only [go_sem,ya,yd,eO,bT,au,aW,e1,yq,yN,e2,bf,fx.st,fx.an,bF,dT,yt,e3,hsn,yv,bQ,yh,mN,qj,b8,u1.an,u2.an,u2.one,u3.an,u3.one,e4,zu,zx,fs.st,e5,e6,Yd,wk2];generalize hq:D P L (.loop [5,6,7] Gu) _=q;obtain ⟨ex,st,rfl,tm,ct,k,rfl,rfl,q1,q2,q3,q4,t5,t6,t7⟩:=cr hq lp ⟨(B:Int)-C-24,by omega,by omega,g1,by simp only [go_sem,ya,yd,aC]<;>rfl⟩
  refine ⟨k,by omega,q3,q4,?_⟩;simp only [go_sem,ya,yd,aC,t5,t6,t7]
end
end VE
end
section
namespace VE
open Go (IntKind)
open Ieee
def mg (b:Nat):Bool:=match single.read b with
 | .number .. =>true
 | _=>false
def Ak:List AV->Option AV
 | [.aw .f32 b]=>some (.bool (mg b))
 | _=>none
def Fl.fin {b M:Nat} {s:Bool} (h:Fl b s M):mg b=true:=by
 obtain ⟨m,e,h1,_⟩:=h.ex;unfold mg;rw [h1.read]
def aw4 {b:Nat} (hb:b<4294967296):(∃s M,Fl b s M)\/mg b=false:=by
 rcases awu (f:=single) (b:=b) hb (by decide) with ⟨s,m,e,h⟩ | h
 ·exact .inl ⟨s,_,⟨m,e,h,rfl⟩⟩
 ·right
  unfold mg
  cases hr:single.read b with
  | number s m e=>exact absurd hr (h s m e)
  | _=>rfl
section
variable {P:aM} {L:Lib}
def M6 {n:Nat} (h:L.pure n=some Ak) (b:Nat):ai P L n [.aw .f32 b] (.bool (mg b)):=by
 unfold ai;rw [gN h];rfl
def ajr (hx:Fx P L) (ht:Tx P L) (M7:L.pure 231=some Ak) (M8:Has P L 203 LA) {b:Nat} {s:Bool} {M:Nat} (hb:Fl b s M):ai P L 203 [.aw .f32 b] (.aa [.str (RT (b7 s M)),ab 0]):=by
 have e1:=M6 (P:=P) M7 b;rw [hb.fin] at e1;obtain ⟨r,e2,hr⟩:=aAF hx hb;have e3:=m46 ht hr (agZ hb) (by decide);obtain ⟨v1,v2,v3,v4,rfl,fv⟩:=hr.gen;unfold ai at e1 e2 e3;unfold ai;rw [aG M8];simp only [go_sem,ya,LA,nS,e1,e2,e3,fv.an,bF,yN];rfl
end
end VE
end
section
namespace VE
open Go
open Ieee
def asR {b m:Nat} {s:Bool} {e:Int} (h:single.read b= .number s m e):single.sub b b=some 0:=by
 unfold Format.sub;rw [h];show some (single.write (.number (if signed s m (e-min e e).toNat+signed (!s) m (e-min e e).toNat=0 then s&& !s else decide (signed s m (e-min e e).toNat+signed (!s) m (e-min e e).toNat<0)) (signed s m (e-min e e).toNat+signed (!s) m (e-min e e).toNat).natAbs (min e e)))=some 0
 have h0:signed s m (e-min e e).toNat+signed (!s) m (e-min e e).toNat=0:=by
  unfold signed;cases s<;>simp<;>omega
 rw [h0,yL rfl];have hs:(s&& !s)=false:=by cases s<;>rfl
 rw [hs];rfl
def asS {b:Nat} (h:∀s m e,single.read b≠.number s m e):single.sub b b=none:=by
 unfold Format.sub
 cases hr:single.read b with
 | number s m e=>exact absurd hr (h s m e)
 | infinity s=>cases s<;>rfl
 | nan s t=>rfl
def asT {x:Nat} (hx:x<8388607) (t:Nat):single.order (t%2*2147483648+2139095040+1+x) 0=none:=by
 have hm:(t%2*2147483648+2139095040+1+x)%2147483648=2139095041+x:=by omega
 have hr:∃s n,single.read (t%2*2147483648+2139095040+1+x)= .nan s n:=by
  unfold Format.read;simp only [show single.signWeight=2147483648 from rfl,show single.binade=8388608 from rfl,show single.infRung=2139095040 from rfl];rw [hm,yu (by omega),yu (by omega),yu (by omega)];exact ⟨_,_,rfl⟩
 obtain ⟨s,n,hr⟩:=hr;unfold Format.order;rw [hr];rfl
def aer (P:xa) (b:Nat) (w:yi):∃r w1,(∀t,(xO .sub t (.float .f32 b) (.float .f32 b)).run P w= .ok (.float .f32 r) w1)/\Calm w w1/\(∀t w',(xO .eql t (.float .f32 r) (.float .f32 0)).run P w'= .ok (.bool (mg b)) w'):=by
 by_cases h:∃s m e,single.read b= .number s m e
 ·obtain ⟨s,m,e,h⟩:=h;have h1:FloatKind.f32.format.sub b b=some 0:=asR h;refine ⟨0,w,fun t=>?_,Calm.refl,fun t w'=>?_⟩
  ·simp [xO,Op.floatArith,h1]
  ·have:mg b=true:=by unfold mg;rw [h]
   rw [this];rfl
 ·have h':∀s m e,single.read b≠.number s m e:=fun s m e q=>h ⟨s,m,e,q⟩
  have h1:FloatKind.f32.format.sub b b=none:=asS h';obtain ⟨t0,X2⟩:∃t0,t0=w.tape w.drawn (.nanBits .f32 b b):=⟨_,rfl⟩;refine ⟨(Question.nanBits .f32 b b).cut t0,w.drew,fun t=>?_,⟨rfl,rfl,rfl,yA _,fun _ _=>rfl⟩,fun t w'=>?_⟩
  ·rw [X2];simp [xO,Op.floatArith,h1,Question.forced]
  ·have:mg b=false:=by
    unfold mg
    cases hr:single.read b with
    | number s m e=>exact absurd hr (h' s m e)
    | _=>rfl
   rw [this];have hc:=asT (x:=t0/2%8388607) (Nat.mod_lt _ (by decide)) t0;have mr:FloatKind.f32.format.order ((Question.nanBits .f32 b b).cut t0) 0=none:=hc;simp [xO,Op.floatCmp,mr]
variable {O:bh}
def aes {n:Nat} (eV:∀args w,(callFunc (O.af n) args).run O.P w= .ok (.enter (O.af n) args) w) (hc:∀(b:Nat) (w:yi),xX O.P (O.af n) #[.float .f32 b] w fun e w'=>e= .returned (.bool (mg b))/\Calm w w'):∀ao r,Ak ao=some r->dS O n ao r:=by
 intro ao r h;unfold Ak at h
 split at h
 ·rename_i b;simp only [yb] at h;subst h;refine mA aav eV ?_;intro w S args hg dw;obtain ⟨u,rfl,h1⟩:=BC dw;simp only [ah] at h1;subst h1;refine (hc b w).mono ?_;rintro e w' ⟨rfl,h2⟩;exact ⟨_,rfl,h2,fun S=>by simp only [ah]⟩
 ·cases h
end VE
end
section
namespace Go.Proofs
open Go.RowKit
def Tryz.aA1 (b:Nat) (w:yi):xX Tryz.prog 49 #[.float .f32 b] w fun e w'=>e= .returned (.bool (VE.mg b))/\VE.Calm w w':=by
 obtain ⟨r,w1,h1,h2,h3⟩:=VE.aer Tryz.prog b w
 go_enter Tryz.func49,Tryz.ntmps49
 go_wp2_with (simp only [h1,h3])
 go_ret
 exact ⟨rfl,h2⟩
def Tryz.aA2 (b:Nat) (w:yi):xX Tryz.prog 7 #[.float .f32 b] w fun e w'=>e= .returned (.bool (VE.mg b))/\VE.Calm w w':=by
 obtain ⟨r,w1,h1,h2,h3⟩:=VE.aer Tryz.prog b w
 go_enter Tryz.func7,Tryz.ntmps7
 go_wp2_with (simp only [h1,h3])
 go_ret
 exact ⟨rfl,h2⟩
end Go.Proofs
end
section
namespace VE
open Go
section
variable {H:Type} {enc:yx×yg->H} {P:xa} {w:yi} {base:Nat} {sp:Nat->Bool} {held:Bool}
def mapM_mem {α β:Type} {f:α->Option β}:∀{l:List α} {r:List β},l.mapM f=some r->∀y,y∈r->∃x,f x=some y
 | [],r,h,y,hy=>by simp only [List.mapM_nil,wF,yb] at h;subst h;cases hy
 | x::l,r,h,y,hy=>by
  rw [ud] at h
  cases h1:f x with
  | none=>simp [h1] at h
  | some z=>
   cases h2:l.mapM f with
   | none=>simp [h1,h2] at h
   | some zs=>
    simp only [h1,h2,wb,vA,wF,yb] at h;subst h;rcases List.mem_cons.1 hy with rfl | hy
    ·exact ⟨x,h1⟩
    ·exact mapM_mem h2 y hy
def Rd (enc:yx×yg->H) (P:xa) (w:yi) (base:Nat) (sp:Nat->Bool) (held:Bool) (t:yx) (d:xK H):Prop:=∃bl cs ps,DataW.trod enc P w base sp held bl t cs=some (d,ps)
def aw5 {t:yx} {k:xc} {d:xK H} {n:Nat} (ht:P.underlying t=some (.int k)) (h:Rd enc P w base sp held t d):∃z,cJ P (n+1) t d=[.int k z]/\(Lit.int k z).wf=true:=by
 obtain ⟨bl,cs,ps,h⟩:=h
 cases bl with
 | zero=>simp [DataW.trod] at h
 | succ bl=>
  unfold DataW.trod at h
  split at h
  all_goals first
   | (rename_i hu;rw [ht] at hu;cases hu;done)
   | skip
  ·rename_i k1 k2 z hu;rw [ht] at hu;injection hu with hu
   injection hu with hu
   subst hu
   split at h
   ·rename_i hk;simp only [yb,yk] at h;obtain ⟨rfl,rfl⟩:=h;exact ⟨z,by simp only [cJ,ht],hk.2⟩
   ·cases h
  all_goals (cases h;done)
def aqw {t e:yx} {d:xK H} {n:Nat} (ht:P.underlying t=some (.slice e)) (h:Rd enc P w base sp held t d):
  cJ P (n+1) t d=[.ae]\/∃(x:Bool) (iW:List (xK H)),cJ P (n+1) t d=[.aB x iW.length (iW.flatMap fun y=>cJ P n e y)]/\∀y,y∈iW->Rd enc P w base sp held e y:=by
 obtain ⟨bl,cs,ps,h⟩:=h
 cases bl with
 | zero=>simp [DataW.trod] at h
 | succ bl=>
  unfold DataW.trod at h
  split at h
  all_goals first
   | (rename_i hu;rw [ht] at hu;cases hu;done)
   | skip
  ·simp only [yb,yk] at h;obtain ⟨rfl,rfl⟩:=h;exact .inl (by simp only [cJ,ht])
  ·rename_i e' a len cap hu;rw [ht] at hu;injection hu with hu
   injection hu with hu
   subst hu;simp only at h
   split at h
   case isFalse=>cases h
   cases h1:(List.range len).mapM fun i=>(w.cells? base (a.add (i*P.cellsOf e)) (P.cellsOf e)).bind (DataW.trod enc P w base sp held bl e) with
   | none=>rw [h1] at h;simp at h
   | some iW=>
    rw [h1] at h;simp only [wb] at h;obtain ⟨rest,_,h⟩:=wz.1 h;simp only [yk] at h;obtain ⟨rfl,rfl⟩:=h;refine .inr ⟨(rest.map (·.1)).isEmpty,iW.map (·.1),by simp only [cJ,ht,xy],?_⟩;intro y hy;obtain ⟨p,hp,rfl⟩:=uO.1 hy;obtain ⟨i,hi⟩:=mapM_mem h1 p hp;obtain ⟨dL,_,Aq⟩:=Option.bind_eq_some_iff.1 hi;exact ⟨bl,dL,p.2,Aq⟩
  all_goals (cases h;done)
def aon {t:yx} {fs:Array tp} {d:xK H} {n:Nat} (ht:P.underlying t=some (.struct fs)) (h:Rd enc P w base sp held t d):
  ∃ds:List (xK H),ds.length=fs.toList.length/\cJ P (n+1) t d=(fs.toList.zip ds).flatMap (fun x=>cJ P n x.1.type x.2)/\∀i (h1:i<fs.toList.length) (h2:i<ds.length),Rd enc P w base sp held fs.toList[i].type ds[i]:=by
 obtain ⟨bl,cs,ps,h⟩:=h
 cases bl with
 | zero=>simp [DataW.trod] at h
 | succ bl=>
  unfold DataW.trod at h
  split at h
  all_goals first
   | (rename_i hu;rw [ht] at hu;cases hu;done)
   | (cases h;done)
   | skip
  rename_i cs x1 IP fs' hu;rw [ht] at hu;injection hu with hu
  injection hu with hu
  subst hu
  split at h
  case isFalse=>cases h
  obtain ⟨xs,h1,h⟩:=wz.1 h;simp only [yk] at h;obtain ⟨rfl,rfl⟩:=h;refine ⟨xs.map (·.1),by simp [JK h1],by simp only [cJ,ht],?_⟩;have key:∀{r:List tp} {xs:List (xK H×List wx)},r.mapM (fun f=>DataW.trod enc P w base sp held bl f.type ((cs.drop f.offset).take (P.cellsOf f.type)))=some xs->
    ∀i (h1:i<r.length) (h2:i<(xs.map (·.1)).length),Rd enc P w base sp held r[i].type (xs.map (·.1))[i]:=by
   intro r
   induction r with
   | nil=>intro xs h i h1;exact absurd h1 (Nat.not_lt_zero i)
   | cons f r ih=>
    intro xs h i h1 h2;rw [ud] at h
    cases g1:DataW.trod enc P w base sp held bl f.type ((cs.drop f.offset).take (P.cellsOf f.type)) with
    | none=>simp [g1] at h
    | some x=>
     cases g2:r.mapM (fun f=>DataW.trod enc P w base sp held bl f.type ((cs.drop f.offset).take (P.cellsOf f.type))) with
     | none=>simp [g1,g2] at h
     | some ys=>
      simp only [g1,g2,wb,vA,wF,yb] at h;subst h
      cases i with
      | zero=>exact ⟨bl,_,x.2,g1⟩
      | succ i=>exact ih g2 i (by simpa using h1) (by simpa using h2)
  exact key h1
def aqx {t e:yx} {k:Nat} {d:xK H} {n:Nat} (ht:P.underlying t=some (.array k e)) (h:Rd enc P w base sp held t d):
  ∃ds:List (xK H),ds.length=k/\cJ P (n+1) t d=ds.flatMap (fun x=>cJ P n e x)/\∀y,y∈ds->Rd enc P w base sp held e y:=by
 obtain ⟨bl,cs,ps,h⟩:=h
 cases bl with
 | zero=>simp [DataW.trod] at h
 | succ bl=>
  unfold DataW.trod at h
  split at h
  all_goals first
   | (rename_i hu;rw [ht] at hu;cases hu;done)
   | (cases h;done)
   | skip
  rename_i cs x1 IP k' e' hu;rw [ht] at hu;injection hu with hu
  injection hu with pI sN
  subst pI;subst sN
  split at h
  case isFalse=>cases h
  obtain ⟨xs,h1,h⟩:=wz.1 h;simp only [yk] at h;obtain ⟨rfl,rfl⟩:=h;refine ⟨xs.map (·.1),by simp [JK h1],by simp only [cJ,ht],fun y hy=>?_⟩;obtain ⟨p,hp,rfl⟩:=uO.1 hy;obtain ⟨i,hi⟩:=mapM_mem h1 p hp;exact ⟨bl,_,p.2,hi⟩
end
end VE
end
section
namespace VE
open Go
inductive Ty
 | int (k:xc)
 | aw (k:vS)
 | bool
 | str
 | sl (e:Ty)
 | nil
 | cat (a b:Ty)
 | ar (n:Nat) (e:Ty)
def pP:Ty->List AV->Prop
 | .int k,l=>∃z,l=[.int k z]/\(Lit.int k z).wf=true
 | .aw k,l=>∃b,l=[.aw k b]/\(Lit.float k b).wf=true
 | .bool,l=>∃b,l=[.bool b]
 | .str,l=>∃s:List Nat,l=[.str s]/\s.length<9223372036854775808/\∀c,c∈s->c<256
 | .sl e,l=>l=[.ae]\/∃(x:Bool) (ps:List (List AV)),l=[.aB x ps.length ps.flatten]/\∀p,p∈ps->pP e p
 | .nil,l=>l=[]
 | .cat a b,l=>∃x y,l=x++y/\pP a x/\pP b y
 | .ar n e,l=>∃ps:List (List AV),ps.length=n/\l=ps.flatten/\∀p,p∈ps->pP e p
def ma:List (Option Ty)->Option Ty
 | []=>some .nil
 | some a::r=>match ma r with
  | some b=>some (.cat a b)
  | none=>none
 | none::_=>none
def fM (P:xa):Nat->yx->Option Ty
 | 0,_=>none
 | n+1,t=>
  match P.underlying t with
  | some .bool=>some .bool
  | some (.int k)=>some (.int k)
  | some (.float k)=>some (.aw k)
  | some .string=>some .str
  | some (.slice e)=>(fM P n e).map .sl
  | some (.struct fs)=>ma (fs.toList.map fun f=>fM P n f.type)
  | some (.array k e)=>(fM P n e).map (.ar k)
  | _=>none
section
variable {H:Type} {enc:yx×yg->H} {P:xa} {w:yi} {base:Nat} {sp:Nat->Bool} {held:Bool}
def aw6 {t:yx} {k:vS} {d:xK H} {n:Nat} (ht:P.underlying t=some (.float k)) (h:Rd enc P w base sp held t d):∃b,cJ P (n+1) t d=[.aw k b]/\(Lit.float k b).wf=true:=by
 obtain ⟨bl,cs,ps,h⟩:=h
 cases bl with
 | zero=>simp [DataW.trod] at h
 | succ bl=>
  unfold DataW.trod at h
  split at h
  all_goals first
   | (rename_i hu;rw [ht] at hu;cases hu;done)
   | skip
  ·rename_i k1 k2 z hu;rw [ht] at hu;injection hu with hu
   injection hu with hu
   subst hu
   split at h
   ·rename_i hw;simp only [yb,yk] at h;obtain ⟨rfl,rfl⟩:=h;exact ⟨z,by simp only [cJ,ht],hw.2⟩
   ·cases h
  all_goals (cases h;done)
def asU {t:yx} {d:xK H} {n:Nat} (ht:P.underlying t=some .bool) (h:Rd enc P w base sp held t d):∃b,cJ P (n+1) t d=[.bool b]:=by
 obtain ⟨bl,cs,ps,h⟩:=h
 cases bl with
 | zero=>simp [DataW.trod] at h
 | succ bl=>
  unfold DataW.trod at h
  split at h
  all_goals first
   | (rename_i hu;rw [ht] at hu;cases hu;done)
   | skip
  ·simp only [yb,yk] at h;obtain ⟨rfl,rfl⟩:=h;rename_i b _;exact ⟨b,by simp only [cJ,ht]⟩
  all_goals (cases h;done)
def aw7 {t:yx} {d:xK H} {n:Nat} (ht:P.underlying t=some .string) (h:Rd enc P w base sp held t d):
  ∃s:List Nat,cJ P (n+1) t d=[.str s]/\s.length<9223372036854775808/\∀c,c∈s->c<256:=by
 obtain ⟨bl,cs,ps,h⟩:=h
 cases bl with
 | zero=>simp [DataW.trod] at h
 | succ bl=>
  unfold DataW.trod at h
  split at h
  all_goals first
   | (rename_i hu;rw [ht] at hu;cases hu;done)
   | skip
  ·rename_i s hu
   split at h
   ·rename_i hs;simp only [yb,yk] at h;obtain ⟨rfl,rfl⟩:=h;refine ⟨_,by simp only [cJ,ht];rfl,?_,fun c hc=>?_⟩
    ·simp only [xy,Array.length_toList];have h1:s.size<=9223372036854775807:=hs;have h2:s.data.size=s.size:=rfl;omega
    ·obtain ⟨b,_,rfl⟩:=uO.1 hc;exact b.toNat_lt
   ·cases h
  all_goals (cases h;done)
def Zn {n:Nat} (ih:∀{t:yx} {T:Ty} {d:xK H},fM P n t=some T->Rd enc P w base sp held t d->pP T (cJ P n t d)):
  ∀(fs:List tp) (ds:List (xK H)) (T:Ty),ma (fs.map fun f=>fM P n f.type)=some T->ds.length=fs.length->(∀i (h1:i<fs.length) (h2:i<ds.length),Rd enc P w base sp held fs[i].type ds[i])->
   pP T ((fs.zip ds).flatMap fun x=>cJ P n x.1.type x.2)
 | [],ds,T,hT,_,_=>by
  simp only [List.map_nil,ma,yb] at hT;subst hT;simp [pP]
 | f::fs,[],T,_,hl,_=>by simp at hl
 | f::fs,d::ds,T,hT,hl,hr=>by
  simp only [xm] at hT
  cases h1:fM P n f.type with
  | none=>simp [h1,ma] at hT
  | some a=>
   cases h2:ma (fs.map fun f=>fM P n f.type) with
   | none=>simp [h1,h2,ma] at hT
   | some b=>
    simp only [h1,h2,ma,yb] at hT;subst hT;simp only [List.zip_cons_cons,List.flatMap_cons];exact ⟨_,_,rfl,ih h1 (hr 0 (by simp) (by simp)),Zn ih fs ds b h2 (by simpa using hl) (fun i h1 h2=>hr (i+1) (by simpa using h1) (by simpa using h2))⟩
def afH:∀(n:Nat) {t:yx} {T:Ty} {d:xK H},fM P n t=some T->Rd enc P w base sp held t d->pP T (cJ P n t d)
 | 0,t,T,d,hT,_=>by simp [fM] at hT
 | n+1,t,T,d,hT,hr=>by
  have ih:=@afH n
  cases hu:P.underlying t with
  | none=>simp [fM,hu] at hT
  | some u=>
   cases u with
   | slice e=>
    simp only [fM,hu] at hT;obtain ⟨E,hE,rfl⟩:=wz.1 hT
    rcases aqw (n:=n) hu hr with h | ⟨x,iW,h,hm⟩
    ·exact .inl h
    ·refine .inr ⟨x,iW.map (cJ P n e),by rw [h,xy,ybd],fun p hp=>?_⟩;obtain ⟨y,hy,rfl⟩:=uO.1 hp;exact ih hE (hm y hy)
   | struct fs=>
    simp only [fM,hu] at hT;obtain ⟨ds,e1,e2,e3⟩:=aon (n:=n) hu hr;rw [e2];exact Zn ih fs.toList ds T hT e1 e3
   | array k e=>
    simp only [fM,hu] at hT;obtain ⟨E,hE,rfl⟩:=wz.1 hT;obtain ⟨ds,e1,e2,e3⟩:=aqx (n:=n) hu hr;refine ⟨ds.map (cJ P n e),by simp [e1],by rw [e2,ybd],fun p hp=>?_⟩;obtain ⟨y,hy,rfl⟩:=uO.1 hp;exact ih hE (e3 y hy)
   | int k=>
    simp only [fM,hu,yb] at hT;subst hT;exact aw5 hu hr
   | float k=>
    simp only [fM,hu,yb] at hT;subst hT;exact aw6 hu hr
   | bool=>
    simp only [fM,hu,yb] at hT;subst hT;exact asU hu hr
   | string=>
    simp only [fM,hu,yb] at hT;subst hT;exact aw7 hu hr
   | _=>simp [fM,hu] at hT
def DY:Ty->List AV->AV
 | .nil,l | .cat _ _,l | .ar _ _,l=> .agg l
 | _,l=>l.headD .undef
def aoo:∀{l:List (Option Ty)} {T:Ty},ma l=some T->∀x,DY T x= .agg x
 | [],T,h=>by simp only [ma,yb] at h;subst h;exact fun _=>rfl
 | none::r,T,h=>by simp [ma] at h
 | some a::r,T,h=>by
  cases h1:ma r with
  | none=>simp [ma,h1] at h
  | some b=>
   simp only [ma,h1,yb] at h;subst h;exact fun _=>rfl
def ayI {n:Nat} {t:yx} {T:Ty} {d:xK H} (hT:fM P n t=some T):kE P n t d=DY T (cJ P n t d):=by
 cases n with
 | zero=>simp [fM] at hT
 | succ n=>
  cases hu:P.underlying t with
  | none=>simp [fM,hu] at hT
  | some u=>
   cases u with
   | slice e=>
    simp only [fM,hu] at hT;obtain ⟨E,hE,rfl⟩:=wz.1 hT;simp only [kE,hu,DY]
   | struct fs=>
    simp only [fM,hu] at hT;rw [aoo hT];simp only [kE,hu]
   | array k e=>
    simp only [fM,hu] at hT;obtain ⟨E,hE,rfl⟩:=wz.1 hT;simp only [kE,hu,DY]
   | _=>
    simp only [fM,hu,yb,reduceCtorEq] at hT<;>
    (subst hT
     simp only [kE,hu,DY])
def Hd:List Ty->List (List AV)->List AV
 | T::Ts,l::ls=>DY T l::Hd Ts ls
 | _,_=>[]
def aba {n:Nat}:∀{ts:List yx} {Ts:List Ty} {vs:List yg} {ds:List (xK H)} {ps:List wx},(ts.map (fM P n))=Ts.map some->DataW.TrodAll enc P w base sp held ts vs ds ps->
  ∃ls,Aa pP Ts ls/\rQ P n ts ds=Hd Ts ls/\ds.length=ts.length
 | [],[],[],[],ps,_,_=>⟨[],trivial,rfl,rfl⟩
 | t::ts,T::Ts,v::vs,d::ds,ps,hT,⟨p,q,⟨bl,h1⟩,h2,_⟩=>by
  simp only [xm,tC] at hT;obtain ⟨ls,k1,k2,k3⟩:=aba hT.2 h2;exact ⟨cJ P n t d::ls,⟨afH n hT.1 ⟨bl,_,_,h1⟩,k1⟩,by simp only [rQ,Hd,k2,ayI hT.1],by simp [k3]⟩
 | [],_::_,_,_,_,h,_=>by simp at h
 | _::_,[],_,_,_,h,_=>by simp at h
 | [],[],_::_,_,_,_,h=>by simp [DataW.TrodAll] at h
 | [],[],[],_::_,_,_,h=>by simp [DataW.TrodAll] at h
 | _::_,_,[],_,_,_,h=>by simp [DataW.TrodAll] at h
 | _::_,_,_::_,[],_,_,h=>by simp [DataW.TrodAll] at h
def aw8 {α β:Type} {p:α->β->Prop} {a:α}:∀{l:List β},Aa p [a] l->∃x,l=[x]/\p a x
 | [x],h=>⟨x,rfl,h.1⟩
 | [],h=>h.elim
 | _::_::_,h=>h.2.elim
def aw9 {α β:Type} {p:α->β->Prop} {a b:α}:∀{l:List β},Aa p [a,b] l->∃x y,l=[x,y]/\p a x/\p b y
 | x::l,h=>let ⟨y,h1,h2⟩:=aw8 h.2;⟨x,y,by rw [h1],h.1,h2⟩
 | [],h=>h.elim
def axa {α β:Type} {p:α->β->Prop} {a b c:α}:∀{l:List β},Aa p [a,b,c] l->∃x y z,l=[x,y,z]/\p a x/\p b y/\p c z
 | x::l,h=>let ⟨y,z,h1,h2,h3⟩:=aw9 h.2;⟨x,y,z,by rw [h1],h.1,h2,h3⟩
 | [],h=>h.elim
end
end VE
end
section
namespace VE
open Ieee
def QG:ij=1/2:=by decide+kernel
def asV {y:Rat} (h0:0<=y) (j:Nat):bz (y-(nR y:Rat))<=bz (y-(j:Rat)):=by
 have h1:=OT h0;have h2:((y.floor:Int):Rat)<=y:=yar y;have h3:y<((y.floor:Int):Rat)+1:=by
  have:=Rat.lt_floor_add_one y
  rw [Rat.intCast_add] at this;exact this
 rw [<-h1] at h2 h3;unfold nR;generalize y.floor.toNat=n at*
 have e:(((n:Nat):Int):Rat)=(n:Rat):=rfl;rw [e] at h2 h3;rw [QG];have hj:(j:Rat)<=n\/(n:Rat)+1<=j:=by
  by_cases c:j<=n
  ·left;exact_mod_cast c
  ·right
   have:n+1<=j:=by omega
   have h:((n+1:Nat):Rat)<=(j:Rat):=by exact_mod_cast this
   have e:((n+1:Nat):Rat)=(n:Rat)+1:=by rw [ybq];rfl
   rwa [e] at h
 have e1:((n+1:Nat):Rat)=(n:Rat)+1:=by rw [ybq];rfl
 generalize (j:Rat)=J at*
 split
 ·rename_i c;rw [e1];have c':1/2<=y-(n:Rat):=by
   rcases c with c | ⟨c,_⟩
   ·exact wa c
   ·rw [c];exact ycu
  generalize (n:Rat)=N at*
  unfold bz
  split<;>split<;>grind
 ·rename_i c;have c':y-(n:Rat)<=1/2:=wD.1 fun q=>c (.inl q)
  generalize (n:Rat)=N at*
  unfold bz
  split<;>split<;>grind
def A1 {x c:Rat} (hc:0<c):bz (x*c)=bz x*c:=by
 have h:x*c<0↔x<0:=by
  constructor
  ·intro q;exact wM.1 fun q'=>absurd q (wD.2 (uk q' (wa hc)))
  ·intro q
   have:=ua q hc
   rwa [uZ] at this
 unfold bz;by_cases g:x<0
 ·rw [yL g,yL (h.2 g)];grind
 ·rw [yu g,yu fun q=>g (h.1 q)]
def Fl.mag {b M:Nat} {s:Bool} (h:Fl b s M):∃m j:Nat,m<16777216/\j<=253/\M=m*2^j:=by
 obtain ⟨m,e,h1,rfl⟩:=h.ex;obtain ⟨b1,b2,b3,b4⟩:=h1.b;exact ⟨m,(e+149).toNat,b2,by omega,rfl⟩
def Ge (k:Int) (hk: -149<=k):((2^(149+k).toNat:Nat):Rat)=p2 (149+k):=by
 rw [<-eJ,show (((149+k).toNat:Nat):Int)=149+k by omega]
def aet {a:Rat} (h0:0<=a) {N:Nat} (h:NF a (some N)) {b K:Nat} {s:Bool} (hK:Fl b s K):bz (a*p2 149-(N:Rat))<=bz (a*p2 149-(K:Rat)):=by
 rcases h with ⟨_,q⟩ | ⟨_,k,hk,_,⟨_,_,q⟩ | ⟨_,q⟩⟩
 ·cases q
 ·cases q
 ·cases q;have gA:0<=a*p2 (-k):=uk h0 (wa (iU _));have hq:=iU (149+k);have ea:a*p2 149=a*p2 (-k)*p2 (149+k):=by
   rw [xB,<-du,show -k+(149+k)=149 by omega]
  have eN:((nR (a*p2 (-k))*2^(149+k).toNat:Nat):Rat)=(nR (a*p2 (-k)):Rat)*p2 (149+k):=by
   rw [xd,Ge k hk.lo]
  obtain ⟨m,j,hm,hj,rfl⟩:=hK.mag;have Ik:=asV gA;rw [ea,eN,show a*p2 (-k)*p2 (149+k)-(nR (a*p2 (-k)):Rat)*p2 (149+k)=(a*p2 (-k)-(nR (a*p2 (-k)):Rat))*p2 (149+k) by grind,A1 hq];by_cases c:(149+k).toNat<=j
  ·obtain ⟨d,rfl⟩:∃d,j=(149+k).toNat+d:=⟨j-(149+k).toNat,by omega⟩;have e:((m*2^((149+k).toNat+d):Nat):Rat)=((m*2^d:Nat):Rat)*p2 (149+k):=by
    rw [<-Ge k hk.lo,<-xd,xj,xb,xg (2^d)]
   rw [e,show a*p2 (-k)*p2 (149+k)-((m*2^d:Nat):Rat)*p2 (149+k)=(a*p2 (-k)-((m*2^d:Nat):Rat))*p2 (149+k) by grind,A1 hq];exact xz (Ik _) (wa hq)
  ·have aY:=hk.lo;have fg:k≠-149:=fun q=>c (by rw [q];simp)
   have iz:8388608<=a*p2 (-k):=by rcases hk.ge with g | g;exact g;exact absurd g fg
   have aF:((m*2^j:Nat):Rat)<=8388608*p2 (149+k):=by
    have h1:m*2^j<=8388608*2^(149+k).toNat:=by
     obtain ⟨d,hd⟩:∃d,(149+k).toNat=j+1+d:=⟨(149+k).toNat-j-1,by omega⟩;rw [hd,xj,xj,Nat.pow_one];have h2:1<=2^d:=yaT;have h3:m*2^j<=16777216*2^j:=yT _ (by omega);have h4:16777216*2^j*1<=16777216*2^j*2^d:=yP _ h2;rw [show 8388608*(2^j*2*2^d)=16777216*2^j*2^d by grind];omega
    have h2:((m*2^j:Nat):Rat)<=((8388608*2^(149+k).toNat:Nat):Rat):=by exact_mod_cast h1
    rw [xd 8388608,Ge k hk.lo] at h2;exact h2
   have h1:=xz (Ik 8388608) (wa hq);refine tI h1 ?_;rw [<-A1 hq];have h2:=xz iz (wa hq)
   rw [show (a*p2 (-k)-((8388608:Nat):Rat))*p2 (149+k)=a*p2 (-k)*p2 (149+k)-8388608*p2 (149+k) by
    have:((8388608:Nat):Rat)=8388608:=rfl
    rw [this];grind]
   generalize a*p2 (-k)*p2 (149+k)=X at*
   generalize (8388608:Rat)*p2 (149+k)=Y at*
   generalize ((m*2^j:Nat):Rat)=Z at*
   unfold bz
   split<;>split<;>grind
def Bb (s:Bool) (M:Nat):b7 s M*p2 149=((aZ s M:Int):Rat):=by
 unfold b7;rw [xB,<-du,show (-149:Int)+149=0 by omega,me,wj]
def Kv {a:Rat} {N:Nat} (h:NF (bz a) (some N)) {b K:Nat} {s:Bool} (hK:Fl b s K):bz (a-b7 (cE a N) N)<=bz (a-b7 s K):=by
 have hp:=iU 149;have k1:=aet (Ku a) h hK;have k0:=aet (Ku a) h Fl.zero;have e1:=Bb (cE a N) N;have e2:=Bb s K;have g:bz (a-b7 (cE a N) N)*p2 149<=bz (a-b7 s K)*p2 149:=by
  rw [<-A1 hp,<-A1 hp,show (a-b7 (cE a N) N)*p2 149=a*p2 149-b7 (cE a N) N*p2 149 by grind,show (a-b7 s K)*p2 149=a*p2 149-b7 s K*p2 149 by grind,e1,e2];have hx:bz a*p2 149=bz (a*p2 149):=(A1 hp).symm;rw [hx] at k0 k1;have hs:(a<0)↔(a*p2 149<0):=by
   constructor
   ·intro q
    have:=ua q hp
    rwa [uZ] at this
   ·intro q;exact wM.1 fun q'=>absurd q (wD.2 (uk q' (wa hp)))
  have c0:((0:Nat):Rat)=0:=rfl;rw [c0] at k0;have hN:(0:Rat)<=(N:Rat):=tE;have hKn:(0:Rat)<=(K:Rat):=tE;have eN:((aZ (cE a N) N:Int):Rat)=if a*p2 149<0 then -(N:Rat) else N:=by
   unfold cE aZ;by_cases c:a<0
   ·rw [yL (hs.1 c),y5 c,Bool.true_and];by_cases z:N=0
    ·subst z;rfl
    ·rw [y5 z,yL rfl,vn];rfl
   ·rw [yu (fun q=>c (hs.2 q)),yF c,Bool.false_and,yu (by decide)];rfl
  have eK:((aZ s K:Int):Rat)=if s=true then -(K:Rat) else K:=by
   unfold aZ
   cases s with
   | true=>rw [yL rfl,yL rfl,vn];rfl
   | false=>rw [yu (by decide),yu (by decide)];rfl
  rw [eN,eK];generalize a*p2 149=A at*
  generalize (N:Rat)=n at*
  generalize (K:Rat)=m at*
  unfold bz at*
  by_cases c:A<0
  ·simp only [yL c] at*
   cases s<;>simp only [yB,xk,xR] at* <;>grind
  ·simp only [yu c] at*
   cases s<;>simp only [yB,xk,xR] at* <;>grind
 exact wD.1 fun q=>absurd ((wm hp).2 q) (wD.2 g)
end VE
end
section
namespace VE
open Go (IntKind)
open Ieee
def afI {s t:Bool} {M N:Nat} (h:aZ s M<aZ t N):b7 s M<b7 t N:=by
 have hp:=iU 149;refine (wm hp).1 ?_;rw [Bb,Bb];exact wV.2 h
def aeu {a b:Rat} {N M:Nat} (h1:NF (bz a) (some N)) (h2:NF (bz b) (some M)) {x y:Nat} (hx:Fl x (cE a N) N) (hy:Fl y (cE b M) M) (nD:a<=b):aZ (cE a N) N<=aZ (cE b M) M:=by
 refine um.1 fun c=>?_
 have c':=afI c;have k1:=Kv h1 hy;have k2:=Kv h2 hx;have aF:a=b:=by
  generalize b7 (cE a N) N=X at*
  generalize b7 (cE b M) M=Y at*
  unfold bz at k1 k2
  split at k1<;>split at k1<;>split at k2<;>split at k2<;>grind
 subst aF;cases P8 h1 h2;exact absurd c (Int.lt_irrefl _)
def axb {a:Rat} {N K:Nat} (h:NF (bz a) (some N)) (hs:cE a N=false) {b:Nat} (hK:Fl b false K) (aF:N<K):a<=(b7 false N+b7 false K)*ij:=by
 have k:=Kv h hK;rw [hs] at k;have c:=afI (s:=false) (t:=false) (M:=N) (N:=K) (by show (N:Int)<K;omega);rw [QG];generalize b7 false N=X at*
 generalize b7 false K=Y at*
 unfold bz at k
 split at k<;>split at k<;>grind
def aqy (w:Nat):nR (w:Rat)=w:=by
 have hf:(w:Rat).floor.toNat=w:=by
  have:(w:Rat).floor=(w:Int):=by
   have e:(w:Rat)=((w:Int):Rat):=rfl;rw [e,Rat.floor_intCast]
  rw [this,Int.toNat_natCast]
 unfold nR;rw [hf,Rat.sub_self,QG,yu];rintro (q | ⟨q,_⟩)
 ·exact absurd q (by decide+kernel)
 ·exact absurd q (by decide+kernel)
def aqz (s:Bool) (M:Nat):bz (b7 s M)*p2 149=(M:Rat):=by
 rw [<-A1 (iU 149),Bb];unfold bz aZ;have hM:(0:Rat)<=(M:Rat):=tE
 cases s with
 | false=>
  simp only [yB,xk];exact yu (wD.2 hM)
 | true=>
  have e:(((M:Nat):Int):Rat)=(M:Rat):=rfl;simp only [xR,vn,e]
  split<;>grind
def axc {b M:Nat} {s:Bool} (hb:Fl b s M) {o:Option Nat} (h:NF (bz (b7 s M)) o):o=some M:=by
 have ev:=aqz s M;have aF:=hb.lt;obtain ⟨m,j,hm,hj,hM⟩:=hb.mag;rcases h with ⟨h1,_⟩ | ⟨_,k,hk,iy,h3⟩
 ·have h2:=xz h1 (wa (iU 149));rw [ev,<-du,show (128:Int)+149=((277:Nat):Int) by omega,eJ] at h2
  have:2^277<=M:=by exact_mod_cast h2
  omega
 ·have aY:=hk.lo;obtain ⟨t,ht⟩:∃t,t=(149+k).toNat:=⟨_,rfl⟩;have ey:bz (b7 s M)*p2 (-k)*p2 (149+k)=(M:Rat):=by
   rw [xB,<-du,show -k+(149+k)=149 by omega,ev]
  have et:=Ge k aY;rw [<-ht] at et;rw [<-et] at ey;have hp:0<2^t:=y7 _;have hpR:(0:Rat)<((2^t:Nat):Rat):=by exact_mod_cast hp
  obtain ⟨w,hw⟩:∃w,M=w*2^t:=by
   by_cases c:t<=j
   ·obtain ⟨d,rfl⟩:∃d,j=t+d:=⟨j-t,by omega⟩;exact ⟨m*2^d,by rw [hM,xj,xb,xg (2^d)]⟩
   ·have hg:8388608<=bz (b7 s M)*p2 (-k):=by
     rcases hk.ge with g | g
     ·exact g
     ·exact absurd (show t<=j by omega) c
    have h1:=xz hg (wa hpR);rw [ey] at h1;have h2:((8388608*2^t:Nat):Rat)<=(M:Rat):=by rw [xd];exact h1
    have h3:8388608*2^t<=M:=by exact_mod_cast h2
    obtain ⟨d,rfl⟩:∃d,t=j+1+d:=⟨t-j-1,by omega⟩;have h4:m*2^j<16777216*2^j:=xI hm (y7 _);have h5:2^(j+1)*1<=2^(j+1)*2^d:=yP _ yaT;rw [xj] at h3;rw [yU] at h3 h5;omega
  have hy:bz (b7 s M)*p2 (-k)=(w:Rat):=by
   have ey:bz (b7 s M)*p2 (-k)*((2^t:Nat):Rat)=(w:Rat)*((2^t:Nat):Rat):=by rw [ey,<-xd,<-hw]
   have:=congrArg (·*(((2^t:Nat):Rat))⁻¹) ey
   simp only [xB,Rat.mul_inv_cancel _ (Rat.ne_of_gt hpR),wj] at this;exact this
  have hl:=hk.lt;rw [hy,aqy] at h3;rw [hy] at hl;have fY:w<16777216:=by exact_mod_cast hl
  rcases h3 with ⟨q,_⟩ | ⟨_,q⟩
  ·omega
  ·rw [q,hw,ht]
section
variable {P:aM} {L:Lib} {N:Nat}
def axd:∀(d:Nat) (st:St),(∃(n:Nat) (k:Int),n<16777216/\k+300<=d/\-298<=k/\k<=277/\(n:Rat)*p2 k=b7 false N/\aP [4,5] st=⟨[(4,ab n),(5,ab k)],[],0,0⟩)->
   ∃ex s',D P L (.loop [4,5] C1) st=some (ex,s')/\∃tm ct,∃(n:Nat) (k:Int),s'=⟨tm,[],ct,0⟩/\ex= .exit 0/\n<16777216/\-298<=k/\k<=277/\(8388608<=n\/k<=-149)/\(n:Rat)*p2 k=b7 false N/\aj tm 4=ab n/\aj tm 5=ab k:=by
 intro dq sq;generalize bq:aP [4,5] sq=s0;revert bq s0 sq dq;apply dt;rintro d st ⟨n,k,hn,hd,k1,k2,hq,rfl⟩;by_cases c1:n<8388608
 ·have c1':(n:Int)<8388608:=by omega
  by_cases c2: -149<k
  ·left
   have w1:IntKind.wrap .i64 (2*(n:Int))=((2*n:Nat):Int):=wrap64 (by omega) (by omega);have w2:IntKind.wrap .i64 (k-1)=k-1:=wrap64 (by omega) (by omega);simp only [go_sem,ya,C1,c1',c2,yq,w1,w2];refine ⟨_,d-1,rfl,by omega,2*n,k-1,by omega,by omega,by omega,by omega,?_,?_⟩
   ·rw [<-hq,xd,show k=k-1+1 by omega,du,oh,show k-1+1-1=k-1 by omega]
    have:((2:Nat):Rat)=2:=rfl
    rw [this];grind
   ·simp only [go_sem,ya,aC]<;>rfl
  ·right
   simp only [go_sem,ya,C1,c1',c2,yq,yv];exact ⟨_,_,rfl,by simp,_,_,n,k,rfl,rfl,hn,k1,k2,.inr (by omega),hq,by simp only [go_sem,ya],by simp only [go_sem,ya]⟩
 ·right
  simp only [go_sem,ya,C1,show ¬(n:Int)<8388608 by omega,yv];exact ⟨_,_,rfl,by simp,_,_,n,k,rfl,rfl,hn,k1,k2,.inl (by omega),hq,by simp only [go_sem,ya],by simp only [go_sem,ya]⟩
def axe:∀(d:Nat) (st:St),(∃(n:Nat) (k:Int),n<16777216/\-k<=d/\-298<=k/\k<=277/\(8388608<=n\/k<=-149)/\(n:Rat)*p2 k=b7 false N/\aP [4,5] st=⟨[(4,ab n),(5,ab k)],[],0,0⟩)->
   ∃ex s',D P L (.loop [4,5] GK) st=some (ex,s')/\∃tm ct,∃(n:Nat) (k:Int),s'=⟨tm,[],ct,0⟩/\ex= .exit 2/\n<16777216/\-149<=k/\k<=277/\(8388608<=n\/k<=-149)/\(n:Rat)*p2 k=b7 false N/\aj tm 4=ab n/\aj tm 5=ab k:=by
 intro dq sq;generalize bq:aP [4,5] sq=s0;revert bq s0 sq dq;apply dt;rintro d st ⟨n,k,hn,hd,k1,k2,k3,hq,rfl⟩;by_cases c:k< -149
 ·left
  obtain ⟨m,rfl⟩:∃m,n=2*m:=by
   obtain ⟨i,hi⟩:∃i:Nat,k= -149-((i+1:Nat):Int):=⟨(-150-k).toNat,by omega⟩;have h1:(n:Rat)=(N:Rat)*((2^(i+1):Nat):Rat):=by
    have h2:=congrArg (·*p2 (-k)) hq;rw [xB,<-du,show k+ -k=0 by omega,me,wj] at h2;rw [h2];unfold b7;rw [xB,<-du,show -149+ -k=((i+1:Nat):Int) by omega,eJ];rfl
   rw [<-xd] at h1;have h2:n=N*2^(i+1):=by exact_mod_cast h1
   exact ⟨N*2^i,by rw [h2,yU];grind⟩
  have w1:IntKind.wrap .i64 (Int.tdiv ((2*m:Nat):Int) 2)=(m:Int):=by
   rw [Int.tdiv_eq_ediv_of_nonneg (by omega),show ((2*m:Nat):Int)/2=m by omega];exact wrap64 (by omega) (by omega)
  have w2:IntKind.wrap .i64 (k+1)=k+1:=wrap64 (by omega) (by omega);simp only [go_sem,ya,GK,c,yq,eI _ _ _ (show (2:Int)≠0 by decide),w1,w2];refine ⟨_,d-1,rfl,by omega,m,k+1,by omega,by omega,by omega,by omega,.inr (by omega),?_,?_⟩
  ·rw [<-hq,xd,du,oh]
   have:((2:Nat):Rat)=2:=rfl
   rw [this];grind
  ·simp only [go_sem,ya,aC]<;>rfl
 ·right
  simp only [go_sem,ya,GK,c,yv];exact ⟨_,_,rfl,by simp,_,_,n,k,rfl,rfl,hn,by omega,k2,k3,hq,by simp only [go_sem,ya],by simp only [go_sem,ya]⟩
def aA3 (M9:Has P L 428 fL) (DX:Has P L 430 HF) (Ii:Has P L 390 HE) {b:Nat} (hb:Fl b false N):ai P L 428 [.aw .f32 b] (.aa [.aw .f32 0,.bool false])\/∃y K,N<K/\Fl y false K/\ai P L 428 [.aw .f32 b] (.aa [.aw .f32 y,.bool true]):=by
 obtain ⟨n0,j0,e1,oD,j1,j2,bq⟩:=ajj DX hb (fun q=>by cases q);have l0:=axd (P:=P) (L:=L) (N:=N) 577;have l1:=axe (P:=P) (L:=L) (N:=N) 298;have last:∀(n:Nat) (k:Int) (tm:Env),n<16777216-> -149<=k->k<=277->(8388608<=n\/k<=-149)->(n:Rat)*p2 k=b7 false N->aj tm 4=ab n->aj tm 5=ab k->
   db fL.dj (D P L (bT 3 fL.body) ⟨tm,[],0,0⟩)=some (.aa [.aw .f32 0,.bool false])\/∃y K,N<K/\Fl y false K/\db fL.dj (D P L (bT 3 fL.body) ⟨tm,[],0,0⟩)=some (.aa [.aw .f32 y,.bool true]):=by
  intro n k tm hn k1 k2 k3 hq t4 t5;have hN:n*2^(149+k).toNat=N:=by
   have h2:=congrArg (·*p2 149) hq;rw [Bb,xB,<-du,show k+149=149+k by omega,<-Ge k k1,<-xd] at h2;have e:((aZ false N:Int):Rat)=(N:Rat):=rfl;rw [e] at h2
   exact_mod_cast h2
  have hk:k<=104:=by
   rcases k3 with g | g
   ·refine um.1 fun q=>?_
    have h1:=hb.lt;rw [<-hN] at h1;have h2:2^254<=2^(149+k).toNat:=yR (by decide) (by omega);have h3:=xZ g h2;have h4:8388608*2^254=2^277:=by decide+kernel
    omega
   ·omega
  by_cases c:n=16777215/\k=104
  ·left
   obtain ⟨rfl,rfl⟩:=c;simp only [go_sem,ya,fL,bT,au,t4,t5,show ((16777215:Nat):Int)=16777215 from rfl,yq];rfl
  ·right
   obtain ⟨y,e2,hy⟩:=aAI (P:=P) (L:=L) Ii (n:=n+1) (k:=k) (by omega) k1 hk (fun q=>by omega);refine ⟨y,_,?_,hy,?_⟩
   ·rw [<-hN];exact xI (by omega) (y7 _)
   ·have w1:IntKind.wrap .i64 ((n:Int)+1)=((n+1:Nat):Int):=wrap64 (by omega) (by omega);unfold ai at e2;by_cases d:n=16777215
    ·have dk:¬k=104:=fun q=>c ⟨d,q⟩
     simp only [go_sem,ya,fL,bT,au,t4,t5,show ((n:Nat):Int)=16777215 by omega,dk,yq,yv];rw [show ((n:Nat):Int)=16777215 by omega] at w1;simp only [go_sem,ya,w1,e2];rfl
    ·simp only [go_sem,ya,fL,bT,au,t4,t5,show ¬((n:Nat):Int)=16777215 by omega,yv,w1,e2];rfl
 have key:(db fL.dj (D P L fL.body ⟨dQ 0 [.aw .f32 b],[],0,0⟩)=some (.aa [.aw .f32 0,.bool false]))\/∃y K,N<K/\Fl y false K/\db fL.dj (D P L fL.body ⟨dQ 0 [.aw .f32 b],[],0,0⟩)=some (.aa [.aw .f32 y,.bool true]):=by
  suffices hh:∃(n:Nat) (k:Int) (tm:Env),n<16777216/\-149<=k/\k<=277/\(8388608<=n\/k<=-149)/\(n:Rat)*p2 k=b7 false N/\aj tm 4=ab n/\aj tm 5=ab k/\db fL.dj (D P L fL.body ⟨dQ 0 [.aw .f32 b],[],0,0⟩)=db fL.dj (D P L (bT 3 fL.body) ⟨tm,[],0,0⟩) by
   obtain ⟨n,k,tm,a1,a2,a3,a4,a5,a6,a7,a8⟩:=hh;rw [a8];exact last n k tm a1 a2 a3 a4 a5 a6 a7
  have cut:fL.body= .seq (aW fL.body) (.seq (aW (bT 0 fL.body)) (.seq (aW (bT 1 fL.body)) (.seq (aW (bT 2 fL.body)) (bT 3 fL.body)))):=rfl;unfold ai at e1;rw [cut];generalize bT 3 fL.body=T;simp only [go_sem,ya,fL,bT,au,aW,nS,e1,ji,jf,jg];generalize hq:D P L (.loop [4,5] C1) _=q;obtain ⟨ex,st,rfl,tm,ct,n,k,rfl,rfl,b1,b2,b3,b4,b5,t4,t5⟩:=cr hq l0 ⟨n0,j0,oD,by omega,j1,j2,bq,by simp only [go_sem,ya,aC]<;>rfl⟩
  simp only [go_sem,aC,t4,t5];generalize hq:D P L (.loop [4,5] GK) _=q;obtain ⟨ex,st,rfl,tm,ct,n',k',rfl,rfl,d1,d2,d3,d4,d5,u4,u5⟩:=cr hq l1 ⟨n,k,b1,by omega,b2,b3,b4,b5,by simp only [go_sem,ya,aC]<;>rfl⟩
  refine ⟨n',k',[(4,ab n'),(5,ab k')],d1,d2,d3,d4,d5,by simp only [go_sem],by simp only [go_sem,ya],?_⟩;simp only [go_sem,aC,u4,u5]
 rcases key with k | ⟨y,K,k1,k2,k3⟩
 ·left;unfold ai;rw [aG M9];exact k
 ·right;exact ⟨y,K,k1,k2,by unfold ai;rw [aG M9];exact k3⟩
end
end VE
end
section
namespace VE
open Go (IntKind)
open Ieee
structure zo (P:aM) (L:Lib):Prop where
 p:N6 P L
 x:Fx P L
 r:Fy P L
 M8:Has P L 203 LA
 M7:L.pure 231=some Ak
 Ig:Has P L 315 LM
 WC:Has P L 319 LN
 M4:Has P L 359 zY
 Ii:Has P L 390 HE
 aA4:Has P L 426 ek
 WE:L.pure 427=some Ak
 M9:Has P L 428 fL
 ayJ:ai P L 179 [] (.bool true)
def GR {b:Nat} {s:Bool} {M:Nat} (h:Fl b s M):Hq 429 (b7 s M):=by
 have hM:=h.lt;have k1:Hq 278 (((aZ s M:Int)):Rat):=aa5 278 (agW 278 277 hM (by decide)) (by decide);exact (k1.mul (QE (-149))).mono (by decide)
def aac {s:List Nat} (h:DW 40 s=true):s.length<=82/\jE s=0/\Hq 160 (jN s):=by
 unfold DW at h;simp only [Bool.and_eq_true,th] at h;obtain ⟨h1,h2,h3,h4⟩:=h
 exact ⟨by omega,h2,JO (k:=40) (by omega) (by omega),JO (z:=((jN s).den:Int)) (k:=40) (by rw [xn];omega) (by omega)⟩
def aad {q:Rat} (h:q<=0):bV q.num<=0:=by
 refine um.1 fun c=>?_
 exact absurd ((OA q).1 c) (wD.2 h)
def aqA (a:Rat):bz (-a)=bz a:=by
 unfold bz
 split<;>split<;>grind
def He (s:Bool):aZ s 0=0:=by cases s<;>rfl
section
variable {P:aM} {L:Lib} {s t:List Nat} {b:Nat}
def Kw {a:Rat} (h:a<0):RT a=45::RT (-a):=by
 have hn:a.num<0:=yad.1 fun q=>absurd (tv.1 q) (wM.2 h)
 rw [QF,QF,lR hn,Rat.neg_num,Rat.neg_den];obtain ⟨m,hm⟩:∃m:Nat,-a.num=m:=⟨(-a.num).toNat,by omega⟩;rw [hm,km,show a.num.natAbs=m by omega];rfl
def ag1 (h:Rm P L) {a:Rat} {K:Nat} (ka:Hq K a) (hK:K<=1000000):ai P L 285 [.str (RT a)] (.str (RT (bz a))):=by
 have e1:=QB h ka (by omega);have d0:decide (bV a.num<0)=decide (a<0):=by
  have h:=JC a;by_cases c:a<0
  ·rw [y5 c,y5 (h.2 c)]
  ·rw [yF c,yF fun q=>c (h.1 q)]
 have hl:=zH ka;unfold bz;unfold ai at e1 ⊢;rw [aG h.aje];by_cases h0:a<0
 ·rw [yL h0];have hc:=F0 (s:=RT a) (k:=1) (by rw [Kw h0];simp)
  rw [show (RT a).drop 1=RT (-a) by rw [Kw h0];rfl] at hc
  simp only [Kw h0,yM] at hc e1;rw [Kw h0];simp only [go_sem,ya,Dq,e1,d0,h0,yq,ef,eC,df,yM,hc]
 ·rw [yu h0];simp only [go_sem,ya,Dq,e1,d0,h0,yv]
def KJ (h:zo P L) {a:Rat} (ka:Hq 429 a):∃o,NF (bz a) o/\(match o with
  | none=>ai P L 202 [.str (RT a)] (.aa [.aw .f32 0,ab 4])
  | some M=>∃b,Fl b (cE a M) M/\ai P L 202 [.str (RT a)] (.aa [.aw .f32 b,ab 0])):=
 aA0 h.p (ka.mono (by decide)) (P7 ka (by decide))
def aqB (h:zo P L) {g:Bool} {K:Nat} (hz:Fl b g K) {tm:Env} {u v:AV} (t0:aj tm 0=u) (t1:aj tm 1=v) (t2:aj tm 2= .aw .f32 b):
  ∃bG,D P L (gH 3 (bT 1 ek.body)) ⟨tm,[],0,0⟩=some (.normal,⟨bG,[],0,0⟩)/\aj bG 0=u/\aj bG 1=v/\aj bG 7= .str (RT (b7 g K)):=by
 have kz:=GR hz;have e1:=ajr h.x h.p.toTx h.M7 h.M8 hz;have lz:=zH kz;have e2:=Wz h.r.toRm (s:=RT (b7 g K)) (by omega);rw [P7 kz (by decide)] at e2;obtain ⟨o,n1,w1⟩:=KJ h kz;have ho:=axc hz n1;subst ho;obtain ⟨x,hx,e3⟩:=w1;have e4:=K9 hx hz;have hs:aZ (cE (b7 g K) K) K=aZ g K:=by
  by_cases z:K=0
  ·subst z;rw [He,He]
  ·have hv:=Bb g K
   have:cE (b7 g K) K=g:=by
    unfold cE;rw [y5 z,vO];have hp:=iU 149
    cases g with
    | true=>
     refine y5 (wM.1 fun q=>?_)
     have:=uk q (wa hp)
     rw [hv] at this
     have:(0:Int)<=aZ true K:=by exact_mod_cast this
     unfold aZ at this;rw [yL rfl] at this;omega
    | false=>
     refine yF fun q=>?_
     have:=ua q hp
     rw [hv,uZ] at this
     have:aZ false K<(0:Int):=by exact_mod_cast this
     unfold aZ at this;rw [yu (by decide)] at this;omega
   rw [this]
 rw [y5 hs] at e4;unfold ai at e1 e2 e3;refine ⟨_,(by simp only [go_sem,ya,ek,gH,aW,au,bT,t2,nS,ji,jf,jg,zf,e1,e2,e3,e4,yN,yq]<;>rfl),?_,?_,?_⟩<;>simp only [go_sem,ya,t0,t1]
def aqC (h:zo P L) {a c q:Rat} (ka:Hq 160 a) (kc:Hq 160 c) {g:Bool} {K:Nat} (hz:Fl b g K) (hq:q=b7 g K) {N M x y:Nat} (n1:NF (bz a) (some N)) (n2:NF (bz c) (some M)) (hx:Fl x (cE a N) N) (hy:Fl y (cE c M) M) {tm:Env} (t0:aj tm 0= .str (RT a)) (t1:aj tm 1= .str (RT c)) (t7:aj tm 7= .str (RT q)) (t11:aj tm 11= .aw .f32 x) (t13:aj tm 13= .aw .f32 y):
  ∃bG,D P L (gH 3 (bT 8 ek.body)) ⟨tm,[],0,0⟩=some (.normal,⟨bG,[],0,0⟩)/\aj bG 0= .str (RT a)/\aj bG 11= .aw .f32 x/\aj bG 15= .str (RT (b7 (cE a N) N)):=by
 have kx:=GR hx;have kq:Hq 429 q:=hq▸GR hz;have e1:=M6 (P:=P) h.WE x;have e2:=M6 (P:=P) h.WE y;rw [hx.fin] at e1;rw [hy.fin] at e2;have e3:=ajr h.x h.p.toTx h.M7 h.M8 hx;have lx:=zH kx;have e4:=Wz h.r.toRm (s:=RT (b7 (cE a N) N)) (by omega);rw [P7 kx (by decide)] at e4;have e5:=QD h.r.toRp ka kx (by decide);have e6:=ag1 h.r.toRm (ka.sub kx) (by decide);have e7:=QD h.r.toRp ka kq (by decide);have e8:=ag1 h.r.toRm (ka.sub kq) (by decide);have kab:∀{r:Rat} {K:Nat},Hq K r->Hq K (bz r):=fun {r K} hr=>by
  unfold bz;split
  ·exact hr.neg
  ·exact hr
 have e9:=WB h.r.toRp h.Ig (kab (ka.sub kx)) (kab (ka.sub kq)) (by decide);have Ik:=Kv n1 hz;rw [<-hq] at Ik;have hn:bV (bz (a-b7 (cE a N) N)-bz (a-q)).num<=0:=aad (by
  have:bz (a-b7 (cE a N) N)<=bz (a-q):=Ik
  grind)
 have AM:=WB h.r.toRp h.Ig ka kc (by decide);have g1:=ayq hx hy;have g2:=K8 hx hy;have o1:=fun Je:a<=c=>aeu n1 n2 hx hy Je
 have o2:=fun Je:c<=a=>aeu n2 n1 hy hx Je
 have p1:=Zm (a-c);have p2:=OA (a-c);have fU:=um.2 hn;unfold ai at e1 e2 e3 e4 e5 e6 e7 e8 e9 AM;generalize bV (bz (a-b7 (cE a N) N)-bz (a-q)).num=τ at*
 generalize bV (a-c).num=σ at*
 generalize b7 (cE a N) N=X at*
 by_cases c1:σ<=0
 ·have Je:a<=c:=wD.1 fun q=>by
   have:=p2.2 (by grind)
   omega
  rw [yF (show ¬aZ (cE c M) M<aZ (cE a N) N from um.2 (o1 Je))] at g1;by_cases c2:0<=σ
  ·have Cg:c<=a:=by have:=p1.1 c2;grind
   rw [yF (show ¬aZ (cE a N) N<aZ (cE c M) M from um.2 (o2 Cg))] at g2;refine ⟨_,(by simp only [go_sem,ya,ek,gH,aW,au,bT,t0,t1,t7,t11,t13,nS,ji,jf,jg,e1,e2,e3,e4,e5,e6,e7,e8,e9,AM,g1,g2,fU,c1,c2,yN,yq,yv]<;>rfl),?_,?_,?_⟩<;>simp only [go_sem,ya,t0,t11]
  ·refine ⟨_,(by simp only [go_sem,ya,ek,gH,aW,au,bT,t0,t1,t7,t11,t13,nS,ji,jf,jg,e1,e2,e3,e4,e5,e6,e7,e8,e9,AM,g1,fU,c1,c2,yN,yq,yv]<;>rfl),?_,?_,?_⟩<;>simp only [go_sem,ya,t0,t11]
 ·have c2:0<=σ:=by omega
  have Cg:c<=a:=by have:=p1.1 c2;grind
  rw [yF (show ¬aZ (cE a N) N<aZ (cE c M) M from um.2 (o2 Cg))] at g2;refine ⟨_,(by simp only [go_sem,ya,ek,gH,aW,au,bT,t0,t1,t7,t11,t13,nS,ji,jf,jg,e1,e2,e3,e4,e5,e6,e7,e8,e9,AM,g2,fU,c1,c2,yN,yq,yv]<;>rfl),?_,?_,?_⟩<;>simp only [go_sem,ya,t0,t11]
def aqD (h:zo P L) {a:Rat} (ka:Hq 160 a) {N x:Nat} (n1:NF (bz a) (some N)) (hx:Fl x (cE a N) N) {tm:Env} (t0:aj tm 0= .str (RT a)) (t11:aj tm 11= .aw .f32 x) (t15:aj tm 15= .str (RT (b7 (cE a N) N))):
  db [.t 6] (D P L (bT 12 ek.body) ⟨tm,[],0,0⟩)=some (.bool true):=by
 have e1:=QC h.r.toRp ka (by decide);obtain ⟨o,m1,w1⟩:=KJ h (ka.neg.mono (show 160<=429 by decide));rw [aqA] at m1;cases P8 n1 m1;obtain ⟨y,hy,e2⟩:=w1;have e3:=K9 hy hx.neg;have hs:aZ (cE (-a) N) N=aZ (!(cE a N)) N:=by
  by_cases z:N=0
  ·subst z;rw [He,He]
  ·have a0:a≠0:=fun q=>by
    subst q
    have:bz 0=0:=by decide+kernel
    rw [this] at n1;cases P8 n1 ajq;exact z rfl
   have:cE (-a) N= !(cE a N):=by
    unfold cE;rw [y5 z,vO,vO];by_cases c:a<0
    ·rw [y5 c,yF (by grind)];rfl
    ·rw [yF c,y5 (by grind)];rfl
   rw [this]
 rw [y5 hs] at e3;have en:=G8 x;have e4:=K8 hx Fl.zero;rw [He] at e4;unfold ai at e1 e2;by_cases c:aZ (cE a N) N<0
 ·rw [y5 c] at e4;simp only [go_sem,ya,ek,bT,au,t0,t11,ji,jf,jg,zf,e1,e2,e3,en,e4,yN,yq]
 ·rw [yF c] at e4;have hg:cE a N=false:=by
   cases hh:cE a N with
   | false=>rfl
   | true=>
    exfalso
    rw [hh] at c;have hN:N≠0:=by
     intro z;subst z;unfold cE at hh;simp at hh
    apply c;unfold aZ;rw [yL rfl];omega
  rw [hg] at hx t15;rcases aA3 h.M9 h.r.DX h.Ii hx with e5 | ⟨z,K,aF,hz,e5⟩
  ·unfold ai at e5;simp only [go_sem,ya,ek,bT,au,t0,t11,nS,ji,jf,jg,zf,e1,e2,e3,en,e4,e5,yN,yS,yq]
  ·have kx:=GR hx;have kz:=GR hz;have e6:=aAH h.r hz;have e7:=agV h.r.toRp kx kz (by decide);have e8:=aAC h.r.toRn h.WC (kx.add kz) (by decide);have e9:=WB h.r.toRp h.Ig ka ((kx.add kz).mul WA) (by decide);have mid:=axb n1 hg hz aF;have hm:bV (a-(b7 false N+b7 false K)*ij).num<=0:=aad (by grind);unfold ai at e5 e6 e7 e8 e9;simp only [go_sem,ya,ek,bT,au,t0,t11,t15,nS,ji,jf,jg,zf,e1,e2,e3,en,e4,e5,e6,e7,e8,e9,hm,yN,yq]
def aqE (h:zo P L) {a c:Rat} (ka:Hq 160 a) (kc:Hq 160 c) {g:Bool} {K:Nat} (hz:Fl b g K) {tm:Env} (t0:aj tm 0= .str (RT a)) (t1:aj tm 1= .str (RT c)) (t7:aj tm 7= .str (RT (b7 g K))):
  db [.t 6] (D P L (bT 5 ek.body) ⟨tm,[],0,0⟩)=some (.bool true):=by
 obtain ⟨o,n1,w1⟩:=KJ h (ka.mono (show 160<=429 by decide));obtain ⟨p,n2,w2⟩:=KJ h (kc.mono (show 160<=429 by decide))
 cases o with
 | none=>
  have e1:ai P L 202 [.str (RT a)] (.aa [.aw .f32 0,ab 4]):=w1;unfold ai at e1
  cases p with
  | none=>
   have e2:ai P L 202 [.str (RT c)] (.aa [.aw .f32 0,ab 4]):=w2;unfold ai at e2;simp only [go_sem,ya,ek,bT,au,t0,t1,ji,jf,jg,zf,e1,e2,yS,vE,yq,yv]
  | some M=>
   obtain ⟨y,hy,e2⟩:=w2;unfold ai at e2;simp only [go_sem,ya,ek,bT,au,t0,t1,ji,jf,jg,zf,e1,e2,yS,vE,yq,yv]
 | some N=>
  obtain ⟨x,hx,e1⟩:=w1;unfold ai at e1
  cases p with
  | none=>
   have e2:ai P L 202 [.str (RT c)] (.aa [.aw .f32 0,ab 4]):=w2;unfold ai at e2;simp only [go_sem,ya,ek,bT,au,t0,t1,ji,jf,jg,zf,e1,e2,yN,yS,vE,yq,yv]
  | some M=>
   obtain ⟨y,hy,e2⟩:=w2;unfold ai at e2;have pre:∃bG,D P L (gH 2 (bT 5 ek.body)) ⟨tm,[],0,0⟩=some (.normal,⟨bG,[],0,0⟩)/\aj bG 0= .str (RT a)/\aj bG 1= .str (RT c)/\aj bG 7= .str (RT (b7 g K))/\aj bG 11= .aw .f32 x/\aj bG 13= .aw .f32 y:=by
    refine ⟨_,(by simp only [go_sem,ya,ek,gH,aW,au,bT,t0,t1,ji,jf,jg,zf,e1,e2,yN,yq]<;>rfl),?_,?_,?_,?_,?_⟩<;>simp only [go_sem,ya,t0,t1,t7]
   obtain ⟨bG,e3,u0,u1,u7,u11,u13⟩:=pre;obtain ⟨pz,e4,v0,v11,Cl⟩:=aqC h ka kc hz rfl n1 n2 hx hy u0 u1 u7 u11 u13
   rw [Gc 2 (c:=bT 5 ek.body) (by refine ⟨rfl,rfl,?_⟩;show _=_;rfl),e3,fa]
   rw [show bT 2 (bT 5 ek.body)=bT 8 ek.body from rfl]
   rw [Gc 3 (c:=bT 8 ek.body) (by refine ⟨rfl,rfl,rfl,?_⟩;show _=_;rfl),e4,fa]
   exact aqD h ka n1 hx v0 v11 Cl
def amL (h:zo P L) (hb:b<4294967296) (ls:s.length<9223372036854775808) (lt:t.length<9223372036854775808):ai P L 426 [.str s,.str t,.aw .f32 b] (.bool true):=by
 have ea:=h.ayJ;have e1:=agX (k:=40) h.r.toRm h.M4 (by decide) ls;have e2:=agX (k:=40) h.r.toRm h.M4 (by decide) lt;have e3:=M6 (P:=P) h.WE b;have Xs:((40:Nat):Int)=40:=rfl;rw [Xs] at e1 e2;unfold ai at ea e1 e2 e3;unfold ai;rw [aG h.aA4];rw [show ek.dj=[.t 6] from rfl]
 rw [Gc 1 (c:=ek.body) (by refine ⟨rfl,?_⟩;show _=_;rfl)]
 have bad:∀{tm:Env},D P L (gH 1 ek.body) ⟨dQ 0 [.str s,.str t,.aw .f32 b],[],0,0⟩=some (.ret,⟨tm,[],0,0⟩)->aj tm 6= .bool true->db [.t 6] (kF P L (D P L (gH 1 ek.body) ⟨dQ 0 [.str s,.str t,.aw .f32 b],[],0,0⟩) (bT 1 ek.body))=some (.bool true):=fun e t6=>by
  rw [e];simp only [go_sem,t6]
 cases f1:DW 40 s with
 | false=>
  rw [f1] at e1;exact bad (by simp only [go_sem,ya,gH,ek,aW,au,ea,e1,yN,yS]<;>rfl) (by simp only [go_sem])
 | true=>
  rw [f1] at e1
  cases f2:DW 40 t with
  | false=>
   rw [f2] at e2;exact bad (by simp only [go_sem,ya,gH,ek,aW,au,ea,e1,e2,yN,yS]<;>rfl) (by simp only [go_sem])
  | true=>
   rw [f2] at e2;rcases aw4 hb with ⟨g,K,hz⟩ | hn
   ·rw [hz.fin] at e3;obtain ⟨l1,c1,ka⟩:=aac f1;obtain ⟨l2,c2,kc⟩:=aac f2;have q1:=(J8 c1).1;have q2:=(J8 c2).1;have ju:∀{tm:Env},D P L (gH 1 ek.body) ⟨dQ 0 [.str s,.str t,.aw .f32 b],[],0,0⟩=some (.normal,⟨tm,[],0,0⟩)->aj tm 0= .str s->aj tm 1= .str t->aj tm 2= .aw .f32 b->db [.t 6] (kF P L (D P L (gH 1 ek.body) ⟨dQ 0 [.str s,.str t,.aw .f32 b],[],0,0⟩) (bT 1 ek.body))=some (.bool true):=fun e t0 t1 t2=>by
     obtain ⟨bG,e4,u0,u1,u7⟩:=aqB h hz t0 t1 t2
     rw [e,fa,Gc 3 (c:=bT 1 ek.body) (by refine ⟨rfl,rfl,rfl,?_⟩;show _=_;rfl),e4,fa]
     rw [q1] at u0;rw [q2] at u1;exact aqE h ka kc hz u0 u1 u7
    exact ju (by simp only [go_sem,ya,gH,ek,aW,au,nS,ea,e1,e2,e3,yN]<;>rfl) (by simp only [go_sem,ya]) (by simp only [go_sem,ya]) (by simp only [go_sem,ya])
   ·rw [hn] at e3;exact bad (by simp only [go_sem,ya,gH,ek,aW,au,nS,ea,e1,e2,e3,yN,yS]<;>rfl) (by simp only [go_sem])
end
end VE
end
section
namespace VE
open Go (IntKind)
abbrev Gf:List Ty:=[.str,.str,.aw .f32]
def alW {P:aM} {L:Lib} (h:zo P L) {ls:List (List AV)} (hs:Aa pP Gf ls):ai P L 426 (Hd Gf ls) (.bool true):=by
 obtain ⟨_,_,_,rfl,⟨s,rfl,h1,_⟩,⟨t,rfl,h2,_⟩,⟨b,rfl,hb⟩⟩:=axa hs;exact amL h (of_decide_eq_true hb) h1 h2
end VE
end
section
namespace VE
namespace J2
open Go Go.Proofs
def T:List (Tr ak):=[.n 179 [.o 7 [] (.bool true)] .l .l]
def L0:VE.Lib:=GQ (GQ (GQ VE.az 99 Kp) 231 Ak) 427 Ak
def L1:VE.Lib:=Lr L0 T 1000
def nu:Nu VE.prog VE.az:=by
 repeat' (first | rfl | constructor)
def lw:zo VE.prog L1:=by
 repeat' (first | rfl | constructor)
section
variable {W:yi} {m:Int} (hm:W.cell? ⟨3,0,none⟩=some (.int .i64 m)) (ht:Go.Lib.TabIs Tryz.prog W "internal/strconv.uint64pow10" .u64 Go.Lib.pow10Tab)
include hm ht
theorem linked:er ((J1.O W).nN L1):=by
 have hO:=J1.arh hm ht;have hs:=aof hO nu rfl rfl rfl ⟨rfl,rfl,rfl⟩ (fn:=Tryz.f117) (c:=Ai) Tryz.func117 rfl rfl trivial aqi;have hT:eE (J1.O W) T:=eE.cons (Tr.iV (jQ.one (oH.holds hO rfl rfl)) Tr.ig Tr.ig) eE.nil;have h1:=OR hO hs;have h2:=OR h1 (aes (O:=(J1.O W).nN _) (n:=231) (fun _ _=>CL Tryz.func49 rfl (by decide)) Tryz.aA1);have h3:=OR h2 (aes (O:=((J1.O W).nN _).nN _) (n:=427) (fun _ _=>CL Tryz.func7 rfl (by decide)) Tryz.aA2);exact abx h3 hT 1000
theorem law {ls:List (List AV)} (hs:Aa pP Gf ls):dS (J1.O W) 426 (Hd Gf ls) (.bool true):=by
 obtain ⟨k,hk⟩:=afh (alW lw hs);exact sound (linked hm ht) hk
end
end J2
end VE
end
