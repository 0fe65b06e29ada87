import Derived.Test.YtlkgmaenobiooaaGreatDoorTas
import Derived.Test.YtlkgmaenobiooaaGreatDoorTae
import Derived.Test.YtlkgmaenobiooaaGreatDoorTar
set_option linter.all false
set_option maxRecDepth 100000
open BitVec renaming ofInt→xI,ofNat→uh,toNat_ofNat→vh
open Bool renaming and_self→we,false_eq_true→yE,not_false→yH,not_true→yI
open Go renaming Code→wO,Func→ybo,World→yh
open Go.Fence renaming wide→yaA
open Int renaming ediv_emod_unique→uS,gcd→wq,gcd_comm→ybP,natAbs_ediv_of_dvd→vT,natCast_mul→xE,pow_zero→tX,reduceEq→tj
open List renaming append_assoc→xD,drop_zero→ye,length_append→yU,length_cons→yx,length_nil→yJ,map_append→xR,map_map→ybp,map_reverse→tG,nil_append→xZ
open Nat renaming add_zero→yW,beq→yu,ble→yG,ble_eq_true_of_le→yy,blt→yL,div_add_mod→xM,div_eq_of_lt→wj,div_le_self→wV,le_refl→yA,le_trans→yS,lt_of_le_of_lt→xL,lt_of_lt_of_le→yO,mod_eq_of_lt→yP,mod_le→ycd,mod_lt→xr,mul_add→xz,mul_le_mul_left→yT,mul_one→yj,mul_zero→xG,pow_le_pow_left→tf,pow_le_pow_right→xx,pow_pos→tU,pow_succ→xh,reduceAdd→yb,reduceEqDiff→ya,reduceLT→yr,reduceLeDiff→yi,reduceMul→xT,zero_add→yd
open Rat renaming den_divInt→ybk,divInt→xF,divInt_ofNat→yaP,lt_iff→yce,num_divInt→ybj,sub_eq_add_neg→wE
open UInt8 renaming toNat→xf
namespace VE
section
open Go (IntKind)
def bC:VC->VC
 | .seq a _=>a
 | c=>c
def avi {a b:Int} {x y:Nat} (ha:a.natAbs=x) (hb:b.natAbs=y) (h:decide (a<0)=decide (b<0)):cD (decide (a<0)) (x+y)=a+b:=by
 unfold cD
 grind
def agA {a b:Int} {m:Nat} (hm:m+b.natAbs=a.natAbs) (h:¬decide (a<0)=decide (b<0)):cD (decide (a<0)) m=a+b:=by
 unfold cD
 grind
def avj {a:Int}:cD (!decide (a<0)) a.natAbs= -a:=by
 unfold cD
 grind
def agB {a b:Int}:cD (decide (a<0) !=decide (b<0)) (a.natAbs*b.natAbs)=a*b:=by
 unfold cD
 grind
def kC {s:Int} {w:AV} {l:List Nat} (h:bO w l) (hp:Hp):result hp (.agg [ab s,w])=some (.agg [ab s,w]):=by
 rcases h with ⟨rfl,_⟩ | ⟨e,rfl⟩<;>rfl
def cJ {s:Int} {w:AV} {l:List Nat} (h:bO w l) (hp:Hp) (ct id:Nat) (x y:AV):gC hp ct id 0 2 [.int .i64 s,w] (some (.cells true true true 2 [x,y]))=some (.af [],bf hp id (.cells true true true 2 [.int .i64 s,w]),ct):=bP rfl h.one rfl h.pu
def cx.aK {s:Int} {w:AV} {z:Int} (h:cx s w z):∃l,bO w l:=by
 rcases h with ⟨rfl,_⟩ | ⟨e,l,rfl,_⟩
 ·exact ⟨[],od⟩
 ·exact ⟨l,ns e l⟩
def alL (hp:Hp) (sz:Nat) (ag:Bool):AV->Option AV
 | .ptr id o=>Tb sz ag o (aF hp id)
 | .cz cs=>hX sz ag cs
 | _=>none
def di (tm:Env) (hp:Hp) (ct base i sz:Nat) (ag:Bool):results1 ⟨tm,hp,ct,base⟩ (.cell i sz ag)=alL hp sz ag (ak tm i):=by
 rfl
def dj (hp:Hp) (sz:Nat) (ag:Bool) (id o:Nat):alL hp sz ag (.ptr id o)=Tb sz ag o (aF hp id):=rfl
section
variable {P:aJ} {L:Lib}
def E2 (h:Nu P L) {v:AV} {z:Int} (hv:cu v z):ai P L 146 [v] (ab (bG z)):=by
 obtain ⟨s,w,rfl,hn⟩:=hv;obtain ⟨l,hu⟩:=hn.aK;have e:bG s=bG z:=by
  obtain ⟨h1,h2,_⟩:=hn.bG;unfold bG;by_cases h0:z<0
  ·rw [yz h0,yz (h1.2 h0)]
  ·by_cases h3:z=0
   ·rw [yp (fun h=>h0 (h1.1 h)),yz (h2.2 h3),yp h0,yz h3]
   ·rw [yp (fun h=>h0 (h1.1 h)),yp (fun h=>h3 (h2.1 h)),yp h0,yp h3]
 unfold ai;rw [ax h.pY];simp only [go_sem,ya,yb,As,az,hu.pu,hu.one,aP,yd,V2,GO,Vg,Gb,akP,e]
def H6 (h:Nu P L) {v:AV} {z:Int} {K:Nat} (hv:cu v z) (hz:Bd K z) (hK:K<=90000000000):∃r,ai P L 147 [v] r/\cu r (-z):=by
 obtain ⟨s,w,rfl,hn⟩:=hv;obtain ⟨p,e1,hp⟩:=AL h hn;obtain ⟨lp,iQ,_⟩:=hp.aK;obtain ⟨r,e2,hr⟩:=E1 h (!decide (z<0)) hp (yO hz (Cf K)) hK;rw [avj] at hr;have cM:=hr;obtain ⟨s',w',rfl,mU⟩:=hr;obtain ⟨l',jr⟩:=mU.aK;rcases hn with ⟨rfl,rfl,h1,h2⟩ | ⟨e,l0,rfl,g,n,hb,hs,h1⟩
 ·by_cases h0:s= -9223372036854775808
  ·refine ⟨_,?_,cM⟩;unfold ai;rw [ax h.sM];simp only [go_sem,ya,yb,sF,az,aP,yd,bj,gX,cY,h0];rw [h0] at e1 e2;simp only [go_sem,ya,bL,aU,e1,e2,iQ.ao,bq,di,dj,bL,ye,kC jr,cJ jr]
  ·refine ⟨.agg [ab (-s),.aa],?_,cx.pq (by omega) (by omega)⟩;unfold ai;rw [ax h.sM]
   simp only [go_sem,ya,yb,sF,az,aP,yd,bj,gX,cY,h0,wrap64 (n:=0-s) (by omega) (by omega),jy,sj];rw [Int.zero_sub];rfl
 ·refine ⟨_,?_,cM⟩;unfold ai;rw [ax h.sM];simp only [go_sem,ya,yb,sF,az,aP,yd,bj,ox,cY,bL,aU,e1,e2,iQ.ao,bq,di,dj,bL,ye,kC jr,cJ jr]
def ant (h:Nu P L) {v:AV} {z:Int} {K:Nat} (hv:cu v z) (hz:Bd K z) (hK:K<=90000000000):∃r,ai P L 163 [v] r/\cu r (z.natAbs:Nat):=by
 have eK:=hv;obtain ⟨s,w,rfl,hn⟩:=hv;obtain ⟨l,hu⟩:=hn.aK;have IN:=hn.bG.1;by_cases h0:z<0
 ·obtain ⟨r,e1,hr⟩:=H6 h eK hz hK;rw [show -z=(z.natAbs:Int) by omega] at hr;have cM:=hr;obtain ⟨s',w',rfl,mU⟩:=hr;obtain ⟨l',jr⟩:=mU.aK;refine ⟨_,?_,cM⟩;unfold ai;rw [ax h.EV];simp only [go_sem,ya,yb,At,az,hu.pu,hu.ao,hu.one,aP,yd,IN.2 h0,bL,aU,e1,bq,di,dj,bL,ye,kC jr,cJ jr]
 ·rw [show ((z.natAbs:Nat):Int)=z by omega];refine ⟨_,?_,eK⟩;unfold ai;rw [ax h.EV];simp only [go_sem,ya,yb,At,az,hu.pu,hu.one,aP,yd,show ¬s<0 from fun h=>h0 (IN.1 h),bL,di,dj,bL,ye,kC hu,cJ hu]
def aA6 (h:Nu P L) {s1 s2:Int} {w1 w2:AV} {a b:Int} {K:Nat} (ha:cx s1 w1 a) (hb:cx s2 w2 b) (ka:Bd K a) (kb:Bd K b) (hK:K<=40000000000):
  ∃r,cu r (a+b)/\∀tm,ak tm 2= .ptr 0 0->ak tm 3= .ptr 1 0->ak tm 4= .ptr 2 0->fV [.cell 4 2 true] (D P L (aD (aD c119.body)) ⟨tm,[(2,.cells true true true 2 [.int .i64 0,.aa]),(1,.cells true true true 2 [ab s2,w2]),(0,.cells true true true 2 [ab s1,w1])],3,0⟩)=some r:=by
 obtain ⟨l1,u1⟩:=ha.aK;obtain ⟨l2,u2⟩:=hb.aK;obtain ⟨p,e1,hp⟩:=AL h ha;obtain ⟨q,e2,hq⟩:=AL h hb;obtain ⟨lp,iQ,gp,np,vp⟩:=hp.aK;obtain ⟨lq,oZ,gq,nq,vq⟩:=hq.aK;have gT:=yO ka (Cf K);have iF:=yO kb (Cf K);have llp:lp.length<=40000000000:=yS (oK np vp gT) hK;have llq:lq.length<=40000000000:=yS (oK nq vq iF) hK;by_cases hs:decide (a<0)=decide (b<0)
 ·obtain ⟨o,nY,e3,ho,nX,no,vo⟩:=aDR h.aD1 h.mN h.gO iQ oZ gp gq (by omega) (by omega);obtain ⟨r,e4,hr⟩:=E1 h (decide (a<0)) ⟨nY,ho,nX,no,vo⟩ (K:=K+1) (by rw [vp,vq,xh];omega) (by omega);rw [avi vp.symm vq.symm hs] at hr;have cM:=hr;obtain ⟨s',w',rfl,mU⟩:=hr;obtain ⟨l',jr⟩:=mU.aK;refine ⟨_,cM,fun tm t2 t3 t4=>?_⟩;simp only [go_sem,ya,c119,aD,t2,t3,bL,aU,u1.ao,u2.ao,e1,e2,iQ.ao,oZ.ao,cY,pR,hs,tQ];rw [hs] at e4;simp only [go_sem,ya,t4,e3,ho.ao,ho.shut,e4,bq,di,dj,bL,ye,kC jr,cJ jr]
 ·have NN:(decide (a<0)==decide (b<0))=false:=by simpa using hs
  have e3:=anc h.ano iQ oZ gp gq np nq (by omega) (by omega);rw [vp,vq] at e3;by_cases hc:b.natAbs<=a.natAbs
  ·obtain ⟨o,nY,e4,ho,nX,no,vo⟩:=ane h.anp h.mN h.sN iQ oZ gp gq nq (by omega) (by rw [vp,vq];exact hc)
   rw [vp,vq] at vo;obtain ⟨r,e5,hr⟩:=E1 h (decide (a<0)) ⟨nY,ho,nX,no,rfl⟩ (K:=K) (by omega) (by omega);rw [agA vo hs] at hr;have cM:=hr;obtain ⟨s',w',rfl,mU⟩:=hr;obtain ⟨l',jr⟩:=mU.aK;have eN:(0:Int)<=ef a.natAbs b.natAbs:=by unfold ef;rw [yp (by omega)];split<;>decide
   refine ⟨_,cM,fun tm t2 t3 t4=>?_⟩;simp only [go_sem,ya,c119,aD,t2,t3,t4,bL,aU,u1.ao,u2.ao,e1,e2,iQ.ao,oZ.ao,cY,pR,NN,e3,eN,e4,ho.ao,ho.shut,e5,bq,di,dj,bL,ye,kC jr,cJ jr]
  ·obtain ⟨o,nY,e4,ho,nX,no,vo⟩:=ane h.anp h.mN h.sN oZ iQ gq gp np (by omega) (by rw [vp,vq];omega);rw [vp,vq] at vo;obtain ⟨r,e5,hr⟩:=E1 h (decide (b<0)) ⟨nY,ho,nX,no,rfl⟩ (K:=K) (by omega) (by omega);rw [agA vo (fun e=>hs e.symm),Int.add_comm] at hr;have cM:=hr;obtain ⟨s',w',rfl,mU⟩:=hr;obtain ⟨l',jr⟩:=mU.aK;have eN:¬(0:Int)<=ef a.natAbs b.natAbs:=by unfold ef;rw [yz (by omega)];decide
   refine ⟨_,cM,fun tm t2 t3 t4=>?_⟩;simp only [go_sem,ya,c119,aD,t2,t3,t4,bL,aU,u1.ao,u2.ao,e1,e2,iQ.ao,oZ.ao,cY,pR,NN,e3,eN,e4,ho.ao,ho.shut,e5,bq,di,dj,bL,ye,kC jr,cJ jr]
def E3 (h:Nu P L) {v w:AV} {a b:Int} {K:Nat} (hv:cu v a) (hw:cu w b) (ka:Bd K a) (kb:Bd K b) (hK:K<=40000000000):∃r,ai P L 119 [v,w] r/\cu r (a+b):=by
 obtain ⟨s1,w1,rfl,h1⟩:=hv;obtain ⟨s2,w2,rfl,h2⟩:=hw;obtain ⟨l2,u2⟩:=h2.aK;obtain ⟨r,hr,tail⟩:=aA6 h h1 h2 ka kb hK;have fin:∀tm,ak tm 2= .ptr 0 0->ak tm 3= .ptr 1 0->ak tm 4= .ptr 2 0->
   D P L (.seq (bC c119.body) (bC (aD c119.body))) ⟨[(0,.agg [ab s1,w1]),(1,.agg [ab s2,w2])],[],0,0⟩=some (.normal,⟨tm,[(2,.cells true true true 2 [.int .i64 0,.aa]),(1,.cells true true true 2 [ab s2,w2]),(0,.cells true true true 2 [ab s1,w1])],3,0⟩)->ai P L 119 [.agg [ab s1,w1],.agg [ab s2,w2]] r:=fun tm t2 t3 t4 e=>by
  unfold ai;rw [ax h.ans];show fV [.cell 4 2 true] (D P L (.seq (bC c119.body) (.seq (bC (aD c119.body)) (aD (aD c119.body)))) ⟨[(0,.agg [ab s1,w1]),(1,.agg [ab s2,w2])],[],0,0⟩)=_
  have e2:D P L (.seq (bC c119.body) (.seq (bC (aD c119.body)) (aD (aD c119.body)))) ⟨[(0,.agg [ab s1,w1]),(1,.agg [ab s2,w2])],[],0,0⟩=nF P L (D P L (.seq (bC c119.body) (bC (aD c119.body))) ⟨[(0,.agg [ab s1,w1]),(1,.agg [ab s2,w2])],[],0,0⟩) (aD (aD c119.body)):=by
   rw [kA,kA]
   cases D P L (bC c119.body) ⟨[(0,.agg [ab s1,w1]),(1,.agg [ab s2,w2])],[],0,0⟩ with
   | none=>rfl
   | some q=>
    obtain ⟨ex,st⟩:=q
    cases ex with
    | normal=>rw [fY,fY,kA]
    | ret=>rfl
    | exit id=>rfl
  rw [e2,e,fY];exact tail tm t2 t3 t4
 rcases h1 with ⟨rfl,rfl,a1,a2⟩ | ⟨e,l,rfl,ga,na,va,sa,a1⟩
 ·rcases h2 with ⟨rfl,rfl,b1,b2⟩ | ⟨e,l,rfl,gb,nb,vb,sb,b1⟩
  ·by_cases iD: -9223372036854775808<=s1+s2/\s1+s2<9223372036854775808
   ·refine ⟨.agg [ab (s1+s2),.aa],?_,cx.pq iD.1 iD.2⟩;have e:decide (s1<s1+s2)=decide (0<s2):=by
     by_cases h:0<s2
     ·simp only [h,ym];exact yD (by omega)
     ·simp only [h,yk];exact yC (by omega)
    unfold ai;rw [ax h.ans]
    simp only [go_sem,ya,yb,c119,az,jy,gX,cY,pR,aP,yd,bj,wrap64 (n:=s1+s2) iD.1 iD.2,e,tQ,sj];rfl
   ·have e:(decide (s1<IntKind.wrap .i64 (s1+s2))==decide (0<s2))=false:=by
     have hw:(9223372036854775808<=s1+s2/\IntKind.wrap .i64 (s1+s2)=s1+s2-18446744073709551616)\/(s1+s2< -9223372036854775808/\IntKind.wrap .i64 (s1+s2)=s1+s2+18446744073709551616):=by
      simp only [IntKind.wrap,IntKind.bits,IntKind.signed,Bool.true_and]
      split<;>rename_i h<;>simp at h<;>omega
     by_cases h0:0<s2
     ·rw [yD h0,yC (by omega)];rfl
     ·rw [yC h0,yD (by omega)];rfl
    refine ⟨r,fin _ ?_ ?_ ?_ (by simp only [go_sem,ya,yb,bC,aD,c119,az,gX,cY,pR,aP,yd,bj,e]<;>rfl),hr⟩<;>simp only [go_sem,ya]
  ·refine ⟨r,fin _ ?_ ?_ ?_ (by simp only [go_sem,ya,yb,bC,aD,c119,az,gX,ox,cY,aP,yd,bj]<;>rfl),hr⟩<;>simp only [go_sem,ya]
 ·refine ⟨r,fin _ ?_ ?_ ?_ (by simp only [go_sem,ya,yb,bC,aD,c119,az,u2.pu,u2.one,ox,cY,aP,yd,bj]<;>rfl),hr⟩<;>simp only [go_sem,ya]
end
end
section
open Go (IntKind)
def DS {P:aJ} {L:Lib} (a b c:VC) (s:St):D P L (.seq a (.seq b c)) s=nF P L (D P L (.seq a b) s) c:=by
 rw [kA,kA]
 cases D P L a s with
 | none=>rfl
 | some q=>
  obtain ⟨ex,st⟩:=q
  cases ex with
  | normal=>rw [fY,fY,kA]
  | ret=>rfl
  | exit id=>rfl
def akY {s s':Int} {w w':AV} {l l':List Nat} (h:bO w l) (h':bO w' l') (hp:Hp):result hp (.af [.agg [ab s,w],.agg [ab s',w']])=some (.af [.agg [ab s,w],.agg [ab s',w']]):=by
 rcases h with ⟨rfl,_⟩ | ⟨e,rfl⟩<;>rcases h' with ⟨rfl,_⟩ | ⟨e',rfl⟩<;>rfl
def Se (tm:Env) (hp:Hp) (ct:Nat) (rs:List (Nat×Bool×Nat)) (sz:Nat) (p:AV) (new:List AV):gP:=match p with | .ptr id o=>bif pG tm id rs then gC hp ct id o sz new (aF hp id) else none | _=>none
def Sf (id:Nat):AV->Bool | .ptr j _=> !yu j id | .cz _=>true | _=>false
def V7 {P:aJ} {L:Lib} (f:cN) (tm:Env) (hp:Hp) (ct:Nat) (rs:List (Nat×Bool×Nat)) (sz:Nat) (x v:X):bn P L f tm hp ct (.jT rs sz x v)=Se tm hp ct rs sz (aG tm x) (cellsOf (aG tm v)):=by
 simp only [bn,Se]
 cases hx:aG tm x with
 | ptr id o=>
  rw [ags,hx,alB]
 | _=>rfl
def V8 {tm:Env} {hp:Hp} {ct:Nat} {rs:List (Nat×Bool×Nat)} {sz id o:Nat} {new:List AV} (h:pG tm id rs=true):Se tm hp ct rs sz (.ptr id o) new=gC hp ct id o sz new (aF hp id):=by
 simp only [Se,h,yB]
def VG (tm:Env) (id:Nat):pG tm id []=true:=(rfl)
def Vk (tm:Env) (id sz x:Nat) (ag:Bool) (r:List (Nat×Bool×Nat)):pG tm id ((sz,ag,x)::r)=(Sf id (ak tm x)&&pG tm id r):=by
 simp only [pG,Sf]
 grind
def V9 {id j o:Nat} (h:j≠id):Sf id (.ptr j o)=true:=by simp only [Sf,ig h,yH]
section
variable {P:aJ} {L:Lib}
def anu (h:Nu P L) {v w:AV} {a b:Int} {K:Nat} (hv:cu v a) (hw:cu w b) (ka:Bd K a) (kb:Bd K b) (hK:K<=40000000000):∃r,ai P L 156 [v,w] r/\cu r (a-b):=by
 obtain ⟨n,e1,hn⟩:=H6 h hw kb (by omega);obtain ⟨r,e2,hr⟩:=E3 h hv hn ka kb.neg hK;have cM:=hr;obtain ⟨s1,w1,rfl,h1⟩:=hv;obtain ⟨s2,w2,rfl,h2⟩:=hw;obtain ⟨s3,w3,rfl,h3⟩:=hn;obtain ⟨s4,w4,rfl,h4⟩:=hr;obtain ⟨l1,u1⟩:=h1.aK;obtain ⟨l2,u2⟩:=h2.aK;obtain ⟨l3,u3⟩:=h3.aK;obtain ⟨l4,u4⟩:=h4.aK;refine ⟨_,?_,cM⟩;unfold ai;rw [ax h.aEc];simp only [go_sem,ya,yb,W5,az,u1.pu,u1.ao,u1.one,u2.pu,u2.ao,u2.one,u3.ao,aU,e1,e2,bq,di,dj,bL,ye,kC u4,cJ u4]
def MI (h:Nu P L) {v w:AV} {a b:Int} {K:Nat} (hv:cu v a) (hw:cu w b) (ka:Bd K a) (kb:Bd K b) (hK:K<=40000000000):ai P L 118 [v,w] (ab (bG (a-b))):=by
 obtain ⟨d,e1,hd⟩:=anu h hv hw ka kb hK;have e2:=E2 h hd;obtain ⟨s1,w1,rfl,h1⟩:=hv;obtain ⟨s2,w2,rfl,h2⟩:=hw;obtain ⟨s3,w3,rfl,h3⟩:=hd;obtain ⟨l2,u2⟩:=h2.aK;obtain ⟨l3,u3⟩:=h3.aK;unfold ai;rw [ax h.aEb];rcases h1 with ⟨rfl,rfl,a1,a2⟩ | ⟨e,l,rfl,ga,na,va,sa,a1⟩
 ·rcases h2 with ⟨rfl,rfl,b1,b2⟩ | ⟨e,l,rfl,gb,nb,vb,sb,b1⟩
  ·by_cases c1:s1<s2
   ·rw [show bG (s1-s2)= -1 by unfold bG;rw [yz (by omega)]];simp only [go_sem,ya,yb,EB,az,gX,cY,aP,yd,bj,c1]
   ·by_cases c2:s2<s1
    ·rw [show bG (s1-s2)=1 by unfold bG;rw [yp (by omega),yp (by omega)]];simp only [go_sem,ya,yb,EB,az,gX,cY,aP,yd,bj,c1,c2]
    ·rw [show bG (s1-s2)=0 by unfold bG;rw [yp (by omega),yz (by omega)]];simp only [go_sem,ya,yb,EB,az,gX,cY,aP,yd,bj,c1,c2]
  ·simp only [go_sem,ya,yb,EB,az,gX,ox,cY,aP,yd,bj,bL,aU,e1,e2,u3.ao,bq]
 ·simp only [go_sem,ya,yb,EB,az,u2.pu,u2.ao,u2.one,ox,cY,aP,yd,bj,bL,aU,e1,e2,u3.ao,bq]
def aA7 (h:Nu P L) {s1 s2:Int} {w1 w2:AV} {a b:Int} {K:Nat} (ha:cx s1 w1 a) (hb:cx s2 w2 b) (ka:Bd K a) (kb:Bd K b) (hK:K<=40000000000):
  ∃r,cu r (a*b)/\∀tm,ak tm 2= .ptr 0 0->ak tm 3= .ptr 1 0->ak tm 4= .ptr 2 0->fV [.cell 4 2 true] (D P L (aD (aD mK.body)) ⟨tm,[(2,.cells true true true 2 [.int .i64 0,.aa]),(1,.cells true true true 2 [ab s2,w2]),(0,.cells true true true 2 [ab s1,w1])],3,0⟩)=some r:=by
 obtain ⟨l1,u1⟩:=ha.aK;obtain ⟨l2,u2⟩:=hb.aK;obtain ⟨p,e1,hp⟩:=AL h ha;obtain ⟨q,e2,hq⟩:=AL h hb;obtain ⟨lp,iQ,gp,np,vp⟩:=hp.aK;obtain ⟨lq,oZ,gq,nq,vq⟩:=hq.aK;have gT:=yO ka (Cf K);have iF:=yO kb (Cf K);have llp:lp.length<=40000000000:=yS (oK np vp gT) hK;have llq:lq.length<=40000000000:=yS (oK nq vq iF) hK;obtain ⟨o,nY,e3,ho,nX,no,vo⟩:=aDU h.aD2 h.mN h.mO h.gO iQ oZ gp gq (by omega) (by omega);obtain ⟨r,e4,hr⟩:=E1 h (decide (a<0) !=decide (b<0)) ⟨nY,ho,nX,no,vo⟩ (K:=K+K) (by rw [vp,vq,Nat.pow_add];exact Nat.mul_lt_mul'' gT iF) (by omega)
 rw [vp,vq,agB] at hr;have cM:=hr;obtain ⟨s',w',rfl,mU⟩:=hr;obtain ⟨l',jr⟩:=mU.aK;refine ⟨_,cM,fun tm t2 t3 t4=>?_⟩;have zd:∀x y:Bool,Mz true (some (x==y))=some (.bool (x !=y)):=fun x y=>by cases x<;>cases y<;>rfl
 simp only [go_sem,ya,mK,aD,t2,t3,t4,bL,aU,u1.ao,u2.ao,e1,e2,iQ.ao,oZ.ao,pR,zd,e3,ho.ao,ho.shut,e4,bq,di,dj,bL,ye,kC jr,cJ jr]
def avk {a b:Int} {m:Nat} (h:a.natAbs*b.natAbs=m):a*b=if (decide (a<0)==decide (b<0))=true then (m:Int) else 0-(m:Int):=by
 have:=agB (a:=a) (b:=b)
 rw [h] at this;unfold cD at this
 cases hd:(decide (a<0)==decide (b<0)) with
 | true=>simp only [bne,hd,yI,yE,y9] at this;exact this.symm
 | false=>simp only [bne,hd,yH,xm] at this;rw [yp (by decide)];omega
def oL (h:Nu P L) {v w:AV} {a b:Int} {K:Nat} (hv:cu v a) (hw:cu w b) (ka:Bd K a) (kb:Bd K b) (hK:K<=40000000000):∃r,ai P L 100 [v,w] r/\cu r (a*b):=by
 obtain ⟨s1,w1,rfl,h1⟩:=hv;obtain ⟨s2,w2,rfl,h2⟩:=hw;obtain ⟨l1,u1⟩:=h1.aK;obtain ⟨l2,u2⟩:=h2.aK;obtain ⟨r,hr,tail⟩:=aA7 h h1 h2 ka kb hK;have fin:∀tm,ak tm 2= .ptr 0 0->ak tm 3= .ptr 1 0->ak tm 4= .ptr 2 0->
   D P L (.seq (bC mK.body) (bC (aD mK.body))) ⟨[(0,.agg [ab s1,w1]),(1,.agg [ab s2,w2])],[],0,0⟩=some (.normal,⟨tm,[(2,.cells true true true 2 [.int .i64 0,.aa]),(1,.cells true true true 2 [ab s2,w2]),(0,.cells true true true 2 [ab s1,w1])],3,0⟩)->ai P L 100 [.agg [ab s1,w1],.agg [ab s2,w2]] r:=fun tm t2 t3 t4 e=>by
  unfold ai;rw [ax h.Sd];show fV [.cell 4 2 true] (D P L (.seq (bC mK.body) (.seq (bC (aD mK.body)) (aD (aD mK.body)))) ⟨[(0,.agg [ab s1,w1]),(1,.agg [ab s2,w2])],[],0,0⟩)=_
  rw [DS,e,fY];exact tail tm t2 t3 t4
 rcases h1 with ⟨rfl,rfl,a1,a2⟩ | ⟨e,l,rfl,ga,na,va,sa,a1⟩
 ·rcases h2 with ⟨rfl,rfl,b1,b2⟩ | ⟨e,l,rfl,gb,nb,vb,sb,b1⟩
  ·have f1:=abu h a1 a2;have f2:=abu h b1 b2;have f3:=PA (P:=P) (f:=D P L) h.mO (x:=s1.natAbs) (y:=s2.natAbs) (by omega) (by omega);obtain ⟨m,hm⟩:∃m,s1.natAbs*s2.natAbs=m:=⟨_,rfl⟩;rw [hm] at f3;have oQ:=avk hm;by_cases iD:m<=9223372036854775807
   ·rw [wj (by omega),yP (by omega)] at f3;rw [show (uc 0)=AV.int .u64 0 from rfl] at f3;by_cases hs:(decide (s1<0)==decide (s2<0))=true
    ·rw [yz hs] at oQ;refine ⟨.agg [ab (m:Int),.aa],?_,by rw [oQ];exact cx.pq (by omega) (by omega)⟩
     unfold ai;rw [ax h.Sd]
     simp only [go_sem,ya,yb,mK,az,jy,gX,cY,Li,pR,aP,yd,bj,f1,f2,f3,show (m:Int)<=9223372036854775807 by omega,hs,Pz,wrap64 (n:=(m:Int)) (by omega) (by omega),sj];rfl
    ·rw [yp hs] at oQ;refine ⟨.agg [ab (0-(m:Int)),.aa],?_,by rw [oQ];exact cx.pq (by omega) (by omega)⟩
     unfold ai;rw [ax h.Sd]
     simp only [go_sem,ya,yb,mK,az,jy,gX,cY,Li,pR,aP,yd,bj,f1,f2,f3,show (m:Int)<=9223372036854775807 by omega,hs,Pz,wrap64 (n:=(m:Int)) (by omega) (by omega),wrap64 (n:=0-(m:Int)) (by omega) (by omega),sj];rfl
   ·by_cases zB:m/18446744073709551616=0
    ·rw [zB,yP (by omega)] at f3;rw [show (uc 0)=AV.int .u64 0 from rfl] at f3;refine ⟨r,fin _ ?_ ?_ ?_ (by simp only [go_sem,ya,yb,bC,aD,mK,az,gX,cY,aP,yd,bj,f1,f2,f3,show ¬(m:Int)<=9223372036854775807 by omega]<;>rfl),hr⟩<;>simp only [go_sem,ya]
    ·obtain ⟨q,hq⟩:∃q,q=m/18446744073709551616:=⟨_,rfl⟩;rw [<-hq] at f3 zB;refine ⟨r,fin _ ?_ ?_ ?_ (by simp only [go_sem,ya,yb,bC,aD,mK,az,gX,cY,aP,yd,bj,f1,f2,f3,show ¬(q:Int)=0 by omega]<;>rfl),hr⟩<;>simp only [go_sem,ya]
  ·refine ⟨r,fin _ ?_ ?_ ?_ (by simp only [go_sem,ya,yb,bC,aD,mK,az,gX,ox,cY,aP,yd,bj]<;>rfl),hr⟩<;>simp only [go_sem,ya]
 ·refine ⟨r,fin _ ?_ ?_ ?_ (by simp only [go_sem,ya,yb,bC,aD,mK,az,u2.pu,u2.one,ox,cY,aP,yd,bj]<;>rfl),hr⟩<;>simp only [go_sem,ya]
end
end
section
open Go (IntKind)
def atf {a b:Int} {q r:Nat} (hb:0<b) (h:q=a.natAbs/b.natAbs) (h2:r=a.natAbs%b.natAbs):
  (cD (decide (a<0)) r<0->a/b=cD (decide (a<0)) q-1/\a%b=cD (decide (a<0)) r+b)/\(¬cD (decide (a<0)) r<0->a/b=cD (decide (a<0)) q/\a%b=cD (decide (a<0)) r):=by
 have fK:=xM a.natAbs b.natAbs;have aZ:r<b.natAbs:=by rw [h2];exact xr _ (by omega)
 unfold cD;by_cases h0:a<0
 ·simp only [h0,ym,xm];constructor
  ·intro h3;refine (uS hb).2 ⟨?_,by omega,by omega⟩
   grind
  ·intro h3;refine (uS hb).2 ⟨?_,by omega,by omega⟩
   grind
 ·grind
section
variable {P:aJ} {L:Lib}
def aA8 (h:Nu P L) {s1 s2:Int} {w1 w2:AV} {a b:Int} {K:Nat} (ha:cx s1 w1 a) (hb:cx s2 w2 b) (ej:0<b) (ka:Bd K a) (kb:Bd K b) (hK:K<=30000000000):
  ∃q r,cu q (a/b)/\cu r (a%b)/\∀tm,ak tm 2= .ptr 0 0->ak tm 3= .ptr 1 0->ak tm 4= .ptr 2 0->ak tm 5= .ptr 3 0->fV [.cell 4 2 true,.cell 5 2 true] (D P L (aD (aD iJ.body)) ⟨tm,[(3,.cells true true true 2 [.int .i64 0,.aa]),(2,.cells true true true 2 [.int .i64 0,.aa]),(1,.cells true true true 2 [ab s2,w2]),(0,.cells true true true 2 [ab s1,w1])],4,0⟩)=some (.af [q,r]):=by
 obtain ⟨l1,u1⟩:=ha.aK;obtain ⟨l2,u2⟩:=hb.aK;obtain ⟨p,e1,hp⟩:=AL h ha;obtain ⟨q,e2,hq⟩:=AL h hb;have da:cu (.agg [ab s2,w2]) b:=⟨s2,w2,rfl,hb⟩;obtain ⟨lp,iQ,_⟩:=hp.aK;obtain ⟨lq,oZ,_⟩:=hq.aK;have gT:=yO ka (Cf K);have iF:=yO kb (Cf K);obtain ⟨dq,dr,e3,FF,iE⟩:=anq h.toWd hp hq (by omega) gT iF (by omega);obtain ⟨NO,uq,_⟩:=FF.aK;obtain ⟨lr1,ur,_⟩:=iE.aK;have hqk:a.natAbs/b.natAbs<18446744073709551616^K:=xL (wV _ _) gT;have hrk:a.natAbs%b.natAbs<18446744073709551616^K:=xL (ycd _ _) gT;have hqb:a.natAbs/b.natAbs<2^K:=xL (wV _ _) ka;have hrb:a.natAbs%b.natAbs<2^K:=xL (ycd _ _) ka;obtain ⟨f1,f2⟩:=atf (a:=a) ej rfl rfl;generalize a.natAbs/b.natAbs=Q at*
 generalize a.natAbs%b.natAbs=R at*
 obtain ⟨vq,e4,hvq⟩:=E1 h (decide (a<0)) FF hqk (by omega);obtain ⟨vr,e5,NA⟩:=E1 h (decide (a<0)) iE hrk (by omega);have hsq:Bd K (cD (decide (a<0)) Q):=by unfold Bd cD;split<;>omega
 have hsr:Bd K (cD (decide (a<0)) R):=by unfold Bd cD;split<;>omega
 generalize cD (decide (a<0)) R=Rs at*
 have e6:=E2 h NA;have anv:=hvq;have anw:=NA;obtain ⟨s3,w3,rfl,h3⟩:=hvq;obtain ⟨s4,w4,rfl,h4⟩:=NA;obtain ⟨l3,u3⟩:=h3.aK;obtain ⟨l4,u4⟩:=h4.aK;by_cases h0:Rs<0
 ·obtain ⟨g1,g2⟩:=f1 h0;have kQ:Bd (K+1) 1:=Bd.mono (k:=1) (by unfold Bd;decide) (by omega)
  obtain ⟨o1,o2⟩:=rH h (z:=1) (by decide) (by decide);obtain ⟨vq2,e7,abv⟩:=anu h anv o2 (K:=K+1) (hsq.mono (by omega)) kQ (by omega);obtain ⟨vr2,e8,abw⟩:=E3 h anw da (K:=K+1) (hsr.mono (by omega)) (kb.mono (by omega)) (by omega);rw [<-g1] at abv;rw [<-g2] at abw;have nS:bG Rs<0:=by unfold bG;rw [yz h0];decide
  have k1:=abv;have k2:=abw;obtain ⟨s5,w5,rfl,h5⟩:=abv;obtain ⟨s6,w6,rfl,h6⟩:=abw;obtain ⟨l5,u5⟩:=h5.aK;obtain ⟨l6,u6⟩:=h6.aK;refine ⟨_,_,k1,k2,fun tm t2 t3 t4 t5=>?_⟩;simp only [go_sem,ya,yb,iJ,aD,t2,t3,t4,t5,V7,V8,VG,Vk,V9,we,az,bL,aU,u1.ao,u2.ao,e1,e2,iQ.ao,oZ.ao,e3,uq.ao,uq.b6,ur.ao,ur.b6,e4,e5,bq,di,dj,bL,ye,cJ u3,cJ u4,u3.ao,u4.ao,e6,nS,o1,e7,e8,di,dj,bL,ye,cJ u5,cJ u6,akY u5 u6]
 ·obtain ⟨g1,g2⟩:=f2 h0;have nS:¬bG Rs<0:=by unfold bG;rw [yp h0];split<;>decide
  refine ⟨_,_,by rw [g1];exact anv,by rw [g2];exact anw,fun tm t2 t3 t4 t5=>?_⟩
  simp only [go_sem,ya,yb,iJ,aD,t2,t3,t4,t5,V7,V8,VG,Vk,V9,we,az,bL,aU,u1.ao,u2.ao,e1,e2,iQ.ao,oZ.ao,e3,uq.ao,uq.b6,ur.ao,ur.b6,e4,e5,bq,di,dj,bL,ye,cJ u3,cJ u4,u4.ao,e6,nS,akY u3 u4]
def MJ (h:Nu P L) {v w:AV} {a b:Int} {K:Nat} (hv:cu v a) (hw:cu w b) (ej:0<b) (ka:Bd K a) (kb:Bd K b) (hK:K<=30000000000):∃q r,ai P L 164 [v,w] (.af [q,r])/\cu q (a/b)/\cu r (a%b):=by
 obtain ⟨s1,w1,rfl,h1⟩:=hv;obtain ⟨s2,w2,rfl,h2⟩:=hw;obtain ⟨l1,u1⟩:=h1.aK;obtain ⟨l2,u2⟩:=h2.aK;obtain ⟨q,r,hq,hr,tail⟩:=aA8 h h1 h2 ej ka kb hK;have fin:∀tm,ak tm 2= .ptr 0 0->ak tm 3= .ptr 1 0->ak tm 4= .ptr 2 0->ak tm 5= .ptr 3 0->
   D P L (.seq (bC iJ.body) (bC (aD iJ.body))) ⟨[(0,.agg [ab s1,w1]),(1,.agg [ab s2,w2])],[],0,0⟩=some (.normal,⟨tm,[(3,.cells true true true 2 [.int .i64 0,.aa]),(2,.cells true true true 2 [.int .i64 0,.aa]),(1,.cells true true true 2 [ab s2,w2]),(0,.cells true true true 2 [ab s1,w1])],4,0⟩)->ai P L 164 [.agg [ab s1,w1],.agg [ab s2,w2]] (.af [q,r]):=fun tm t2 t3 t4 t5 e=>by
  unfold ai;rw [ax h.oH];show fV [.cell 4 2 true,.cell 5 2 true] (D P L (.seq (bC iJ.body) (.seq (bC (aD iJ.body)) (aD (aD iJ.body)))) ⟨[(0,.agg [ab s1,w1]),(1,.agg [ab s2,w2])],[],0,0⟩)=_
  rw [DS,e,fY];exact tail tm t2 t3 t4 t5
 rcases h1 with ⟨rfl,rfl,a1,a2⟩ | ⟨e,l,rfl,ga,na,va,sa,a1⟩
 ·rcases h2 with ⟨rfl,rfl,b1,b2⟩ | ⟨e,l,rfl,gb,nb,vb,sb,b1⟩
  ·by_cases hm:s1= -9223372036854775808
   ·refine ⟨q,r,fin _ ?_ ?_ ?_ ?_ (by simp only [go_sem,ya,yb,bC,aD,iJ,az,gX,cY,aP,yd,bj,hm]<;>rfl),hq,hr⟩<;>simp only [go_sem,ya]
   ·obtain ⟨f1,f2⟩:=afG (a:=s1) ej;have cm:s1.tdiv s2=0\/(s1.tdiv s2).natAbs<=s1.natAbs:= .inr (Int.natAbs_tdiv_le_natAbs s1 s2);have eJ:=Int.tmod_lt_of_pos s1 ej;have lH:=Int.lt_tmod_of_pos s1 ej;by_cases h0:s1.tmod s2<0
    ·obtain ⟨g1,g2⟩:=f1 h0;rw [g1,g2];refine ⟨.agg [ab (s1.tdiv s2-1),.aa],.agg [ab (s1.tmod s2+s2),.aa],?_,cx.pq (by omega) (by omega),cx.pq (by omega) (by omega)⟩;unfold ai;rw [ax h.oH]
     simp only [go_sem,ya,yb,iJ,az,jy,gX,cY,aP,yd,bj,hm,fq _ _ _ (show s2≠0 by omega),gF _ _ _ (show s2≠0 by omega),h0,wrap64 (n:=s1.tdiv s2) (by omega) (by omega),wrap64 (n:=s1.tdiv s2-1) (by omega) (by omega),wrap64 (n:=s1.tmod s2+s2) (by omega) (by omega),sj];rfl
    ·obtain ⟨g1,g2⟩:=f2 h0;rw [g1,g2];refine ⟨.agg [ab (s1.tdiv s2),.aa],.agg [ab (s1.tmod s2),.aa],?_,cx.pq (by omega) (by omega),cx.pq (by omega) (by omega)⟩;unfold ai;rw [ax h.oH]
     simp only [go_sem,ya,yb,iJ,az,jy,gX,cY,aP,yd,bj,hm,fq _ _ _ (show s2≠0 by omega),gF _ _ _ (show s2≠0 by omega),h0,wrap64 (n:=s1.tdiv s2) (by omega) (by omega),sj];rfl
  ·refine ⟨q,r,fin _ ?_ ?_ ?_ ?_ (by simp only [go_sem,ya,yb,bC,aD,iJ,az,gX,ox,cY,aP,yd,bj]<;>rfl),hq,hr⟩<;>simp only [go_sem,ya]
 ·refine ⟨q,r,fin _ ?_ ?_ ?_ ?_ (by simp only [go_sem,ya,yb,bC,aD,iJ,az,u2.pu,u2.one,ox,cY,aP,yd,bj]<;>rfl),hq,hr⟩<;>simp only [go_sem,ya]
end
end
section
open Go (IntKind)
section
variable {P:aJ} {L:Lib}
def anx (h:Nu P L) {v w:AV} {a b:Int} {K:Nat} (hv:cu v a) (hw:cu w b) (ej:0<b) (ka:Bd K a) (kb:Bd K b) (hK:K<=30000000000):∃r,ai P L 148 [v,w] r/\cu r (a/b):=by
 have e1:=E2 h hw;obtain ⟨q,r,e2,hq,hr⟩:=MJ h hv hw ej ka kb hK;have e3:bG b=1:=by unfold bG;rw [yp (by omega),yp (by omega)]
 rw [e3] at e1;have cm:=hq;obtain ⟨s1,w1,rfl,h1⟩:=hv;obtain ⟨s2,w2,rfl,h2⟩:=hw;obtain ⟨s3,w3,rfl,h3⟩:=hq;obtain ⟨s4,w4,rfl,h4⟩:=hr;obtain ⟨l1,u1⟩:=h1.aK;obtain ⟨l2,u2⟩:=h2.aK;obtain ⟨l3,u3⟩:=h3.aK;obtain ⟨l4,u4⟩:=h4.aK;refine ⟨_,?_,cm⟩;unfold ai;rw [ax h.R7];simp only [go_sem,ya,yb,Hg,Int.reduceLT,yk,az,u1.pu,u1.ao,u1.one,u2.pu,u2.ao,u2.one,yd,aU,e1,e2,mu,di,dj,bL,ye,kC u3,cJ u3,cJ u4]
def aA9 (h:Nu P L) (G:Nat) {K:Nat} (hK:K<=30000000000) {o1 o2:AV}:
  ∀k s,(∃(x y:Nat) (s1 s2:Int) (w1 w2:AV),bS [2,3,4] s=⟨[(2,.ptr 0 0),(3,.ptr 1 0),(4,.ptr 2 0)],[(2,.cells true true true 2 [o1,o2]),(1,.cells true true true 2 [ab s2,w2]),(0,.cells true true true 2 [ab s1,w1])],3,0⟩/\cx s1 w1 x/\cx s2 w2 y/\Bd K x/\Bd K y/\Nat.gcd x y=G/\y=k)->
   ∃ex s',D P L (.loop [2,3,4] Ab) s=some (ex,s')/\∃tm s1 w1 c1,s'=⟨tm,[(2,.cells true true true 2 [o1,o2]),(1,c1),(0,.cells true true true 2 [ab s1,w1])],3,0⟩/\ex= .exit 0/\ak tm 2= .ptr 0 0/\ak tm 4= .ptr 2 0/\cx s1 w1 G:=by
 refine cR (I:=fun k s=>∃(x y:Nat) (s1 s2:Int) (w1 w2:AV),s=⟨[(2,.ptr 0 0),(3,.ptr 1 0),(4,.ptr 2 0)],[(2,.cells true true true 2 [o1,o2]),(1,.cells true true true 2 [ab s2,w2]),(0,.cells true true true 2 [ab s1,w1])],3,0⟩/\cx s1 w1 x/\cx s2 w2 y/\Bd K x/\Bd K y/\Nat.gcd x y=G/\y=k)
  (Q:=fun ex s'=>∃tm s1 w1 c1,s'=⟨tm,[(2,.cells true true true 2 [o1,o2]),(1,c1),(0,.cells true true true 2 [ab s1,w1])],3,0⟩/\ex= .exit 0/\ak tm 2= .ptr 0 0/\ak tm 4= .ptr 2 0/\cx s1 w1 G) ?_
 rintro k s ⟨x,y,s1,s2,w1,w2,rfl,h1,h2,k1,k2,hG,rfl⟩;obtain ⟨l1,u1⟩:=h1.aK;obtain ⟨l2,u2⟩:=h2.aK;have i1:cu (.agg [ab s1,w1]) (x:Int):=⟨s1,w1,rfl,h1⟩;have i2:cu (.agg [ab s2,w2]) (y:Int):=⟨s2,w2,rfl,h2⟩;have e1:=E2 h i2;by_cases gD:y=0
 ·right
  subst gD;rw [show bG ((0:Nat):Int)=0 from rfl] at e1;simp only [go_sem,ya,Ab,ym,yI,bL,aU,u2.ao,e1];obtain rfl:x=G:=by rw [<-hG,Nat.gcd_zero_right]
  exact ⟨_,_,rfl,by simp,_,s1,w1,_,rfl,rfl,by simp only [go_sem,ya],by simp only [go_sem,ya],h1⟩
 ·left
  have e3:bG (y:Int)=1:=by unfold bG;rw [yp (by omega),yp (by omega)]
  rw [e3] at e1;obtain ⟨q,r,e2,hq,hr⟩:=MJ h i1 i2 (by omega) k1 k2 hK;obtain ⟨s3,w3,rfl,h3⟩:=hq;obtain ⟨s4,w4,rfl,h4⟩:=hr;obtain ⟨l3,u3⟩:=h3.aK;obtain ⟨l4,u4⟩:=h4.aK;have aZ:=xr x (show 0<y by omega);have kr:Bd K ((x%y:Nat):Int):=k2.le (by omega);simp only [go_sem,ya,yb,Ab,V7,V8,VG,Vk,V9,we,tj,yk,yH,az,bL,aU,u1.ao,u2.ao,e1,e2,mu,bL,ye,cJ u2,cJ u3,cJ u4];refine ⟨_,x%y,rfl,aZ,y,x%y,s2,s4,w2,w4,?_,h2,h4,k2,kr,by rw [<-hG];exact agu x y gD,rfl⟩
  simp only [go_sem,ya,yb,aH]
def anz (h:Nu P L) {v w:AV} {a b:Int} {K:Nat} (hv:cu v a) (hw:cu w b) (ka:Bd K a) (kb:Bd K b) (hK:K<=30000000000):∃r,ai P L 130 [v,w] r/\cu r (wq a b:Nat):=by
 obtain ⟨va,e1,ha⟩:=ant h hv ka (by omega);obtain ⟨vb,e2,hb⟩:=ant h hw kb (by omega);obtain ⟨s1,w1,rfl,h1⟩:=hv;obtain ⟨s2,w2,rfl,h2⟩:=hw;obtain ⟨s3,w3,rfl,h3⟩:=ha;obtain ⟨s4,w4,rfl,h4⟩:=hb;obtain ⟨l1,u1⟩:=h1.aK;obtain ⟨l2,u2⟩:=h2.aK;obtain ⟨l3,u3⟩:=h3.aK;obtain ⟨l4,u4⟩:=h4.aK;have iz:∃s w,ai P L 130 [.agg [ab s1,w1],.agg [ab s2,w2]] (.agg [ab s,w])/\cx s w (wq a b:Nat):=by
  unfold ai;rw [ax h.abj];simp only [go_sem,ya,yb,Hf,az,u1.pu,u1.ao,u1.one,u2.pu,u2.ao,u2.one,bL,aU,e1,e2,bq,bL,ye,cJ u3,cJ u4,yd];generalize hq:D P L (.loop [2,3,4] Ab) _=q;obtain ⟨ex,s,rfl,tm,s5,w5,c1,rfl,rfl,t2,t4,h5⟩:=cG hq (aA9 (P:=P) (L:=L) h (wq a b) (K:=K) hK (o1:= .int .i64 0) (o2:= .aa) b.natAbs) ⟨a.natAbs,b.natAbs,s3,s4,w3,w4,by simp only [go_sem,ya,yb,aH],h3,h4,ka,kb,rfl,rfl⟩;obtain ⟨l5,u5⟩:=h5.aK;refine ⟨s5,w5,?_,h5⟩;simp only [go_sem,ya,yb,aH,t2,t4,di,dj,bL,ye,kC u5,cJ u5]
 obtain ⟨s,w,e,hn⟩:=iz;exact ⟨_,e,s,w,rfl,hn⟩
end
def b9 (v:AV) (r:Rat):Prop:=∃s1 w1 s2 w2,v= .agg [ab s1,w1,ab s2,w2]/\cx s1 w1 r.num/\cx s2 w2 (r.den:Int)
def Hq (k:Nat) (r:Rat):Prop:=Bd k r.num/\Bd k (r.den:Int)
def N7 {a b:Int} (hb:0<b):(xF a b).num=a/(wq a b:Nat)/\((xF a b).den:Int)=b/(wq a b:Nat):=by
 constructor
 ·rw [ybj,Int.sign_eq_one_of_pos hb,Int.one_mul,ybP]
 ·rw [ybk,yp (by omega),ybP]
  grind
def Hq.divInt {k:Nat} {a b:Int} (hb:0<b) (ka:Bd k a) (kb:Bd k b):Hq k (xF a b):=by
 obtain ⟨h1,h2⟩:=N7 (a:=a) hb;refine ⟨ka.le ?_,kb.le ?_⟩
 ·rw [h1,vT (Int.gcd_dvd_left a b)];exact wV _ _
 ·rw [h2,vT (Int.gcd_dvd_right a b)];exact wV _ _
section
def pC {tm:Env} {a b x y z w:AV} {r:List (Nat×Nat×X)} (h1:cP a=true) (h2:cP b=true):lj tm [x,y,z,w] 0 2 [a,b] r=fill tm [a,b,z,w] r:=by
 rw [zS (by rfl) (by simp) (by simp [cr,h1,h2])];rfl
def pD {tm:Env} {a b x y z w:AV} {r:List (Nat×Nat×X)} (h1:cP a=true) (h2:cP b=true):lj tm [x,y,z,w] 2 2 [a,b] r=fill tm [x,y,a,b] r:=by
 rw [zS (by rfl) (by simp) (by simp [cr,h1,h2])];rfl
def jP {s t:Int} {v w:AV} {l m:List Nat} (hv:bO v l) (hw:bO w m) (hp:Hp) (ct id:Nat) (a b x y:AV):gC hp ct id 0 4 [.int .i64 s,v,.int .i64 t,w] (some (.cells true true true 4 [a,b,x,y]))=some (.af [],bf hp id (.cells true true true 4 [.int .i64 s,v,.int .i64 t,w]),ct):=by
 rw [rq (by rfl) (by simp) (by simp [cr,hv.one,hw.one,VB])];simp [aO,hv.pu,hw.pu,over,V1]
def lU {s t:Int} {v w:AV} {l m:List Nat} (hv:bO v l) (hw:bO w m) (hp:Hp):result hp (.agg [ab s,v,ab t,w])=some (.agg [ab s,v,ab t,w]):=by
 rcases hv with ⟨rfl,_⟩ | ⟨e,rfl⟩<;>rcases hw with ⟨rfl,_⟩ | ⟨e',rfl⟩<;>rfl
variable {P:aJ} {L:Lib}
structure Fr' (P:aJ) (L:Lib):Prop extends Nu P L where
 aEd:Has P L 101 lB
 h69:Has P L 69 Nr
 aEe:Has P L 111 W3
 h98:Has P L 98 SQ
 aEf:Has P L 108 W2
 aEg:Has P L 102 W1
 h74:Has P L 74 Bl
 h50:Has P L 50 IB
 pc:Has P L 49 c49
 h73:Has P L 73 Dj
 h70:Has P L 70 ID
 dW:Has P L 71 nU
 aEh:Has P L 149 W4
def akZ (h:Fr' P L) {s1 s2:Int} {w1 w2:AV} {a b:Int} {K:Nat} (h1:cx s1 w1 a) (h2:cx s2 w2 b) (ej:0<b) (ka:Bd K a) (kb:Bd K b) (hK:K<=30000000000):
  ∃r,b9 r (xF a b)/\∀tm,ak tm 2= .ptr 0 0->ak tm 3= .ptr 1 0->ak tm 4= .ptr 2 0->fV [.cell 4 4 true] (D P L (aD (aD lB.body)) ⟨tm,[(2,.cells true true true 4 [.int .i64 0,.aa,.int .i64 0,.aa]),(1,.cells true true true 2 [ab s2,w2]),(0,.cells true true true 2 [ab s1,w1])],3,0⟩)=some r:=by
 have hv:cu (.agg [ab s1,w1]) a:=⟨s1,w1,rfl,h1⟩;have hw:cu (.agg [ab s2,w2]) b:=⟨s2,w2,rfl,h2⟩;obtain ⟨p1,p2⟩:=N7 (a:=a) ej;have hgp:=Pa (a:=a) ej;have hgk:Bd K ((wq a b:Nat):Int):=kb.le (by
  have:=Int.gcd_le_natAbs_right a (show b≠0 by omega)
  omega)
 obtain ⟨g,e2,hg⟩:=anz h.toNu hv hw ka kb hK;obtain ⟨q1,e4,fJ⟩:=anx h.toNu hv hg hgp ka hgk hK;obtain ⟨q2,e5,Th⟩:=anx h.toNu hw hg hgp kb hgk hK;rw [<-p1] at fJ;rw [<-p2] at Th;obtain ⟨s3,w3,rfl,h3⟩:=hg;obtain ⟨s4,w4,rfl,h4⟩:=fJ;obtain ⟨s5,w5,rfl,h5⟩:=Th;obtain ⟨l1,u1⟩:=h1.aK;obtain ⟨l2,u2⟩:=h2.aK;obtain ⟨l3,u3⟩:=h3.aK;obtain ⟨l4,u4⟩:=h4.aK;obtain ⟨l5,u5⟩:=h5.aK;by_cases fO:w2= .aa/\s2=1
 ·obtain ⟨rfl,rfl⟩:=fO;have kQ:b=1:=by
   rcases h2 with ⟨_,h,_⟩ | ⟨_,_,h,_⟩
   ·exact h.symm
   ·cases h
  subst kQ;rw [Int.gcd_one] at p1 p2;have p1:(xF a 1).num=a:=by rw [p1];exact Int.ediv_one a
  refine ⟨.agg [ab s1,w1,ab 1,.aa],⟨s1,w1,1,.aa,rfl,by rw [p1];exact h1,by rw [p2];exact h2⟩,fun tm t2 t3 t4=>?_⟩
  have un:=od;simp only [go_sem,ya,lB,aD,t2,t3,t4,u1.one,bL,aP,yd,bj,gX,cY,pC,pD,jP u1 un,di,dj,ye,gg,lU u1 un]
 ·refine ⟨.agg [ab s4,w4,ab s5,w5],⟨s4,w4,s5,w5,rfl,h4,h5⟩,fun tm t2 t3 t4=>?_⟩;rcases u2 with ⟨rfl,_⟩ | ⟨e,rfl⟩
  ·simp only [go_sem,ya,yb,lB,aD,t2,t3,t4,az,u1.ao,bL,aU,aP,yd,bj,gX,cY,show ¬s2=1 from fun e=>fO ⟨rfl,e⟩,e2,e4,e5,bq,di,dj,bL,ye,cJ u3,u3.ao,u4.one,u5.one,pC,pD,jP u4 u5,gg,lU u4 u5]
  ·simp only [go_sem,ya,yb,lB,aD,t2,t3,t4,az,u1.ao,bL,aU,aP,yd,bj,ox,cY,e2,e4,e5,bq,di,dj,bL,ye,cJ u3,u3.ao,u4.one,u5.one,pC,pD,jP u4 u5,gg,lU u4 u5]
def MK (h:Fr' P L) {v w:AV} {a b:Int} {K:Nat} (hv:cu v a) (hw:cu w b) (ej:b≠0) (ka:Bd K a) (kb:Bd K b) (hK:K<=30000000000):∃r,ai P L 101 [v,w] r/\b9 r (xF a b):=by
 have e1:=E2 h.toNu hw;have eK:=hv;have hw':=hw;obtain ⟨s1,w1,rfl,h1⟩:=hv;obtain ⟨s2,w2,rfl,h2⟩:=hw;obtain ⟨l1,u1⟩:=h1.aK;obtain ⟨l2,u2⟩:=h2.aK;have fin:∀r t1 t2 v1 v2 tm,(∀tm,ak tm 2= .ptr 0 0->ak tm 3= .ptr 1 0->ak tm 4= .ptr 2 0->fV [.cell 4 4 true] (D P L (aD (aD lB.body)) ⟨tm,[(2,.cells true true true 4 [.int .i64 0,.aa,.int .i64 0,.aa]),(1,.cells true true true 2 [ab t2,v2]),(0,.cells true true true 2 [ab t1,v1])],3,0⟩)=some r)->ak tm 2= .ptr 0 0->ak tm 3= .ptr 1 0->ak tm 4= .ptr 2 0->
   D P L (.seq (bC lB.body) (bC (aD lB.body))) ⟨[(0,.agg [ab s1,w1]),(1,.agg [ab s2,w2])],[],0,0⟩=some (.normal,⟨tm,[(2,.cells true true true 4 [.int .i64 0,.aa,.int .i64 0,.aa]),(1,.cells true true true 2 [ab t2,v2]),(0,.cells true true true 2 [ab t1,v1])],3,0⟩)->ai P L 101 [.agg [ab s1,w1],.agg [ab s2,w2]] r:=fun r t1 t2 v1 v2 tm tail k2 k3 k4 e=>by
  unfold ai;rw [ax h.aEd];show fV [.cell 4 4 true] (D P L (.seq (bC lB.body) (.seq (bC (aD lB.body)) (aD (aD lB.body)))) ⟨[(0,.agg [ab s1,w1]),(1,.agg [ab s2,w2])],[],0,0⟩)=_
  rw [DS,e,fY];exact tail tm k2 k3 k4
 by_cases hn:b<0
 ·obtain ⟨n1,e2,lI⟩:=H6 h.toNu eK ka (by omega);obtain ⟨n2,e3,eM⟩:=H6 h.toNu hw' kb (by omega);obtain ⟨s3,w3,rfl,h3⟩:=lI;obtain ⟨s4,w4,rfl,h4⟩:=eM;obtain ⟨l3,u3⟩:=h3.aK;obtain ⟨l4,u4⟩:=h4.aK;obtain ⟨r,hr,tail⟩:=akZ h h3 h4 (by omega) ka.neg kb.neg hK;rw [Rat.neg_divInt_neg] at hr;have hs:bG b<0:=by unfold bG;rw [yz hn];decide
  refine ⟨r,fin r _ _ _ _ _ tail ?_ ?_ ?_ (by simp only [go_sem,ya,yb,lB,bC,aD,hs,az,u1.pu,u1.ao,u1.one,u2.pu,u2.ao,u2.one,bL,aU,e1,e2,e3,bq,cJ u3,cJ u4]<;>rfl),hr⟩<;>simp only [go_sem,ya]
 ·obtain ⟨r,hr,tail⟩:=akZ h h1 h2 (by omega) ka kb hK;have hs:¬bG b<0:=by unfold bG;rw [yp hn];split<;>decide
  refine ⟨r,fin r _ _ _ _ _ tail ?_ ?_ ?_ (by simp only [go_sem,ya,yb,lB,bC,aD,hs,az,u1.pu,u1.one,u2.pu,u2.ao,u2.one,bL,aU,e1]<;>rfl),hr⟩<;>simp only [go_sem,ya]
end
end
section
open Go (IntKind)
def Hq.mono {k m:Nat} {r:Rat} (h:Hq k r) (hk:k<=m):Hq m r:=⟨h.1.mono hk,h.2.mono hk⟩
def Hq.neg {k:Nat} {r:Rat} (h:Hq k r):Hq k (-r):=⟨h.1.neg,h.2⟩
def add_eq (a b:Rat):a+b=xF (a.num*b.den+b.num*a.den) ((a.den:Int)*b.den):=by
 rw [Rat.add_def',<-yaP,xE]
def mul_eq (a b:Rat):a*b=xF (a.num*b.num) ((a.den:Int)*b.den):=by
 rw [Rat.mul_def',<-yaP,xE]
def OR (a:Rat):0<(a.den:Int):=by have:=a.den_pos;omega
def FY (a b:Rat):0<(a.den:Int)*b.den:=Int.mul_pos (OR a) (OR b)
def Bd.ML {k:Nat} {a b:Int} (ha:Bd k a) (hb:Bd k b):Bd (k+1) (a+b):=by
 have:=ha.add hb
 grind
def Hq.add {k m:Nat} {a b:Rat} (ha:Hq k a) (hb:Hq m b):Hq (k+m+1) (a+b):=by
 rw [add_eq];refine Hq.divInt (FY a b) ?_ ((ha.2.mul hb.2).mono (by omega));exact (ha.1.mul hb.2).ML ((hb.1.mul ha.2).mono (by omega))
def Hq.mul {k m:Nat} {a b:Rat} (ha:Hq k a) (hb:Hq m b):Hq (k+m) (a*b):=by
 rw [mul_eq];exact Hq.divInt (FY a b) (ha.1.mul hb.1) (ha.2.mul hb.2)
def Hq.sub {k m:Nat} {a b:Rat} (ha:Hq k a) (hb:Hq m b):Hq (k+m+1) (a-b):=by
 rw [wE];exact ha.add hb.neg
def Hq.inv {k:Nat} {a:Rat} (ha:Hq k a):Hq k a⁻¹:=by
 have h1:(a⁻¹).num.natAbs<=a.den:=by
  rw [Rat.num_inv,Int.natAbs_mul]
  grind
 refine ⟨ha.2.le (by simpa using h1),?_⟩;unfold Bd;rw [Rat.den_inv]
 split
 ·have h2:=ha.2;unfold Bd at h2
  simp_all
 ·exact ha.1
def Hq.div {k m:Nat} {a b:Rat} (ha:Hq k a) (hb:Hq m b):Hq (k+m) (a/b):=by
 rw [Rat.div_def];exact ha.mul hb.inv
def kE (a b:Rat):Int:=if a<b then -1 else if a=b then 0 else 1
def axq (a b:Rat):bG (a.num*b.den-b.num*a.den)=kE a b:=by
 unfold bG kE;by_cases h:a<b
 ·rw [yz h]
  have:=(yce a b).1 h
  grind
 ·rw [yp h];have h1:¬a.num*b.den<b.num*a.den:=fun e=>h ((yce a b).2 e)
  rw [yp (by omega)];by_cases h2:a=b
  ·grind
  ·rw [yp h2,yp (by have:¬a.num*b.den=b.num*a.den:=fun e=>h2 (Rat.eq_iff_mul_eq_mul.2 e);omega)]
def Pf (a:Rat) (h:a.den=1):a=(a.num:Rat):=by
 have:=Rat.num_divInt_den a
 rw [h] at this;rw [<-this];exact (Rat.ext (by simp [ybj]) (by simp [ybk]))
def Cs (a b c d:AV) (r:List AV):hX 2 true (List.drop 2 (a::b::c::d::r))=some (.agg [c,d]):=rfl
def ru (a b:AV) (r:List AV):hX 2 true (a::b::r)=some (.agg [a,b]):=rfl
section
variable {P:aJ} {L:Lib}
def Sg (h:Fr' P L) {v:AV} {z:Int} (hv:cu v z):∃r,ai P L 111 [v] r/\b9 r (z:Rat):=by
 obtain ⟨o1,o2⟩:=rH h.toNu (z:=1) (by decide) (by decide);obtain ⟨s1,w1,rfl,h1⟩:=hv;obtain ⟨l1,u1⟩:=h1.aK;have un:=od;refine ⟨.agg [ab s1,w1,ab 1,.aa],?_,s1,w1,1,.aa,rfl,h1,.inl ⟨rfl,rfl,(by show (-9223372036854775808:Int)<=1;decide),(by show (1:Int)<9223372036854775808;decide)⟩⟩
 unfold ai;rw [ax h.aEe];simp only [go_sem,ya,yb,W3,az,u1.pu,u1.one,bL,o1,bq,pC,pD,jP u1 un,di,dj,ye,gg,lU u1 un]
def m69 (h:Fr' P L) {z:Int} (h1: -9223372036854775808<=z) (h2:z<9223372036854775808):∃r,ai P L 69 [ab z] r/\b9 r (z:Rat):=by
 obtain ⟨o1,o2⟩:=rH h.toNu h1 h2;obtain ⟨r,e,hr⟩:=Sg h o2;have cM:=hr;obtain ⟨s1,w1,s2,w2,rfl,k1,k2⟩:=hr;obtain ⟨l1,u1⟩:=k1.aK;obtain ⟨l2,u2⟩:=k2.aK;refine ⟨_,?_,cM⟩;unfold ai;rw [ax h.h69];simp only [go_sem,ya,yb,Nr,az,aU,o1,e,bq,jP u1 u2,di,dj,ye,gg,lU u1 u2]
def m98 (h:Fr' P L) {v:AV} {a:Rat} (hv:b9 v a):ai P L 98 [v] (.bool (decide (a.den=1))):=by
 obtain ⟨s1,w1,s2,w2,rfl,h1,h2⟩:=hv;obtain ⟨l1,u1⟩:=h1.aK;unfold ai;rw [ax h.h98];rcases h2 with ⟨rfl,rfl,b1,b2⟩ | ⟨e,l,rfl,gb,nb,vb,sb,b1⟩
 ·have e:decide (((a.den:Nat):Int)=1)=decide (a.den=1):=by simp;omega
  simp only [go_sem,ya,yb,SQ,az,u1.pu,u1.one,aP,yd,aCH,alE,gX,cY,e]
 ·have e:decide (a.den=1)=false:=yC (by omega);rw [e];simp only [go_sem,ya,yb,SQ,az,u1.pu,u1.one,aP,yd,alE,ox,cY]
def H7 (h:Fr' P L) {v:AV} {a:Rat} (hv:b9 v a):ai P L 108 [v] (ab (bG a.num)):=by
 obtain ⟨s1,w1,s2,w2,rfl,h1,h2⟩:=hv;obtain ⟨l1,u1⟩:=h1.aK;obtain ⟨l2,u2⟩:=h2.aK;have e1:=E2 h.toNu ⟨s1,w1,rfl,h1⟩;unfold ai;rw [ax h.aEf];simp only [go_sem,ya,yb,W2,az,u1.pu,u1.ao,u1.one,u2.pu,u2.one,aP,yd,ru,aU,e1]
def abx (h:Fr' P L) {v:AV} {a:Rat} {K:Nat} (hv:b9 v a) (ka:Hq K a) (hK:K<=30000000000):∃r,ai P L 102 [v] r/\b9 r (-a):=by
 obtain ⟨s1,w1,s2,w2,rfl,h1,h2⟩:=hv;obtain ⟨l1,u1⟩:=h1.aK;obtain ⟨l2,u2⟩:=h2.aK;obtain ⟨n,e1,hn⟩:=H6 h.toNu ⟨s1,w1,rfl,h1⟩ ka.1 (by omega);obtain ⟨s3,w3,rfl,h3⟩:=hn;obtain ⟨l3,u3⟩:=h3.aK;refine ⟨.agg [ab s3,w3,ab s2,w2],?_,s3,w3,s2,w2,rfl,h3,h2⟩;unfold ai;rw [ax h.aEg];simp only [go_sem,ya,yb,W1,az,u1.pu,u1.ao,u1.one,u2.pu,u2.one,u3.one,aP,yd,ru,Cs,aU,e1,bq,pC,pD,jP u3 u2,di,dj,ye,gg,lU u3 u2]
def Tp (h:Fr' P L) {v w:AV} {a b:Rat} {K:Nat} (hv:b9 v a) (hw:b9 w b) (ka:Hq K a) (kb:Hq K b) (hK:K<=10000000000):∃r,ai P L 74 [v,w] r/\b9 r (a+b):=by
 have i1:=m98 h hv;have i2:=m98 h hw;obtain ⟨s1,w1,s2,w2,rfl,h1,h2⟩:=hv;obtain ⟨s3,w3,s4,w4,rfl,h3,h4⟩:=hw;obtain ⟨l1,u1⟩:=h1.aK;obtain ⟨l2,u2⟩:=h2.aK;obtain ⟨l3,u3⟩:=h3.aK;obtain ⟨l4,u4⟩:=h4.aK;have n1:cu (.agg [ab s1,w1]) a.num:=⟨s1,w1,rfl,h1⟩;have n2:cu (.agg [ab s2,w2]) a.den:=⟨s2,w2,rfl,h2⟩;have n3:cu (.agg [ab s3,w3]) b.num:=⟨s3,w3,rfl,h3⟩;have n4:cu (.agg [ab s4,w4]) b.den:=⟨s4,w4,rfl,h4⟩;by_cases Td:a.den=1/\b.den=1
 ·obtain ⟨d1,d2⟩:=Td;obtain ⟨p,e1,hp⟩:=E3 h.toNu n1 n3 ka.1 kb.1 (by omega);obtain ⟨r,e2,hr⟩:=Sg h hp;have he:((a.num+b.num:Int):Rat)=a+b:=by
   rw [Rat.intCast_add,<-Pf a d1,<-Pf b d2]
  rw [he] at hr;have cM:=hr;obtain ⟨s5,w5,rfl,h5⟩:=hp;obtain ⟨s6,w6,s7,w7,rfl,h6,h7⟩:=hr;obtain ⟨l5,u5⟩:=h5.aK;obtain ⟨l6,u6⟩:=h6.aK;obtain ⟨l7,u7⟩:=h7.aK;refine ⟨_,?_,cM⟩;rw [d1] at i1;rw [d2] at i2;unfold ai;rw [ax h.h74];simp only [go_sem,ya,yb,Bl,az,u1.pu,u1.ao,u1.one,u2.pu,u2.ao,u2.one,u3.pu,u3.ao,u3.one,u4.pu,u4.ao,u4.one,aP,yd,gg,ru,aU,i1,i2,e1,u5.ao,e2,bq,jP u6 u7,di,dj,ye,gg,lU u6 u7]
 ·obtain ⟨p1,e1,bI⟩:=oL h.toNu n1 n4 ka.1 kb.2 (by omega);obtain ⟨p2,e2,jF⟩:=oL h.toNu n3 n2 kb.1 ka.2 (by omega);obtain ⟨p3,e3,hp3⟩:=E3 h.toNu bI jF (ka.1.mul kb.2) (kb.1.mul ka.2) (by omega);obtain ⟨p4,e4,hp4⟩:=oL h.toNu n2 n4 ka.2 kb.2 (by omega);obtain ⟨r,e5,hr⟩:=MK h hp3 hp4 (by have:=FY a b;omega) ((ka.1.mul kb.2).ML (kb.1.mul ka.2)) ((ka.2.mul kb.2).mono (by omega)) (by omega);rw [<-add_eq] at hr;have cM:=hr;obtain ⟨s5,w5,rfl,h5⟩:=bI;obtain ⟨s6,w6,rfl,h6⟩:=jF;obtain ⟨s7,w7,rfl,h7⟩:=hp3;obtain ⟨s8,w8,rfl,h8⟩:=hp4;obtain ⟨s9,w9,s10,w10,rfl,h9,iS⟩:=hr;obtain ⟨l5,u5⟩:=h5.aK;obtain ⟨l6,u6⟩:=h6.aK;obtain ⟨l7,u7⟩:=h7.aK;obtain ⟨l8,u8⟩:=h8.aK;obtain ⟨l9,u9⟩:=h9.aK;obtain ⟨l10,Tq⟩:=iS.aK;refine ⟨_,?_,cM⟩;unfold ai;rw [ax h.h74];by_cases d1:a.den=1
  ·rw [d1] at i1;rw [yC (fun d2=>Td ⟨d1,d2⟩)] at i2;simp only [go_sem,ya,yb,Bl,az,u1.pu,u1.ao,u1.one,u2.pu,u2.ao,u2.one,u3.pu,u3.ao,u3.one,u4.pu,u4.ao,u4.one,aP,yd,gg,ru,Cs,aU,i1,i2,e1,e2,u5.ao,u6.ao,e3,e4,u7.ao,u8.ao,e5,bq,jP u9 Tq,di,dj,ye,gg,lU u9 Tq]
  ·rw [yC d1] at i1;simp only [go_sem,ya,yb,Bl,az,u1.pu,u1.ao,u1.one,u2.pu,u2.ao,u2.one,u3.pu,u3.ao,u3.one,u4.pu,u4.ao,u4.one,aP,yd,gg,ru,Cs,aU,i1,e1,e2,u5.ao,u6.ao,e3,e4,u7.ao,u8.ao,e5,bq,jP u9 Tq,di,dj,ye,gg,lU u9 Tq]
def m50 (h:Fr' P L) {v w:AV} {a b:Rat} {K:Nat} (hv:b9 v a) (hw:b9 w b) (ka:Hq K a) (kb:Hq K b) (hK:K<=10000000000):∃r,ai P L 50 [v,w] r/\b9 r (a-b):=by
 obtain ⟨n,e1,hn⟩:=abx h hw kb (by omega);obtain ⟨r,e2,hr⟩:=Tp h hv hn ka kb.neg hK;rw [<-wE] at hr;have cM:=hr;obtain ⟨s1,w1,s2,w2,rfl,h1,h2⟩:=hv;obtain ⟨s3,w3,s4,w4,rfl,h3,h4⟩:=hw;obtain ⟨s5,w5,s6,w6,rfl,h5,h6⟩:=hn;obtain ⟨s7,w7,s8,w8,rfl,h7,h8⟩:=hr;obtain ⟨l1,u1⟩:=h1.aK;obtain ⟨l2,u2⟩:=h2.aK;obtain ⟨l3,u3⟩:=h3.aK;obtain ⟨l4,u4⟩:=h4.aK;obtain ⟨l5,u5⟩:=h5.aK;obtain ⟨l6,u6⟩:=h6.aK;obtain ⟨l7,u7⟩:=h7.aK;obtain ⟨l8,u8⟩:=h8.aK;refine ⟨_,?_,cM⟩;unfold ai;rw [ax h.h50];simp only [go_sem,ya,yb,IB,az,u1.pu,u1.ao,u1.one,u2.pu,u2.ao,u2.one,u3.pu,u3.ao,u3.one,u4.pu,u4.ao,u4.one,u5.ao,u6.ao,gg,aU,e1,e2,bq,jP u7 u8,di,dj,ye,gg,lU u7 u8]
def Bv (h:Fr' P L) {v w:AV} {a b:Rat} {K:Nat} (hv:b9 v a) (hw:b9 w b) (ka:Hq K a) (kb:Hq K b) (hK:K<=10000000000):∃r,ai P L 49 [v,w] r/\b9 r (a*b):=by
 obtain ⟨s1,w1,s2,w2,rfl,h1,h2⟩:=hv;obtain ⟨s3,w3,s4,w4,rfl,h3,h4⟩:=hw;obtain ⟨l1,u1⟩:=h1.aK;obtain ⟨l2,u2⟩:=h2.aK;obtain ⟨l3,u3⟩:=h3.aK;obtain ⟨l4,u4⟩:=h4.aK;obtain ⟨p1,e1,bI⟩:=oL h.toNu (v:= .agg [ab s1,w1]) (w:= .agg [ab s3,w3]) ⟨s1,w1,rfl,h1⟩ ⟨s3,w3,rfl,h3⟩ ka.1 kb.1 (by omega);obtain ⟨p2,e2,jF⟩:=oL h.toNu (v:= .agg [ab s2,w2]) (w:= .agg [ab s4,w4]) ⟨s2,w2,rfl,h2⟩ ⟨s4,w4,rfl,h4⟩ ka.2 kb.2 (by omega);obtain ⟨r,e3,hr⟩:=MK h bI jF (by have:=FY a b;omega) (ka.1.mul kb.1) (ka.2.mul kb.2) (by omega);rw [<-mul_eq] at hr;have cM:=hr;obtain ⟨s5,w5,rfl,h5⟩:=bI;obtain ⟨s6,w6,rfl,h6⟩:=jF;obtain ⟨s7,w7,s8,w8,rfl,h7,h8⟩:=hr;obtain ⟨l5,u5⟩:=h5.aK;obtain ⟨l6,u6⟩:=h6.aK;obtain ⟨l7,u7⟩:=h7.aK;obtain ⟨l8,u8⟩:=h8.aK;refine ⟨_,?_,cM⟩;unfold ai;rw [ax h.pc]
 simp only [go_sem,ya,yb,c49,az,u1.pu,u1.ao,u1.one,u2.pu,u2.ao,u2.one,u3.pu,u3.ao,u3.one,u4.pu,u4.ao,u4.one,u5.ao,u6.ao,aP,yd,ru,Cs,aU,e1,e2,e3,bq,jP u7 u8,di,dj,ye,gg,lU u7 u8]
def m73 (h:Fr' P L) {v:AV} {a:Rat} {K:Nat} (hv:b9 v a) (h0:a≠0) (ka:Hq K a) (hK:K<=10000000000):∃r,ai P L 73 [v] r/\b9 r a⁻¹:=by
 obtain ⟨s1,w1,s2,w2,rfl,h1,h2⟩:=hv;obtain ⟨l1,u1⟩:=h1.aK;obtain ⟨l2,u2⟩:=h2.aK;obtain ⟨r,e1,hr⟩:=MK h (v:= .agg [ab s2,w2]) (w:= .agg [ab s1,w1]) ⟨s2,w2,rfl,h2⟩ ⟨s1,w1,rfl,h1⟩ (fun e=>h0 (Rat.num_eq_zero.1 e)) ka.2 ka.1 (by omega);rw [<-Rat.inv_def] at hr;have cM:=hr;obtain ⟨s7,w7,s8,w8,rfl,h7,h8⟩:=hr;obtain ⟨l7,u7⟩:=h7.aK;obtain ⟨l8,u8⟩:=h8.aK;refine ⟨_,?_,cM⟩;unfold ai;rw [ax h.h73];simp only [go_sem,ya,yb,Dj,az,u1.pu,u1.ao,u1.one,u2.pu,u2.ao,u2.one,aP,yd,ru,Cs,aU,e1,bq,jP u7 u8,di,dj,ye,gg,lU u7 u8]
def m70 (h:Fr' P L) {v w:AV} {a b:Rat} {K:Nat} (hv:b9 v a) (hw:b9 w b) (h0:b≠0) (ka:Hq K a) (kb:Hq K b) (hK:K<=10000000000):∃r,ai P L 70 [v,w] r/\b9 r (a/b):=by
 obtain ⟨n,e1,hn⟩:=m73 h hw h0 kb hK;obtain ⟨r,e2,hr⟩:=Bv h hv hn ka kb.inv hK;have cM:=hr;obtain ⟨s1,w1,s2,w2,rfl,h1,h2⟩:=hv;obtain ⟨s3,w3,s4,w4,rfl,h3,h4⟩:=hw;obtain ⟨s5,w5,s6,w6,rfl,h5,h6⟩:=hn;obtain ⟨s7,w7,s8,w8,rfl,h7,h8⟩:=hr;obtain ⟨l1,u1⟩:=h1.aK;obtain ⟨l2,u2⟩:=h2.aK;obtain ⟨l3,u3⟩:=h3.aK;obtain ⟨l4,u4⟩:=h4.aK;obtain ⟨l5,u5⟩:=h5.aK;obtain ⟨l6,u6⟩:=h6.aK;obtain ⟨l7,u7⟩:=h7.aK;obtain ⟨l8,u8⟩:=h8.aK;refine ⟨_,?_,cM⟩;unfold ai;rw [ax h.h70];simp only [go_sem,ya,yb,ID,az,u1.pu,u1.ao,u1.one,u2.pu,u2.ao,u2.one,u3.pu,u3.ao,u3.one,u4.pu,u4.ao,u4.one,u5.ao,u6.ao,gg,aU,e1,e2,bq,jP u7 u8,di,dj,ye,gg,lU u7 u8]
def NP (h:Fr' P L) {v w:AV} {a b:Rat} {K:Nat} (hv:b9 v a) (hw:b9 w b) (ka:Hq K a) (kb:Hq K b) (hK:K<=10000000000):ai P L 71 [v,w] (ab (kE a b)):=by
 obtain ⟨s1,w1,s2,w2,rfl,h1,h2⟩:=hv;obtain ⟨s3,w3,s4,w4,rfl,h3,h4⟩:=hw;obtain ⟨l1,u1⟩:=h1.aK;obtain ⟨l2,u2⟩:=h2.aK;obtain ⟨l3,u3⟩:=h3.aK;obtain ⟨l4,u4⟩:=h4.aK;obtain ⟨p1,e1,bI⟩:=oL h.toNu (v:= .agg [ab s1,w1]) (w:= .agg [ab s4,w4]) ⟨s1,w1,rfl,h1⟩ ⟨s4,w4,rfl,h4⟩ ka.1 kb.2 (by omega);obtain ⟨p2,e2,jF⟩:=oL h.toNu (v:= .agg [ab s3,w3]) (w:= .agg [ab s2,w2]) ⟨s3,w3,rfl,h3⟩ ⟨s2,w2,rfl,h2⟩ kb.1 ka.2 (by omega);have e3:=MI h.toNu bI jF (ka.1.mul kb.2) (kb.1.mul ka.2) (by omega);rw [axq] at e3;obtain ⟨s5,w5,rfl,h5⟩:=bI;obtain ⟨s6,w6,rfl,h6⟩:=jF;obtain ⟨l5,u5⟩:=h5.aK;obtain ⟨l6,u6⟩:=h6.aK;unfold ai;rw [ax h.dW];simp only [go_sem,ya,yb,nU,az,u1.pu,u1.ao,u1.one,u2.pu,u2.ao,u2.one,u3.pu,u3.ao,u3.one,u4.pu,u4.ao,u4.one,u5.ao,u6.ao,aP,yd,ru,Cs,aU,e1,e2,e3,bq]
def aEi (h:Fr' P L) {v:AV} {a:Rat} {K:Nat} (hv:b9 v a) (ka:Hq K a) (hK:K<=10000000000):∃r,ai P L 149 [v] r/\cu r a.floor:=by
 obtain ⟨s1,w1,s2,w2,rfl,h1,h2⟩:=hv;obtain ⟨l1,u1⟩:=h1.aK;obtain ⟨l2,u2⟩:=h2.aK;obtain ⟨q,r,e1,hq,hr⟩:=MJ h.toNu (v:= .agg [ab s1,w1]) (w:= .agg [ab s2,w2]) ⟨s1,w1,rfl,h1⟩ ⟨s2,w2,rfl,h2⟩ (OR a) ka.1 ka.2 (by omega);rw [<-Rat.floor_def] at hq;have cm:=hq;obtain ⟨s3,w3,rfl,h3⟩:=hq;obtain ⟨s4,w4,rfl,h4⟩:=hr;obtain ⟨l3,u3⟩:=h3.aK;obtain ⟨l4,u4⟩:=h4.aK;refine ⟨_,?_,cm⟩;unfold ai;rw [ax h.aEh];simp only [go_sem,ya,yb,W4,az,u1.pu,u1.ao,u1.one,u2.pu,u2.ao,u2.one,aP,yd,ru,Cs,aU,e1,mu,di,dj,ye,kC u3,cJ u3,cJ u4]
end
end
section
open Go (IntKind)
def su:List AV->Option (List Nat)
 | []=>some []
 | .int .u64 (.ofNat d)::r=>bif yL d 18446744073709551616 then (match su r with | some l=>some (d::l) | none=>none) else none
 | _::_=>none
def sQ:List Nat->Nat
 | []=>0
 | a::r=>a+18446744073709551616*sQ r
def Ct:List Nat->Bool
 | []=>false
 | [a]=> !yu a 0
 | _::r=>Ct r
def BY:List AV->Option AV
 | [.agg [.int .i64 s,.aa]]=>bif Co s then some (.str (aV s)) else none
 | [.agg [.int .i64 s,.ap _ n cs]]=>
  match su cs with
  | some l=>
   bif yu l.length n&&(yG n 4000000000&&(Ct l&&yG 9223372036854775808 (sQ l))) then
    match s with
    | .ofNat 1=>some (.str (au (sQ l)))
    | .negSucc 0=>some (.str (45::au (sQ l)))
    | _=>none
   else none
  | none=>none
 | _=>none
end
section
open Go (IntKind)
def ae4:∀{l:List Nat},lo 18446744073709551616 l->su (l.map uc)=some l
 | [],_=>rfl
 | a::l,h=>by
  have h1:=h a (by simp);have h2:=ae4 (l:=l) (fun x hx=>h x (by simp [hx]));show (bif yL a 18446744073709551616 then (match su (l.map uc) with | some l=>some (a::l) | none=>none) else none)=_
  rw [lk h1,h2];rfl
def VH:∀l:List Nat,sQ l=bv 18446744073709551616 l
 | []=>rfl
 | a::l=>by simp only [sQ,bv,VH l]
def agC:∀{l:List Nat},l≠[]->gB l->Ct l=true
 | [],h,_=>absurd rfl h
 | [a],_,h=>by
  have:a≠0:=fun e=>by
   subst e;have h:ez [0]=[0]:=h;simp [ez] at h
  simp [Ct,ig this]
 | a::b::r,_,h=>by
  have h1:gB (b::r):=by
   have h:ez (a::b::r)=a::b::r:=h;rw [ez] at h
   grind
  have:=agC (l:=b::r) (by simp) h1
  simpa [Ct] using this
section
variable {P:aJ} {L:Lib}
structure Tx (P:aJ) (L:Lib):Prop extends Fr' P L where
 IP:L.pure 99=some BY
 aEj:L.pure 175=some KQ
 anA:L.pure 152=some Oi
 aby:L.pure 153=some N8
 abz:L.pure 154=some LB
 abA:L.pure 109=some Qf
 MM:Has P L 155 Qn
 anB:Has P L 172 Qq
 aEk:Has P L 151 Qm
 aEl:Has P L 107 Qg
 h46:Has P L 46 zp
 anC:Has P L 110 Qh
 Tt:Has P L 62 IC
def m99 (h:Tx P L) {v:AV} {z:Int} {K:Nat} (hv:cu v z) (hz:Bd K z) (hK:K<=4000000000):ai P L 99 [v] (.str (aV z)):=by
 obtain ⟨s,w,rfl,hn⟩:=hv;unfold ai;rw [jt h.IP];rcases hn with ⟨rfl,rfl,h1,h2⟩ | ⟨e,l,rfl,g,n,hb,hs,h1⟩
 ·show (bif Co s then some (AV.str (aV s)) else none)=_
  have:Co s=true:=by
   cases s with
   | ofNat k=>exact lk (by have:(Int.ofNat k)=(k:Int):=rfl;omega)
   | negSucc k=>exact lk (by omega)
  grind
 ·have kM:l≠[]:=fun e=>by subst e;simp [bv] at hb;omega
  have zi:l.length<=4000000000:=yS (oK n hb (yO hz (Cf K))) hK
  show (match su (l.map uc) with
   | some l'=>bif yu l'.length l.length&&(yG l.length 4000000000&&(Ct l'&&yG 9223372036854775808 (sQ l'))) then (match s with | .ofNat 1=>some (AV.str (au (sQ l'))) | .negSucc 0=>some (.str (45::au (sQ l'))) | _=>none) else none
   | none=>none)=_
  rw [ae4 g];simp only [Nat.beq_refl,yy zi,agC kM n,VH,hb,yy h1,we,yB];by_cases h0:z<0
  ·rw [yz h0] at hs;subst hs;rw [jZ h0];rfl
  ·rw [yp h0] at hs;subst hs;obtain ⟨m,rfl⟩:∃m:Nat,z=m:=⟨z.toNat,by omega⟩;rfl
def RT (r:Rat):List Nat:=aV r.num++(if r.den=1 then [] else 47::au r.den)
def Ki {z:Int} {k:Nat} (h:Bd k z):(aV z).length<=k+1:=by
 have h1:∀m:Nat,m<2^k->(au m).length<=max k 1:=fun m hm=>by
  cases k with
  | zero=>
       have:m=0:=by simpa using hm
       subst this;decide
  | succ k=>
   rw [Nat.max_eq_left (by omega)];exact se (k:=k) (yO hm (tf (by decide) _))
 by_cases h0:z<0
 ·rw [jZ h0];unfold Bd at h
  grind
 ·obtain ⟨m,rfl⟩:∃m:Nat,z=m:=⟨z.toNat,by omega⟩
  have:=h1 m (by unfold Bd at h;simpa using h)
  rw [jY];omega
def m46 (h:Tx P L) {v:AV} {a:Rat} {K:Nat} (hv:b9 v a) (ka:Hq K a) (hK:K<=4000000000):ai P L 46 [v] (.str (RT a)):=by
 have i1:=m98 h.toFr' hv;obtain ⟨s1,w1,s2,w2,rfl,h1,h2⟩:=hv;obtain ⟨l1,u1⟩:=h1.aK;obtain ⟨l2,u2⟩:=h2.aK;have e1:=m99 h (v:= .agg [ab s1,w1]) ⟨s1,w1,rfl,h1⟩ ka.1 hK;have e2:=m99 h (v:= .agg [ab s2,w2]) ⟨s2,w2,rfl,h2⟩ ka.2 hK;have b1:=Ki ka.1;have b2:=Ki ka.2;rw [jY] at e2 b2;unfold ai RT;rw [ax h.h46];by_cases hd:a.den=1
 ·rw [yz hd,List.append_nil];rw [hd] at i1;simp only [go_sem,ya,yb,zp,az,u1.pu,u1.ao,u1.one,u2.pu,u2.ao,u2.one,gg,aU,i1,aP,yd,ru,e1]
 ·rw [yp hd];rw [yC hd] at i1;have hc:aV a.num++47::au a.den=(aV a.num++[47])++au a.den:=by simp
  rw [hc]
  simp only [go_sem,ya,yb,zp,az,u1.pu,u1.ao,u1.one,u2.pu,u2.ao,u2.one,gg,aU,i1,aP,yd,ru,Cs,e1,e2,gH (a:=aV a.num) (b:=[47]) (by simp;omega),gH (a:=aV a.num++[47]) (b:=au a.den) (by simp;omega)]
end
end
section
open Go (IntKind)
def aEm {n:Nat} (h:n<9223372036854775808):binOp .and (.int .i64 (n:Int)) (.int .i64 1)=some (.int .i64 ((n%2:Nat):Int)):=by
 show some (AV.int .i64 (IntKind.wrap .i64 ((xI 64 (n:Int)&&&xI 64 1).toNat:Int)))=_
 rw [show xI 64 (n:Int)=uh 64 n from BitVec.ofInt_natCast 64 n,show xI 64 1=uh 64 1 from rfl];rw [BitVec.toNat_and,vh,vh,show (1%2^64:Nat)=2^1-1 from rfl,Nat.and_two_pow_sub_one_eq_mod,wrapN (by omega)]
 grind
def aEn (n:Nat):binOp .shr (.int .i64 (n:Int)) (.int .u64 1)=some (.int .i64 ((n/2:Nat):Int)):=by
 show some (AV.int .i64 ((n:Int).fdiv (2^1)))=_
 grind
def Bd.pow {k:Nat} {z:Int} (h:Bd k z):∀e,Bd (k*e+1) (z^e)
 | 0=>by rw [tX,xG];unfold Bd;decide
 | e+1=>by
  have ih:=Bd.pow h e;rw [Int.pow_succ];exact (ih.mul h).mono (by rw [xz,yj];omega)
section
variable {P:aJ} {L:Lib}
def aBa (h:Nu P L) (Sd:True) {z:Int} {K k0:Nat} (hz:Bd K z) (hK:K*k0+1<=30000000000) {o1 o2:AV}:
  ∀m st,(∃(k i e:Nat) (s1 s2:Int) (w1 w2:AV),bS [1,2,4,5] st=⟨[(1,ab k),(2,.ptr 0 0),(4,.ptr 1 0),(5,.ptr 2 0)],[(2,.cells true true true 2 [ab s2,w2]),(1,.cells true true true 2 [o1,o2]),(0,.cells true true true 2 [ab s1,w1])],3,0⟩/\cx s1 w1 (z^i)/\cx s2 w2 (z^e)/\e+i*k=k0/\(0<k->i<=k0)/\k<9223372036854775808/\k=m)->
   ∃ex st',D P L (.loop [1,2,4,5] D5) st=some (ex,st')/\∃tm s2 w2 c0,st'=⟨tm,[(2,.cells true true true 2 [ab s2,w2]),(1,.cells true true true 2 [o1,o2]),(0,c0)],3,0⟩/\ex= .exit 0/\ak tm 4= .ptr 1 0/\ak tm 5= .ptr 2 0/\cx s2 w2 (z^k0):=by
 refine cR (I:=fun m st=>∃(k i e:Nat) (s1 s2:Int) (w1 w2:AV),st=⟨[(1,ab k),(2,.ptr 0 0),(4,.ptr 1 0),(5,.ptr 2 0)],[(2,.cells true true true 2 [ab s2,w2]),(1,.cells true true true 2 [o1,o2]),(0,.cells true true true 2 [ab s1,w1])],3,0⟩/\cx s1 w1 (z^i)/\cx s2 w2 (z^e)/\e+i*k=k0/\(0<k->i<=k0)/\k<9223372036854775808/\k=m)
  (Q:=fun ex st'=>∃tm s2 w2 c0,st'=⟨tm,[(2,.cells true true true 2 [ab s2,w2]),(1,.cells true true true 2 [o1,o2]),(0,c0)],3,0⟩/\ex= .exit 0/\ak tm 4= .ptr 1 0/\ak tm 5= .ptr 2 0/\cx s2 w2 (z^k0)) ?_
 rintro m st ⟨k,i,e,s1,s2,w1,w2,rfl,h1,h2,hk,hi,hkb,rfl⟩;obtain ⟨l1,u1⟩:=h1.aK;obtain ⟨l2,u2⟩:=h2.aK;by_cases hk0:k=0
 ·right
  subst hk0;rw [xG,yW] at hk;subst hk;simp only [go_sem,D5,show ¬(0:Int)<((0:Nat):Int) by omega];exact ⟨_,_,rfl,by simp,_,s2,w2,_,rfl,rfl,by simp only [go_sem,ya],by simp only [go_sem,ya],h2⟩
 ·left
  have fy:=hi (by omega);have he:e<=k0:=by omega
  have hik:i*1<=i*k:=yT i (by omega);have b1:Bd (K*k0+1) (z^i):=(hz.pow i).mono (by have:=yT K fy;omega);have b2:Bd (K*k0+1) (z^e):=(hz.pow e).mono (by have:=yT K he;omega);have n1:cu (.agg [ab s1,w1]) (z^i):=⟨s1,w1,rfl,h1⟩;have n2:cu (.agg [ab s2,w2]) (z^e):=⟨s2,w2,rfl,h2⟩;obtain ⟨p,e1,hp⟩:=oL h n2 n1 b2 b1 (by omega);obtain ⟨q,e2,hq⟩:=oL h n1 n1 b1 b1 (by omega);rw [<-Int.pow_add] at hp hq;obtain ⟨s3,w3,rfl,h3⟩:=hp;obtain ⟨s4,w4,rfl,h4⟩:=hq;obtain ⟨l3,u3⟩:=h3.aK;obtain ⟨l4,u4⟩:=h4.aK;have fK:=xM k 2;have NQ:=aEm (n:=k) hkb;have o2':=aEn k;have aKF:(i+i)*(k/2)=i*(2*(k/2)):=by rw [<-Nat.two_mul,Nat.mul_comm 2 i,Nat.mul_assoc]
  by_cases aEo:k%2=1
  ·rw [aEo] at NQ fK;have zc:i*k=i*(2*(k/2))+i:=by
    conv=>lhs;rw [<-fK,xz,yj]
   by_cases nT:1<k
   ·simp only [go_sem,ya,D5,show (0:Int)<(k:Int) by omega,NQ,show ((1:Nat):Int)=1 from rfl,bL,aU,u1.ao,u2.ao,e1,bq,bL,ye,cJ u3,cJ u4,show (1:Int)<(k:Int) by omega,e2,o2']
    exact ⟨_,k/2,rfl,by omega,k/2,i+i,e+i,s4,s3,w4,w3,by simp only [go_sem,ya,yb,aH],h4,h3,by omega,fun h0=>by have:=yT (i+i) h0;omega,by omega,rfl⟩
   ·have fO:e+i+i*(k/2)=k0:=by
     have h1:k/2=0:=by omega
     rw [h1] at zc ⊢;omega
    simp only [go_sem,ya,D5,show (0:Int)<(k:Int) by omega,NQ,show ((1:Nat):Int)=1 from rfl,bL,aU,u1.ao,u2.ao,e1,bq,bL,ye,cJ u3,show ¬(1:Int)<(k:Int) by omega,o2'];exact ⟨_,k/2,rfl,by omega,k/2,i,e+i,s1,s3,w1,w3,by simp only [go_sem,ya,yb,aH],h1,h3,fO,fun h0=>by omega,by omega,rfl⟩
  ·have Fu:k%2=0:=by omega
   rw [Fu] at NQ fK;have zc:i*k=i*(2*(k/2)):=by
    conv=>lhs;rw [<-fK,yW]
   simp only [go_sem,ya,D5,show (0:Int)<(k:Int) by omega,NQ,show ((0:Nat):Int)=0 from rfl,tj,bL,aU,u1.ao,bq,bL,ye,cJ u4,show (1:Int)<(k:Int) by omega,e2,o2']
   exact ⟨_,k/2,rfl,by omega,k/2,i+i,e,s4,s2,w4,w2,by simp only [go_sem,ya,yb,aH],h4,h2,by omega,fun h0=>by have:=yT (i+i) h0;omega,by omega,rfl⟩
def abB (h:Nu P L) (MM:Has P L 155 Qn) {v:AV} {z:Int} {K k:Nat} (hv:cu v z) (hz:Bd K z) (hK:K*k+1<=30000000000) (hk:k<9223372036854775808):∃r,ai P L 155 [v,ab k] r/\cu r (z^k):=by
 obtain ⟨o1,o2⟩:=rH h (z:=1) (by decide) (by decide);obtain ⟨s1,w1,rfl,h1⟩:=hv;obtain ⟨l1,u1⟩:=h1.aK;have un:=od;have iz:∃s w,ai P L 155 [.agg [ab s1,w1],ab k] (.agg [ab s,w])/\cx s w (z^k):=by
  unfold ai;rw [ax MM];simp only [go_sem,ya,yb,Qn,az,u1.pu,u1.one,o1,bq,cJ un];generalize hq:D P L (.loop [1,2,4,5] D5) _=q;obtain ⟨ex,st,rfl,tm,s5,w5,c1,rfl,rfl,t4,t5,h5⟩:=cG hq (aBa (P:=P) (L:=L) h trivial hz (k0:=k) hK (o1:= .int .i64 0) (o2:= .aa) k) ⟨k,1,0,s1,1,w1,.aa,by simp only [go_sem,ya,yb,aH],by rw [Int.pow_one];exact h1,.inl ⟨rfl,(tX z).symm,(by rw [tX];decide)⟩,by omega,fun h0=>h0,hk,rfl⟩
  obtain ⟨l5,u5⟩:=h5.aK;refine ⟨s5,w5,?_,h5⟩;simp only [go_sem,ya,yb,aH,t4,t5,di,dj,bL,ye,kC u5,cJ u5]
 obtain ⟨s,w,e,hn⟩:=iz;exact ⟨_,e,s,w,rfl,hn⟩
def Kr:∀(l m:List Nat) (a:Nat),cW (l++m) a=(cW l a).bind (fun v=>cW m v)
 | [],m,a=>rfl
 | b::l,m,a=>by
  simp only [List.cons_append,cW]
  cases (yG 48 b&&yG b 57) with
  | true=>exact Kr l m _
  | false=>rfl
def avl:∀{l:List Nat} {a v:Nat},cW l 0=some v->cW l a=some (a*10^l.length+v):=by
 intro l
 suffices h:∀{l:List Nat} {a b v:Nat},cW l b=some v->b*10^l.length<=v/\cW l (a+b)=some (a*10^l.length+v) by
  intro a v hv
  have:=(h (a:=a) hv).2
  grind
 intro l
 induction l with
 | nil=>intro a b v h;simp [cW] at h ⊢;omega
 | cons c l ih=>
  intro a b v h;simp only [cW] at h ⊢
  cases hb:(yG 48 c&&yG c 57) with
  | false=>rw [hb] at h;cases h
  | true=>
   rw [hb] at h;obtain ⟨h1,h2⟩:=ih (a:=10*a) h;simp only [yx,xh]
   grind
def VI:∀{l:List Nat} {v:Nat},cW l 0=some v->v<10^l.length:=by
 suffices h:∀{l:List Nat} {b v:Nat},cW l b=some v->v<(b+1)*10^l.length by
  grind
 intro l
 induction l with
 | nil=>intro b v h;simp [cW] at h ⊢;omega
 | cons c l ih=>
  intro b v h;simp only [cW] at h
  cases hb:(yG 48 c&&yG c 57) with
  | false=>rw [hb] at h;cases h
  | true=>
   simp only [Bool.and_eq_true] at hb;have hc:=Nat.le_of_ble_eq_true hb.2;have h2:=Nat.mul_le_mul_right (10^l.length) (show 10*b+(c-48)+1<=10*(b+1) by omega)
   grind
def axr (abz:L.pure 154=some LB) {f:cN} {s:List Nat} {v:Nat} (h0:0<s.length) (h1:s.length<=18) (hv:cW s 0=some v):bZ P L f 154 [.str s]=some (.af [.int .i64 v,.undef]):=by
 rw [jt abz];show (bif yL 0 s.length&&yG s.length 18 then (match cW s 0 with | some n=>some (AV.af [.int .i64 n,.undef]) | none=>none) else none)=_
 rw [lk h0,yy h1,hv];rfl
end
end
section
open Go (IntKind)
def afN:∀j:Nat,gZ [48] j++[48]=[48]++gZ [48] j
 | 0=>rfl
 | j+1=>by
  show ([48]++gZ [48] j)++[48]=[48]++([48]++gZ [48] j)
  rw [xD,afN j]
def Gc:∀j:Nat,(gZ [48] j).length=j
 | 0=>rfl
 | j+1=>by show ([48]++gZ [48] j).length=_;rw [yU,Gc j];simp;omega
def atg:∀(k n:Nat),n<10^k->0<k->iK k n=gZ [48] (k-(au n).length)++au n:=by
 intro k
 induction k with
 | zero=>intro n _ h;omega
 | succ k ih=>
  intro n hn _;rw [iK];by_cases iS:n<10
  ·rw [n9 iS,yP iS]
   cases k with
   | zero=>rfl
   | succ k=>
    rw [ih (n/10) (by rw [wj iS];exact tU (by decide)) (by omega),wj iS]
    rw [show au 0=[48] by decide];rw [afN];rfl
  ·have hk:0<k:=by
    grind
   rw [ih (n/10) (by rw [xh] at hn;omega) hk,po iS,xD,yU]
   grind
def ath {m d r:Nat} (hd:d=m/1000000000000000000) (hr:r=m%1000000000000000000):(0<d->au m=au d++(gZ [48] (18-(au r).length)++au r))/\(d=0->au m=au r):=by
 have hrb:r<10^18:=by omega
 constructor
 ·intro h0;rw [<-atg 18 r hrb (by decide),<-OO 18 d r h0 hrb]
  grind
 ·grind
section
variable {P:aJ} {L:Lib}
def aBb {f:cN} (h:L.pure 138=some BH) {n:Nat} (hn:n<18446744073709551616):bZ P L f 138 [uc n,ab 10]=some (.str (au n)):=by
 rw [jt h];show (bif yL n 18446744073709551616 then some (AV.str (au n)) else none)=_
 rw [lk hn];rfl
def Wa {f:cN} (h:L.pure 139=some BW) {n:Nat} (hn:n<=100):bZ P L f 139 [.str [48],ab (n:Nat)]=some (.str (gZ [48] n)):=by
 rw [jt h];show (bif yG n 1099511627776&&yG (1*n) 1099511627776 then some (AV.str (gZ [48] n)) else none)=_
 rw [yy (by omega),yy (by omega)];rfl
def aBc (h:Wd P L) (E4:L.pure 138=some BH) (AM:L.pure 139=some BW) {neg:Bool} {M K:Nat} (hM0:0<M) (hK:K<=4000000000) (hlen:(au M).length<=300000000000):
  ∀k s,(∃(m:Nat) (w:AV) (ps:List (List Nat)) (fl:Bool),m=k/\WN w m/\m<18446744073709551616^K/\au M=(if m=0 then [] else au m)++ps.reverse.flatten/\((ps=[]->m=M)/\18*ps.length<=(au M).length+18)/\(m≠0->18*ps.length+(au m).length=(au M).length)/\
    ((ps=[]/\bS [3,4,5,6] s=⟨[(3,.bool neg),(4,w),(5,.ay 0 0 1),(6,.aa)],[(0,.cells fl true true 1 [uc 1000000000000000000])],1,0⟩)\/
    (ps≠[]/\bS [3,4,5,6] s=⟨[(3,.bool neg),(4,w),(5,.ay 0 0 1),(6,.ay 1 0 ps.length)],[(1,.cells true true false 1 (ps.map .str)),(0,.cells fl true true 1 [uc 1000000000000000000])],2,0⟩)))->
   ∃ex s',D P L (.loop [3,4,5,6] pQ) s=some (ex,s')/\∃tm ps fl,ex= .exit 0/\ps≠[]/\ps.length<=300000000000/\au M=ps.reverse.flatten/\ak tm 3= .bool neg/\ak tm 6= .ay 1 0 ps.length/\s'=⟨tm,[(1,.cells true true false 1 (ps.map .str)),(0,.cells fl true true 1 [uc 1000000000000000000])],2,0⟩:=by
 refine cR (I:=fun k s=>∃(m:Nat) (w:AV) (ps:List (List Nat)) (fl:Bool),m=k/\WN w m/\m<18446744073709551616^K/\au M=(if m=0 then [] else au m)++ps.reverse.flatten/\((ps=[]->m=M)/\18*ps.length<=(au M).length+18)/\(m≠0->18*ps.length+(au m).length=(au M).length)/\
    ((ps=[]/\s=⟨[(3,.bool neg),(4,w),(5,.ay 0 0 1),(6,.aa)],[(0,.cells fl true true 1 [uc 1000000000000000000])],1,0⟩)\/
    (ps≠[]/\s=⟨[(3,.bool neg),(4,w),(5,.ay 0 0 1),(6,.ay 1 0 ps.length)],[(1,.cells true true false 1 (ps.map .str)),(0,.cells fl true true 1 [uc 1000000000000000000])],2,0⟩))) (Q:=fun ex s'=>∃tm ps fl,ex= .exit 0/\ps≠[]/\ps.length<=300000000000/\au M=ps.reverse.flatten/\ak tm 3= .bool neg/\ak tm 6= .ay 1 0 ps.length/\s'=⟨tm,[(1,.cells true true false 1 (ps.map .str)),(0,.cells fl true true 1 [uc 1000000000000000000])],2,0⟩) ?_
 rintro k s ⟨m,w,ps,fl,rfl,hw,hmK,Bw,anD,kO,hs⟩;obtain ⟨lw,uw,gw,nw,vw⟩:=hw;by_cases hm:m=0
 ·right
  have kM:lw=[]:=List.eq_nil_of_length_eq_zero (Nat.le_zero.1 (oK (K:=0) nw vw (by rw [hm];decide)))
  subst kM;rw [yz hm,xZ] at Bw;have fQ:ps≠[]:=fun e=>by have:=anD.1 e;omega
  have Tu:ps.length<=300000000000:=by have:=anD.2;omega
  rcases hs with ⟨h0,_⟩ | ⟨_,rfl⟩
  ·exact absurd h0 fQ
  ·simp only [go_sem,ya,pQ,uw.len,yJ,show ¬(0:Int)<((0:Nat):Int) by omega];exact ⟨_,_,rfl,by simp,_,ps,fl,rfl,fQ,Tu,Bw,by simp only [go_sem,ya],by simp only [go_sem,ya],rfl⟩
 ·left
  have hw:WN w m:=⟨lw,uw,gw,nw,vw⟩;have hB:WN (.ap true 1 [uc 1000000000000000000]) 1000000000000000000:=⟨[1000000000000000000],ns true [1000000000000000000],GK.2 (by decide),by decide,by simp [bv]⟩;obtain ⟨q,r,e1,hq,hr⟩:=anq h hw hB (K:=K+1) (by decide) (yO hmK (xx (by decide) (by omega))) (by rw [xh];have:=tU (n:=K) (show 0<18446744073709551616 by decide);omega) (by omega)
  obtain ⟨t1,t2⟩:=ath (m:=m) rfl rfl;have fK:=xM m 1000000000000000000;have hrB:=xr m (show 0<1000000000000000000 by decide);obtain ⟨d,hd⟩:∃d,d=m/1000000000000000000:=⟨_,rfl⟩;obtain ⟨x,hx⟩:∃x,x=m%1000000000000000000:=⟨_,rfl⟩;rw [<-hd] at hq t1 t2 fK;rw [<-hx] at hr t1 t2 fK hrB;obtain ⟨lq,uq,gq,nq,vq⟩:=hq;obtain ⟨lr,ur,gr,nr,vr⟩:=hr;have hxl:(au x).length<=18:=se (k:=17) (by omega);have hxp:=sf x;have NC:(lr=[]/\x=0)\/lr=[x]:=by
   have h1:lr.length<=1:=oK (K:=1) nr vr (by rw [Nat.pow_one];omega)
   cases lr with
   | nil=>exact .inl ⟨rfl,by rw [<-vr];rfl⟩
   | cons a l=>
    cases l with
    | nil=>rw [Ce] at vr;exact .inr (by rw [vr])
    | cons b l=>simp at h1
  have IQ:(lq=[]/\d=0)\/(0<lq.length/\0<d):=by
   cases lq with
   | nil=>exact .inl ⟨rfl,by rw [<-vq];rfl⟩
   | cons a l=>
    refine .inr ⟨by simp,?_⟩;rcases Nat.eq_zero_or_pos d with h0 | h0
    ·have:=oK (K:=0) nq vq (by rw [h0];decide)
     simp at this
    ·exact h0
  unfold ai at e1;have Du:(0:Int)<(lw.length:Int):=by
   have:lw≠[]:=fun e=>by subst e;simp [bv] at vw;omega
   have:=List.length_pos_iff.2 this
   omega
  have aKR:=kO hm;have hmp:=sf m;have new:∀t:List Nat,au m=(if d=0 then [] else au d)++t->(d≠0->t.length=18)->
    au M=(if d=0 then [] else au d)++(ps++[t]).reverse.flatten/\((ps++[t]=[]->d=M)/\18*(ps++[t]).length<=(au M).length+18)/\(d≠0->18*(ps++[t]).length+(au d).length=(au M).length):=fun t h1 h2=>by
   rw [yp hm,h1] at Bw;refine ⟨by rw [Bw];simp,⟨by simp,by simp only [yU,yx,yJ];omega⟩,fun h0=>?_⟩
   have h3:=congrArg List.length h1;rw [yp h0,yU,h2 h0] at h3;simp only [yU,yx,yJ];omega
  have CX:d<m:=by omega
  have Dv:WN q d:=⟨lq,uq,gq,nq,vq⟩;have oX:lr=[x]->kw 1 0 r=some (.cz (.int .u64 x::([]:List AV))):=fun e=>by
   subst e
   have:=ur.bz (i:=0) (by simp)
   simpa using this
  have f1:=aBb (P:=P) (f:=D P L) E4 (n:=x) (by omega);have f2:=Wa (P:=P) (f:=D P L) AM (n:=18-(au x).length) (by omega);have abC:(18:Int)-((au x).length:Int)=((18-(au x).length:Nat):Int):=by omega
  have aKS:18*ps.length<=300000000000:=by omega
  have zl:(gZ [48] (18-(au x).length)++au x).length=18:=by rw [yU,Gc];omega
  obtain ⟨z,hz⟩:∃z,z=au x:=⟨_,rfl⟩;have jK:x=0->z=[48]:=fun e=>by rw [hz,e];decide
  rw [<-hz] at f1 f2 abC hxl hxp zl t1 t2;cases fl
  all_goals
   rcases IQ with ⟨rfl,gS⟩ | ⟨Tv,gS⟩
   ·obtain ⟨n1,n2,n3⟩:=new z (by rw [yz gS,xZ];exact t2 gS) (fun h=>absurd gS h)
    rcases NC with ⟨rfl,Bq⟩ | rfl
    ·have mo:=jK Bq;clear hz;subst mo;rcases hs with ⟨iB,rfl⟩ | ⟨iB,rfl⟩
     ·subst iB;simp only [go_sem,ya,yb,xT,yr,yi,yj,pQ,uw.len,uw.ao,uq.len,uq.b6,ur.len,ur.b6,Du,e1,yJ,yJ,show ¬(0:Int)<((0:Nat):Int) by omega,nl];refine ⟨_,d,rfl,CX,d,q,[]++[[48]],false,rfl,Dv,by omega,n1,n2,n3,.inr ⟨by simp,?_⟩⟩;simp only [go_sem,ya,yb,aH,aR uq.pu,aW _ uq.pu]<;>rfl
     ·simp only [go_sem,ya,yb,yr,yi,yj,pQ,uw.len,uw.ao,uq.len,uq.b6,ur.len,ur.b6,Du,e1,yJ,yJ,show ¬(0:Int)<((0:Nat):Int) by omega]
      rw [my (ex:=false) (pu:=true) (cs:=ps.map .str) (by simp only [go_sem,ya]) (by simp) (by omega) (by omega) (by decide) (by simp only [go_sem])];simp only [go_sem,ya,yb];refine ⟨_,d,rfl,CX,d,q,ps++[[48]],false,rfl,Dv,by omega,n1,n2,n3,.inr ⟨by simp,?_⟩⟩;rw [xR,yU];simp only [go_sem,ya,yb,aH,aR uq.pu,aW _ uq.pu]<;>rfl
    ·rcases hs with ⟨iB,rfl⟩ | ⟨iB,rfl⟩
     ·subst iB;simp only [go_sem,ya,yb,xT,yr,yi,yj,pQ,uw.len,uw.ao,uq.len,uq.b6,ur.len,ur.b6,Du,e1,yx,yJ,yd,show (0:Int)<((1:Nat):Int) by omega,oX rfl,f1,yJ,show ¬(0:Int)<((0:Nat):Int) by omega,nl];refine ⟨_,d,rfl,CX,d,q,[]++[z],false,rfl,Dv,by omega,n1,n2,n3,.inr ⟨by simp,?_⟩⟩;simp only [go_sem,ya,yb,aH,aR uq.pu,aW _ uq.pu]<;>rfl
     ·simp only [go_sem,ya,yb,yr,yi,yj,pQ,uw.len,uw.ao,uq.len,uq.b6,ur.len,ur.b6,Du,e1,yx,yJ,yd,show (0:Int)<((1:Nat):Int) by omega,oX rfl,f1,yJ,show ¬(0:Int)<((0:Nat):Int) by omega]
      rw [my (ex:=false) (pu:=true) (cs:=ps.map .str) (by simp only [go_sem,ya]) (by simp) (by omega) (by omega) (by decide) (by simp only [go_sem])];simp only [go_sem,ya,yb];refine ⟨_,d,rfl,CX,d,q,ps++[z],false,rfl,Dv,by omega,n1,n2,n3,.inr ⟨by simp,?_⟩⟩;rw [xR,yU];simp only [go_sem,ya,yb,aH,aR uq.pu,aW _ uq.pu]<;>rfl
   ·obtain ⟨n1,n2,n3⟩:=new (gZ [48] (18-z.length)++z) (by rw [yp (by omega)];exact t1 gS) (fun _=>zl)
    rcases NC with ⟨rfl,Bq⟩ | rfl
    ·have mo:=jK Bq;clear hz;subst mo;rcases hs with ⟨iB,rfl⟩ | ⟨iB,rfl⟩
     ·subst iB
      simp only [go_sem,ya,yb,xT,yr,yi,yj,pQ,uw.len,uw.ao,uq.len,uq.b6,ur.len,ur.b6,Du,e1,yJ,show ¬(0:Int)<((0:Nat):Int) by omega,show (0:Int)<(lq.length:Int) by omega,show (18:Int)-((1:Nat):Int)=((17:Nat):Int) from rfl,wrapN (n:=17) (by omega),Wa (P:=P) (f:=D P L) AM (n:=17) (by omega),gH (a:=gZ [48] 17) (b:=[48]) (by rw [Gc];decide),nl]
      refine ⟨_,d,rfl,CX,d,q,[]++[gZ [48] 17++[48]],false,rfl,Dv,by omega,n1,n2,n3,.inr ⟨by simp,?_⟩⟩;simp only [go_sem,ya,yb,aH,aR uq.pu,aW _ uq.pu]<;>rfl
     ·simp only [go_sem,ya,yb,yr,yi,yj,pQ,uw.len,uw.ao,uq.len,uq.b6,ur.len,ur.b6,Du,e1,yJ,show ¬(0:Int)<((0:Nat):Int) by omega,show (0:Int)<(lq.length:Int) by omega,show (18:Int)-((1:Nat):Int)=((17:Nat):Int) from rfl,wrapN (n:=17) (by omega),Wa (P:=P) (f:=D P L) AM (n:=17) (by omega),gH (a:=gZ [48] 17) (b:=[48]) (by rw [Gc];decide)]
      rw [my (ex:=false) (pu:=true) (cs:=ps.map .str) (by simp only [go_sem,ya]) (by simp) (by omega) (by omega) (by decide) (by simp only [go_sem])];simp only [go_sem,ya,yb];refine ⟨_,d,rfl,CX,d,q,ps++[gZ [48] 17++[48]],false,rfl,Dv,by omega,n1,n2,n3,.inr ⟨by simp,?_⟩⟩;rw [xR,yU];simp only [go_sem,ya,yb,aH,aR uq.pu,aW _ uq.pu]<;>rfl
    ·rcases hs with ⟨iB,rfl⟩ | ⟨iB,rfl⟩
     ·subst iB
      simp only [go_sem,ya,yb,xT,yr,yi,yj,pQ,uw.len,uw.ao,uq.len,uq.b6,ur.len,ur.b6,Du,e1,yx,yJ,yd,show (0:Int)<((1:Nat):Int) by omega,oX rfl,f1,show (0:Int)<(lq.length:Int) by omega,abC,wrapN (n:=18-z.length) (by omega),f2,gH (a:=gZ [48] (18-z.length)) (b:=z) (by rw [Gc];omega),nl];refine ⟨_,d,rfl,CX,d,q,[]++[gZ [48] (18-z.length)++z],false,rfl,Dv,by omega,n1,n2,n3,.inr ⟨by simp,?_⟩⟩;simp only [go_sem,ya,yb,aH,aR uq.pu,aW _ uq.pu]<;>rfl
     ·simp only [go_sem,ya,yb,yr,yi,yj,pQ,uw.len,uw.ao,uq.len,uq.b6,ur.len,ur.b6,Du,e1,yx,yJ,yd,show (0:Int)<((1:Nat):Int) by omega,oX rfl,f1,show (0:Int)<(lq.length:Int) by omega,abC,wrapN (n:=18-z.length) (by omega),f2,gH (a:=gZ [48] (18-z.length)) (b:=z) (by rw [Gc];omega)]
      rw [my (ex:=false) (pu:=true) (cs:=ps.map .str) (by simp only [go_sem,ya]) (by simp) (by omega) (by omega) (by decide) (by simp only [go_sem])];simp only [go_sem,ya,yb];refine ⟨_,d,rfl,CX,d,q,ps++[gZ [48] (18-z.length)++z],false,rfl,Dv,by omega,n1,n2,n3,.inr ⟨by simp,?_⟩⟩;rw [xR,yU];simp only [go_sem,ya,yb,aH,aR uq.pu,aW _ uq.pu]<;>rfl
end
end
section
open Go (IntKind)
def rI:Nat->VC->VC
 | 0,c=>bC c
 | n+1,c=> .seq (bC c) (rI n (aD c))
def Cu:Nat->VC->VC
 | 0,c=>aD c
 | n+1,c=>Cu n (aD c)
def anE:Nat->VC->Prop
 | 0,c=>c= .seq (bC c) (aD c)
 | n+1,c=>c= .seq (bC c) (aD c)/\anE n (aD c)
def ajQ {P:aJ} {L:Lib}:∀(n:Nat) {c:VC},anE n c->∀s,D P L c s=nF P L (D P L (rI n c) s) (Cu n c)
 | 0,c,h,s=>by
  conv=>lhs;rw [show c= .seq (bC c) (aD c) from h]
  rw [kA];rfl
 | n+1,c,h,s=>by
  conv=>lhs;rw [show c= .seq (bC c) (aD c) from h.1]
  show _=nF P L (D P L (.seq (bC c) (rI n (aD c))) s) (Cu n (aD c))
  rw [kA,kA]
  cases D P L (bC c) s with
  | none=>rfl
  | some q=>
   obtain ⟨ex,st⟩:=q
   cases ex with
   | normal=>rw [fY,fY];exact ajQ n h.2 st
   | ret=>rfl
   | exit id=>rfl
end
section
open Go (IntKind)
section
variable {P:aJ} {L:Lib}
def arE (h:Nu P L) (E4:L.pure 138=some BH) (AM:L.pure 139=some BW) {s z:Int} {e:Bool} {l:List Nat} (hn:cx s (.ap e l.length (l.map uc)) z) {K:Nat} (mo:0<z.natAbs) (Tw:z.natAbs<18446744073709551616^K) (hK:K<=4000000000) (hlen:(au z.natAbs).length<=300000000000):
  ∃ps:List (List Nat),ps≠[]/\ps.length<=300000000000/\au z.natAbs=ps.reverse.flatten/\D P L (rI 5 Fv.body) ⟨[(0,.agg [ab s,.ap e l.length (l.map uc)])],[],0,0⟩=some (.normal,⟨[(3,.bool (decide (z<0))),(6,.ay 0 0 ps.length)],[(0,.cells true true false 1 (ps.map .str))],1,0⟩):=by
 obtain ⟨r,e1,hr⟩:=AL h hn;have cM:=hr;obtain ⟨lr,ur,gr,nr,vr⟩:=hr;simp only [go_sem,ya,yb,yi,yj,Fv,rI,bC,aD,az,aP,yd,bj,ox,cY,bL,aU,e1];generalize mX:D P L (.loop [3,4,5,6] pQ) _=qq;obtain ⟨ex,st,rfl,tm,ps,fl,rfl,fQ,Tu,Bw,t3,t6,rfl⟩:=cG mX (aBc (P:=P) (L:=L) h.toWd E4 AM (neg:=decide (z<0)) (M:=z.natAbs) (K:=K) mo hK hlen z.natAbs) ⟨z.natAbs,b6 r,[],true,rfl,cM,Tw,by rw [yp (by omega)];simp,⟨fun _=>rfl,by simp⟩,fun _=>by simp,.inl ⟨rfl,by
  simp only [go_sem,ya,yb,aH,aR ur.pu,aW _ ur.pu]<;>rfl⟩⟩
 refine ⟨ps,fQ,Tu,Bw,?_⟩;simp only [go_sem,yb,aH,t3,t6]
end
end
section
open Go
variable {O:bw}
def Al:Nat->wO->wO
 | 0,.seq _ b=>b
 | n+1,.seq _ b=>Al n b
 | _,c=>c
def Sh:Nat->wO->Prop
 | 0,.seq _ _=>True
 | n+1,.seq _ b=>Sh n b
 | _,_=>False
def agD (hO:ep O) {h:Nat} {c:wO} {l k:Nat} {s:St} {ex:Ex} {s':St} (hv:D O.prog O.aE (comp O.P (O.hint h) c l k).1 s=some (ex,s')):Cn O h c s ex s':=by
 obtain ⟨n,hn⟩:=abd hv
 cases n with
 | zero=>rw [KC] at hn;cases hn
 | succ n=>
  exact ahd hO n (fun k _=>aek hO k) h c l k n (yA _) s ex s' hn
def ak0 (hO:ep O) {h:Nat} {ro:Option Nat} {lo:Nat} {Q:Exit->Act->yh->Prop}:∀(n:Nat) (c:wO) (l k:Nat),Sh n c->∀(s s1:St),D O.prog O.aE (rI n (comp O.P (O.hint h) c l k).1) s=some (.normal,s1)->
  ∀(m:Mp) (S:Nat->Prop) (w:yh) (a:Act),Aa ro w->cA O m S w s.tm a.tmps->aX O m S w s.hp s.ct->s.base<=s.ct->(O.hint h).n<=a.tmps.size->O.w0.heap.size<=lo->lo<=w.heap.size->Marks lo S w a.defers->
  (∀a' w',eW O m S w s .normal s1 a.tmps.size lo .normal a' w'->(Al n c).wpIn (WF ro) 0 O.P Q a' w')->c.wpIn (WF ro) 0 O.P Q a w
 | n,c,l,k,hc,s,s1,hv=>by
  intro m S w a dw ht hh hb hn a8 fo cV hQ
  cases c with
  | seq x y=>
   cases n with
   | zero=>
    refine wpIn_seq (wpIn_mono (agD hO (show D O.prog O.aE (comp O.P (O.hint h) x l k).1 s=some (.normal,s1) from hv) ro lo m S w a dw ht hh hb hn a8 fo cV) ?_);rintro e a' w' hp;have he:e= .normal:=hp.1;subst he;exact hQ a' w' hp
   | succ n=>
    have eK:D O.prog O.aE (.seq (comp O.P (O.hint h) x l k).1 (rI n (comp O.P (O.hint h) y (comp O.P (O.hint h) x l k).2.1 (comp O.P (O.hint h) x l k).2.2).1)) s=some (.normal,s1):=hv;rw [kA] at eK
    cases hx:D O.prog O.aE (comp O.P (O.hint h) x l k).1 s with
    | none=>rw [hx] at eK;cases eK
    | some q=>
     obtain ⟨ex,st⟩:=q;rw [hx] at eK
     cases ex with
     | ret=>exact absurd eK (by intro h;cases h)
     | exit id=>exact absurd eK (by intro h;cases h)
     | normal=>
      refine wpIn_seq (wpIn_mono (agD hO hx ro lo m S w a dw ht hh hb hn a8 fo cV) ?_);rintro e a' w' ⟨rfl,m',S',k1,k2,k3,k4,k5,k6,k7⟩;refine ak0 hO n y _ _ hc st s1 eK m' S' w' a' (Ou k5 dw) k1 k2 (by omega) (by omega) a8 (yS fo k5.size) k7 ?_;rintro a2 w2 ⟨_,m2,S2,g1,g2,g3,g4,g5,g6,g7⟩;exact hQ a2 w2 ⟨rfl,m2,S2,g1,g2,by omega,by omega,k5.trans (by rw [<-k3];exact g5),by omega,g7⟩
  | _=>cases n<;>exact hc.elim
def aBd (hO:ep O) {n:Nat} {F:aI} (hF:O.prog n=some F) {fn:ybo} {c:wO} (gR:O.P.funcs[O.aj n]? =some fn) (jn:fn.body=some c) {hp:Hp} {ct:Nat} {av:List AV} {s:St}
  (hc:(comp O.P (O.hint n) c 0 0).1=F.body->∀m S w a,cA O m S w (fL 0 av) a.tmps->aX O m S w hp ct->(O.hint n).n<=a.tmps.size->a.tmps.size=max fn.ntmps av.length->O.w0.heap.size<=w.heap.size->a.defers=[]->
   c.wpIn (WF none) 0 O.P (eW O m S w ⟨fL 0 av,hp,ct,ct⟩ .ret s a.tmps.size w.heap.size) a w) {v:AV} (hr:iX s F.dU=some v):Cm O n hp ct av v s.hp s.ct:=by
 intro m S w args hh gW;obtain ⟨fn',q1,q2,q3⟩:=hO.prog n F hF;rw [gR] at q1;cases q1;obtain ⟨c',q4,q5,q6,q7⟩:=Ub q2;rw [jn] at q4;cases q4;refine .inl ⟨OL gR (by rw [jn];rfl) q3,?_⟩
 have hlen:av.length=args.size:=by have:=(iY _ _ gW).symm;simpa using this
 have hw:=hc q5.symm m S w {tmps:=args++Array.replicate (fn.ntmps-args.size) undef,defers:=[]} (afx _ gW) hh (by simp;omega) (by simp;omega) hh.fT rfl
 refine callsIn_of_wp_marks (F:=yaA) gR jn trivial (wpIn_mono hw ?_);rintro e a' w' ⟨rfl,m',S',k1,k2,k3,k4,k5,k6,rs,k7,k8,k9⟩;show LeavesInM yaA 0 O.P fn a'.tmps (zK O m S w hp ct v s.hp s.ct) a'.defers .returning w'
 rw [k7];exact UJ q6 hr k4 rs w' k8 k9 hh.fT k2 k1 k5
def avm (hO:ep O) {n:Nat} {F:aI} (hF:O.prog n=some F) {fn:ybo} {c:wO} (gR:O.P.funcs[O.aj n]? =some fn) (jn:fn.body=some c) {av:List AV} {s:St}
  (hc:(comp O.P (O.hint n) c 0 0).1=F.body->∀m S w a,cA O m S w (fL 0 av) a.tmps->aX O m S w [] 0->(O.hint n).n<=a.tmps.size->a.tmps.size=max fn.ntmps av.length->O.w0.heap.size<=w.heap.size->a.defers=[]->
   c.wpIn (WF none) 0 O.P (eW O m S w ⟨fL 0 av,[],0,0⟩ .ret s a.tmps.size w.heap.size) a w) {v r:AV} (hv:iX s F.dU=some v) (hr:result s.hp v=some r):dF O n av r:=
 TX (aBd hO hF gR jn hc hv) hr
end
section
open Go
def ae5 {aj:Nat->Nat} {m:Mp} {S:Nat->Prop} {w:yh} {b:Nat}:∀{ps:List (List Nat)} {o:Nat},b7 aj m S w (ps.map .str) b o->
  ∃ts:List ByteArray,(ts.map fun t=>t.data.toList.map xf)=ps/\∀i (h:i<ts.length),w.cell? ⟨b,o+i,none⟩=some (.string ts[i])
 | [],o,_=>⟨[],rfl,fun i h=>absurd h (Nat.not_lt_zero i)⟩
 | p::ps,o,h=>by
  obtain ⟨⟨u,h1,h2⟩,h3⟩:=h;obtain ⟨t,rfl,ht⟩:=h2;obtain ⟨ts,k1,k2⟩:=ae5 h3;refine ⟨t::ts,by rw [List.map_cons,ht,k1],fun i hi=>?_⟩
  cases i with
  | zero=>exact h1
  | succ i=>
   grind
def oM (ts:List ByteArray):List UInt8:=(ts.map fun t=>t.data.toList).flatten
def axs {ts:List ByteArray} {ps:List (List Nat)} (h:(ts.map fun t=>t.data.toList.map xf)=ps):(oM ts.reverse).map xf=ps.reverse.flatten:=by
 subst h;unfold oM;rw [List.map_flatten,ybp,<-tG];rfl
def axt {ts:List ByteArray} {ps:List (List Nat)} (h:(ts.map fun t=>t.data.toList.map xf)=ps):(ts.map (·.size)).sum=ps.reverse.flatten.length:=by
 subst h;rw [List.length_flatten,tG,List.sum_reverse,ybp]
 congr 1
 simp_all
def VJ (P:Program) (c:wO):Prop:=∀(Q:Exit->Act->yh->Prop) (a:Act) (w:yh) (neg:Bool) (ts:List ByteArray) (b o cc:Nat),a.tmps.size=69->a.tmps.getD 3 undef= .bool neg->a.tmps.getD 6 undef= .slice (some ⟨b,o,none⟩) ts.length cc->
  (∀i (h:i<ts.length),w.cell? ⟨b,o+i,none⟩=some (.string ts[i]))->(ts.map (·.size)).sum+1<=140737488355328->ts.length<=cc->ts.length<9223372036854775808->
  (∀a' w',Calm w w'->a'.tmps.size=69->a'.defers=a.defers->a'.tmps.getD 2 undef= .string ⟨((if neg then [45] else [])++oM ts.reverse).toArray⟩->Q .ret a' w')->
  (Al 5 c).wpIn Fence.wide 0 P Q a w
section
variable {O:bw}
def arF {n K:Nat} (h:n<18446744073709551616^K):(au n).length<=20*K+1:=by
 refine se (k:=20*K) (yO h ?_);have h1:(10:Nat)^(20*K)=(10^20)^K:=Nat.pow_mul ..;exact yS (by rw [h1];exact tf (by decide) K) (xx (by decide) (Nat.le_succ _))
def avn (hO:ep O) (hN:Nu O.prog O.aE) (E4:O.aE.pure 138=some BH) (AM:O.aE.pure 139=some BW) (IP:O.prog 99=some Fv) {fn:ybo} {c:wO} (gR:O.P.funcs[O.aj 99]? =some fn) (jn:fn.body=some c) (SG:fn.ntmps=69)
  (abD:Sh 5 c) (ht:VJ O.P c) {s z:Int} {e:Bool} {l:List Nat} (hn:cx s (.ap e l.length (l.map uc)) z) (mo:0<z.natAbs) (hK:l.length<=4000000000) (Tw:z.natAbs<18446744073709551616^l.length):
  dF O 99 [.agg [ab s,.ap e l.length (l.map uc)]] (.str (aV z)):=by
 have hlen:=arF Tw;obtain ⟨ps,fQ,Tu,Bw,e1⟩:=arE (P:=O.prog) (L:=O.aE) hN E4 AM hn mo Tw hK (by omega)
 refine avm hO IP gR jn (s:=⟨[(2,.str (aV z))],[(0,.cells true true false 1 (ps.map .str))],1,0⟩) (v:= .str (aV z)) ?_ rfl rfl;intro aCQ m S w a htr hh De eY hgs mY;refine ak0 hO 5 c 0 0 abD _ _ (by rw [aCQ];exact e1) m S w a (fun l hl=>by cases hl) htr hh (yA _) De hgs (yA _) ⟨[],by rw [mY];rfl,by simp,by simp⟩ ?_
 rintro a' w' ⟨_,m',S',k1,k2,k3,k4,k5,k6,k7⟩;have r3:=k1 3;have r6:=k1 6;have g3:ak [(3,AV.bool (decide (z<0))),(6,.ay 0 0 ps.length)] 3= .bool (decide (z<0)):=rfl;have g6:ak [(3,AV.bool (decide (z<0))),(6,.ay 0 0 ps.length)] 6= .ay 0 0 ps.length:=rfl;rw [g3] at r3;rw [g6] at r6;simp only [an] at r3 r6;obtain ⟨p,cc,hm,r6,hcc,_⟩:=r6;obtain ⟨p',arr,t,iR,_,_,_,_,_,Fj,_⟩:=k2.obj 0 _ p rfl hm;rw [hm] at iR;cases iR;obtain ⟨ts,qG,Ep⟩:=ae5 Fj;have nR:ts.length=ps.length:=by rw [<-qG,List.length_map]
 have CY:=axt qG;rw [<-Bw] at CY;have abE:=axs qG;rw [<-Bw] at abE;refine ht _ a' w' (decide (z<0)) ts p.b p.o cc ?_ r3 (by rw [nR];exact r6) Ep (by omega) (by omega) (by omega) ?_
 ·grind
 ·intro a2 w2 hc h1 h2 h3;have No:=F5 k2 hc (S':=S') (fun _ h=>h) (fun _ h=> .inl h) (fun b hb=>yO (k2.slt b hb) hc.size);refine ⟨rfl,m',S',?_,No,rfl,Nat.zero_le _,k5.trans (DP k2 hc (fun _ h=>h) (fun _ h=> .inl h)),?_,?_⟩
  ·intro i;by_cases hi:i=2
   ·subst hi;rw [h3];show an O.aj m' S' w2 (.str (aV z)) _
    simp only [an];refine ⟨_,rfl,?_⟩;by_cases h0:z<0
    ·rw [jZ h0,yD h0];simp only [xm,xR];rw [abE];rfl
    ·obtain ⟨n,rfl⟩:∃n:Nat,z=n:=⟨z.toNat,by omega⟩;rw [yC h0];simp only [yE,y9,xZ];rw [abE];rfl
   ·have:ak [(2,AV.str (aV z))] i= .undef:=by
     have hb:yu 2 i=false:=by
      cases hq:yu 2 i with
      | false=>rfl
      | true=>exact absurd (Nat.eq_of_beq_eq_true hq).symm hi
     simp only [ak,hb,yM]
    show an O.aj m' S' w2 (ak [(2,AV.str (aV z))] i) _
    rw [this];simp only [an]
  ·rw [h1,eY,SG];simp
  ·rw [h2]
   exact BM k2 (DP (base:=0) k2 hc (fun _ h=>h) (fun _ h=> .inl h)) k7
end
end
end VE
