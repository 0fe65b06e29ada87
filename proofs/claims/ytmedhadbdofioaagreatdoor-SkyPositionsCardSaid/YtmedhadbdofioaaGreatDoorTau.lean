import Derived.Test.YtmedhadbdofioaaGreatDoorTat
import Derived.Test.YtmedhadbdofioaaGreatDoorTah
import Derived.Test.YtmedhadbdofioaaGreatDoorTaq
import Derived.Test.YtmedhadbdofioaaGreatDoorTag
set_option linter.all false
set_option maxRecDepth 100000
open BitVec renaming ofInt→xG,ofNat→vW,toNat_ofNat→wW
open Bool renaming and_self→wp
open Go renaming Code→wI
open Go.Fence renaming wide→pm
open Int renaming ediv_emod_unique→vD,gcd→xZ,gcd_comm→ybe,mul_neg→yaU,natAbs_ediv_of_dvd→vJ,natAbs_tdiv_le_natAbs→uW,natCast_mul→wE,pow_zero→tj,reduceEq→vN
open List renaming append_assoc→xp,drop_zero→yj,length_append→yQ,length_cons→yr,length_nil→yE,map_append→xC,nil_append→wa
open Nat renaming add_zero→yX,beq→yu,ble→yG,ble_eq_true_of_le→yv,blt→yK,div_add_mod→wq,div_eq_of_lt→wH,div_le_self→vA,le_trans→xj,lt_of_le_of_lt→wJ,lt_of_lt_of_le→yN,mod_le→ybs,mod_lt→xy,mul_add→xt,mul_le_mul_left→yS,mul_one→yh,mul_zero→xF,pow_pos→ybm,pow_succ→xg,reduceAdd→yb,reduceEqDiff→ya,reduceLT→yt,reduceLeDiff→ye,reduceMul→xQ,zero_add→yd
open Rat renaming den_divInt→yay,divInt→xT,divInt_ofNat→yai,lt_iff→ybt,num_divInt→yax,sub_eq_add_neg→qr
namespace VE
section
open Go (IntKind)
def alD {a b:Int} {q r:Nat} (hb:0<b) (h:q=a.natAbs/b.natAbs) (h2:r=a.natAbs%b.natAbs):
  (ck (decide (a<0)) r<0->a/b=ck (decide (a<0)) q-1/\a%b=ck (decide (a<0)) r+b)/\(¬ck (decide (a<0)) r<0->a/b=ck (decide (a<0)) q/\a%b=ck (decide (a<0)) r):=by
 have eO:=wq a.natAbs b.natAbs;rw [<-h,<-h2] at eO;have bi:r<b.natAbs:=by rw [h2];exact xy _ (by omega)
 have e:(b:Int)*q+r=a.natAbs:=by
  have:=congrArg (fun t:Nat=>(t:Int)) eO
  simp only [Int.natCast_add,wE] at this;rw [show ((b.natAbs:Nat):Int)=b by omega] at this;exact this
 unfold ck;by_cases h0:a<0
 ·simp only [h0,yq,y5];constructor
  ·intro h3;refine (vD hb).2 ⟨?_,by omega,by omega⟩;rw [Int.mul_sub,yaU];omega
  ·intro h3;refine (vD hb).2 ⟨?_,by omega,by omega⟩;rw [yaU];omega
 ·simp only [h0,yo,Bool.false_eq_true,yO];exact ⟨fun h3=>by omega,fun _=>(vD hb).2 ⟨by omega,by omega,by omega⟩⟩
section
variable {P:aG} {L:Lib}
def asD (h:Nu P L) {s1 s2:Int} {w1 w2:AV} {a b:Int} {K:Nat} (ha:cN s1 w1 a) (hb:cN s2 w2 b) (ej:0<b) (ka:Bd K a) (kb:Bd K b) (hK:K<=30000000000):
  ∃q r,cL q (a/b)/\cL r (a%b)/\∀tm,af tm 2= .ptr 0 0->af tm 3= .ptr 1 0->af tm 4= .ptr 2 0->af tm 5= .ptr 3 0->fJ [.cell 4 2 true,.cell 5 2 true] (D P L (ax (ax iM.body)) ⟨tm,[(3,.cells true true true 2 [.int .i64 0,.ab]),(2,.cells true true true 2 [.int .i64 0,.ab]),(1,.cells true true true 2 [aa s2,w2]),(0,.cells true true true 2 [aa s1,w1])],4,0⟩)=some (.ap [q,r]):=by
 obtain ⟨l1,u1⟩:=ha.az;obtain ⟨l2,u2⟩:=hb.az;obtain ⟨p,e1,hp⟩:=zU h ha;obtain ⟨q,e2,hq⟩:=zU h hb;have cY:cL (.agg [aa s2,w2]) b:=⟨s2,w2,rfl,hb⟩;obtain ⟨lp,ij,_⟩:=hp.az;obtain ⟨lq,om,_⟩:=hq.az;have B3:=yN ka (zm K);have Gd:=yN kb (zm K);obtain ⟨dq,dr,e3,DK,jm⟩:=afY h.toWd hp hq (by omega) B3 Gd (by omega);obtain ⟨Lb,uq,_⟩:=DK.az;obtain ⟨lr1,ur,_⟩:=jm.az;have hqk:a.natAbs/b.natAbs<18446744073709551616^K:=wJ (vA _ _) B3;have hrk:a.natAbs%b.natAbs<18446744073709551616^K:=wJ (ybs _ _) B3;have hqb:a.natAbs/b.natAbs<2^K:=wJ (vA _ _) ka;have WR:a.natAbs%b.natAbs<2^K:=wJ (ybs _ _) ka;obtain ⟨f1,f2⟩:=alD (a:=a) ej rfl rfl;generalize a.natAbs/b.natAbs=Q at*
 generalize a.natAbs%b.natAbs=R at*
 obtain ⟨vq,e4,hvq⟩:=Dj h (decide (a<0)) DK hqk (by omega);obtain ⟨vr,e5,KU⟩:=Dj h (decide (a<0)) jm hrk (by omega);have hsq:Bd K (ck (decide (a<0)) Q):=by unfold Bd ck;split<;>omega
 have hsr:Bd K (ck (decide (a<0)) R):=by unfold Bd ck;split<;>omega
 generalize ck (decide (a<0)) Q=Qs at*
 generalize ck (decide (a<0)) R=Rs at*
 have e6:=Fz h KU;have af4:=hvq;have af5:=KU;obtain ⟨s3,w3,rfl,h3⟩:=hvq;obtain ⟨s4,w4,rfl,h4⟩:=KU;obtain ⟨l3,u3⟩:=h3.az;obtain ⟨l4,u4⟩:=h4.az;unfold ae at e1 e2 e3 e4 e5 e6;by_cases h0:Rs<0
 ·obtain ⟨g1,g2⟩:=f1 h0;have ff:Bd (K+1) 1:=Bd.mono (k:=1) (by unfold Bd;decide) (by omega)
  obtain ⟨o1,o2⟩:=Di h (z:=1) (by decide) (by decide);obtain ⟨vq2,e7,UE⟩:=af2 h af4 o2 (K:=K+1) (hsq.mono (by omega)) ff (by omega);obtain ⟨vr2,e8,UF⟩:=J4 h af5 cY (K:=K+1) (hsr.mono (by omega)) (kb.mono (by omega)) (by omega);rw [<-g1] at UE;rw [<-g2] at UF;have nj:cf Rs<0:=by unfold cf;rw [yI h0];decide
  have k1:=UE;have k2:=UF;obtain ⟨s5,w5,rfl,h5⟩:=UE;obtain ⟨s6,w6,rfl,h6⟩:=UF;obtain ⟨l5,u5⟩:=h5.az;obtain ⟨l6,u6⟩:=h6.az;unfold ae at o1 e7 e8;refine ⟨_,_,k1,k2,fun tm t2 t3 t4 t5=>?_⟩;simp only [go_sem,ya,yb,iM,ax,t2,t3,t4,t5,Nb,Nc,MT,Mw,Nf,wp,aB,bZ,aZ,u1.ah,u2.ah,e1,e2,ij.ah,om.ah,e3,uq.ah,uq.bT,ur.ah,ur.bT,e4,e5,bl,dc,dd,bZ,yj,dS u3,dS u4,u3.ah,u4.ah,e6,nj,o1,e7,e8,dc,dd,bZ,yj,dS u5,dS u6,adE u5 u6]
 ·obtain ⟨g1,g2⟩:=f2 h0;have nj:¬cf Rs<0:=by unfold cf;rw [yB h0];split<;>decide
  refine ⟨_,_,by rw [g1];exact af4,by rw [g2];exact af5,fun tm t2 t3 t4 t5=>?_⟩
  simp only [go_sem,ya,yb,iM,ax,t2,t3,t4,t5,Nb,Nc,MT,Mw,Nf,wp,aB,bZ,aZ,u1.ah,u2.ah,e1,e2,ij.ah,om.ah,e3,uq.ah,uq.bT,ur.ah,ur.bT,e4,e5,bl,dc,dd,bZ,yj,dS u3,dS u4,u4.ah,e6,nj,adE u3 u4]
def UG (h:Nu P L) {v w:AV} {a b:Int} {K:Nat} (hv:cL v a) (hw:cL w b) (ej:0<b) (ka:Bd K a) (kb:Bd K b) (hK:K<=30000000000):∃q r,ae P L 164 [v,w] (.ap [q,r])/\cL q (a/b)/\cL r (a%b):=by
 obtain ⟨s1,w1,rfl,h1⟩:=hv;obtain ⟨s2,w2,rfl,h2⟩:=hw;obtain ⟨l1,u1⟩:=h1.az;obtain ⟨l2,u2⟩:=h2.az;obtain ⟨q,r,hq,hr,tail⟩:=asD h h1 h2 ej ka kb hK;have fin:∀tm,af tm 2= .ptr 0 0->af tm 3= .ptr 1 0->af tm 4= .ptr 2 0->af tm 5= .ptr 3 0->
   D P L (.seq (bC iM.body) (bC (ax iM.body))) ⟨[(0,.agg [aa s1,w1]),(1,.agg [aa s2,w2])],[],0,0⟩=some (.normal,⟨tm,[(3,.cells true true true 2 [.int .i64 0,.ab]),(2,.cells true true true 2 [.int .i64 0,.ab]),(1,.cells true true true 2 [aa s2,w2]),(0,.cells true true true 2 [aa s1,w1])],4,0⟩)->ae P L 164 [.agg [aa s1,w1],.agg [aa s2,w2]] (.ap [q,r]):=fun tm t2 t3 t4 t5 e=>by
  unfold ae;rw [av h.nN];show fJ [.cell 4 2 true,.cell 5 2 true] (D P L (.seq (bC iM.body) (.seq (bC (ax iM.body)) (ax (ax iM.body)))) ⟨[(0,.agg [aa s1,w1]),(1,.agg [aa s2,w2])],[],0,0⟩)=_
  rw [Cr,e,fu];exact tail tm t2 t3 t4 t5
 rcases h1 with ⟨rfl,rfl,a1,a2⟩ | ⟨e,l,rfl,ga,na,va,sa,a1⟩
 ·rcases h2 with ⟨rfl,rfl,b1,b2⟩ | ⟨e,l,rfl,gb,nb,vb,sb,b1⟩
  ·by_cases hm:s1= -9223372036854775808
   ·refine ⟨q,r,fin _ ?_ ?_ ?_ ?_ (by simp only [go_sem,ya,yb,bC,ax,iM,aB,gS,cQ,aV,yd,bU,hm]<;>rfl),hq,hr⟩<;>simp only [go_sem,ya]
   ·obtain ⟨f1,f2⟩:=ZI (a:=s1) ej;have cd:s1.tdiv s2=0\/(s1.tdiv s2).natAbs<=s1.natAbs:= .inr (uW s1 s2);have lF:=uW s1 s2;have cp:=Int.tmod_lt_of_pos s1 ej;have fe:=Int.lt_tmod_of_pos s1 ej;have eO:=Int.mul_tdiv_add_tmod s1 s2;have WG:s1.tmod s2<0-> -9223372036854775808<s1.tdiv s2:=fun h=>by omega
    by_cases h0:s1.tmod s2<0
    ·obtain ⟨g1,g2⟩:=f1 h0;have hq4:=WG h0;rw [g1,g2];refine ⟨.agg [aa (s1.tdiv s2-1),.ab],.agg [aa (s1.tmod s2+s2),.ab],?_,cN.oE (by omega) (by omega),cN.oE (by omega) (by omega)⟩;unfold ae;rw [av h.nN]
     simp only [go_sem,ya,yb,iM,aB,jw,gS,cQ,aV,yd,bU,hm,eU _ _ _ (show s2≠0 by omega),er _ _ _ (show s2≠0 by omega),h0,wrap64 (n:=s1.tdiv s2) (by omega) (by omega),wrap64 (n:=s1.tdiv s2-1) (by omega) (by omega),wrap64 (n:=s1.tmod s2+s2) (by omega) (by omega),rm];rfl
    ·obtain ⟨g1,g2⟩:=f2 h0;rw [g1,g2];refine ⟨.agg [aa (s1.tdiv s2),.ab],.agg [aa (s1.tmod s2),.ab],?_,cN.oE (by omega) (by omega),cN.oE (by omega) (by omega)⟩;unfold ae;rw [av h.nN]
     simp only [go_sem,ya,yb,iM,aB,jw,gS,cQ,aV,yd,bU,hm,eU _ _ _ (show s2≠0 by omega),er _ _ _ (show s2≠0 by omega),h0,wrap64 (n:=s1.tdiv s2) (by omega) (by omega),rm];rfl
  ·refine ⟨q,r,fin _ ?_ ?_ ?_ ?_ (by simp only [go_sem,ya,yb,bC,ax,iM,aB,gS,nH,cQ,aV,yd,bU]<;>rfl),hq,hr⟩<;>simp only [go_sem,ya]
 ·refine ⟨q,r,fin _ ?_ ?_ ?_ ?_ (by simp only [go_sem,ya,yb,bC,ax,iM,aB,u2.pu,u2.one,nH,cQ,aV,yd,bU]<;>rfl),hq,hr⟩<;>simp only [go_sem,ya]
end
end
section
open Go (IntKind)
section
variable {P:aG} {L:Lib}
def af6 (h:Nu P L) {v w:AV} {a b:Int} {K:Nat} (hv:cL v a) (hw:cL w b) (ej:0<b) (ka:Bd K a) (kb:Bd K b) (hK:K<=30000000000):∃r,ae P L 148 [v,w] r/\cL r (a/b):=by
 have e1:=Fz h hw;obtain ⟨q,r,e2,hq,hr⟩:=UG h hv hw ej ka kb hK;have e3:cf b=1:=by unfold cf;rw [yB (by omega),yB (by omega)]
 rw [e3] at e1;have cd:=hq;obtain ⟨s1,w1,rfl,h1⟩:=hv;obtain ⟨s2,w2,rfl,h2⟩:=hw;obtain ⟨s3,w3,rfl,h3⟩:=hq;obtain ⟨s4,w4,rfl,h4⟩:=hr;obtain ⟨l1,u1⟩:=h1.az;obtain ⟨l2,u2⟩:=h2.az;obtain ⟨l3,u3⟩:=h3.az;obtain ⟨l4,u4⟩:=h4.az;refine ⟨_,?_,cd⟩;unfold ae;rw [av h.OJ];simp only [go_sem,ya,yb,Fh,Int.reduceLT,yo,aB,u1.pu,u1.ah,u1.one,u2.pu,u2.ah,u2.one,yd,aZ,e1,e2,oC,dc,dd,bZ,yj,mB u3,dS u3,dS u4]
def asE (h:Nu P L) (G:Nat) {K:Nat} (hK:K<=30000000000) {o1 o2:AV}:
  ∀k s,(∃(x y:Nat) (s1 s2:Int) (w1 w2:AV),bD [2,3,4] s=⟨[(2,.ptr 0 0),(3,.ptr 1 0),(4,.ptr 2 0)],[(2,.cells true true true 2 [o1,o2]),(1,.cells true true true 2 [aa s2,w2]),(0,.cells true true true 2 [aa s1,w1])],3,0⟩/\cN s1 w1 x/\cN s2 w2 y/\Bd K x/\Bd K y/\Nat.gcd x y=G/\y=k)->
   ∃ex s',D P L (.loop [2,3,4] ze) s=some (ex,s')/\∃tm s1 w1 c1,s'=⟨tm,[(2,.cells true true true 2 [o1,o2]),(1,c1),(0,.cells true true true 2 [aa s1,w1])],3,0⟩/\ex= .exit 0/\af tm 2= .ptr 0 0/\af tm 4= .ptr 2 0/\cN s1 w1 G:=by
 refine cg (I:=fun k s=>∃(x y:Nat) (s1 s2:Int) (w1 w2:AV),s=⟨[(2,.ptr 0 0),(3,.ptr 1 0),(4,.ptr 2 0)],[(2,.cells true true true 2 [o1,o2]),(1,.cells true true true 2 [aa s2,w2]),(0,.cells true true true 2 [aa s1,w1])],3,0⟩/\cN s1 w1 x/\cN s2 w2 y/\Bd K x/\Bd K y/\Nat.gcd x y=G/\y=k)
  (Q:=fun ex s'=>∃tm s1 w1 c1,s'=⟨tm,[(2,.cells true true true 2 [o1,o2]),(1,c1),(0,.cells true true true 2 [aa s1,w1])],3,0⟩/\ex= .exit 0/\af tm 2= .ptr 0 0/\af tm 4= .ptr 2 0/\cN s1 w1 G) ?_
 rintro k s ⟨x,y,s1,s2,w1,w2,rfl,h1,h2,k1,k2,hG,rfl⟩;obtain ⟨l1,u1⟩:=h1.az;obtain ⟨l2,u2⟩:=h2.az;have i1:cL (.agg [aa s1,w1]) (x:Int):=⟨s1,w1,rfl,h1⟩;have i2:cL (.agg [aa s2,w2]) (y:Int):=⟨s2,w2,rfl,h2⟩;have e1:=Fz h i2;by_cases iV:y=0
 ·right
  subst iV;rw [show cf ((0:Nat):Int)=0 from rfl] at e1;simp only [go_sem,ya,ze,yq,Bool.not_true,bZ,aZ,u2.ah,e1];obtain rfl:x=G:=by rw [<-hG,Nat.gcd_zero_right]
  exact ⟨_,_,rfl,by simp,_,s1,w1,_,rfl,rfl,by simp only [go_sem,ya],by simp only [go_sem,ya],h1⟩
 ·left
  have e3:cf (y:Int)=1:=by unfold cf;rw [yB (by omega),yB (by omega)]
  rw [e3] at e1;obtain ⟨q,r,e2,hq,hr⟩:=UG h i1 i2 (by omega) k1 k2 hK;obtain ⟨s3,w3,rfl,h3⟩:=hq;obtain ⟨s4,w4,rfl,h4⟩:=hr;obtain ⟨l3,u3⟩:=h3.az;obtain ⟨l4,u4⟩:=h4.az;have bi:=xy x (show 0<y by omega);have kr:Bd K ((x%y:Nat):Int):=k2.le (by omega);simp only [go_sem,ya,yb,ze,Nb,Nc,MT,Mw,Nf,wp,vN,yo,Bool.not_false,aB,bZ,aZ,u1.ah,u2.ah,e1,e2,oC,bZ,yj,dS u2,dS u3,dS u4];refine ⟨_,x%y,rfl,bi,y,x%y,s2,s4,w2,w4,?_,h2,h4,k2,kr,by rw [<-hG];exact aaG x y iV,rfl⟩
  simp only [go_sem,ya,yb,ay]
def af7 (h:Nu P L) {v w:AV} {a b:Int} {K:Nat} (hv:cL v a) (hw:cL w b) (ka:Bd K a) (kb:Bd K b) (hK:K<=30000000000):∃r,ae P L 130 [v,w] r/\cL r (xZ a b:Nat):=by
 obtain ⟨va,e1,ha⟩:=af1 h hv ka (by omega);obtain ⟨vb,e2,hb⟩:=af1 h hw kb (by omega);obtain ⟨s1,w1,rfl,h1⟩:=hv;obtain ⟨s2,w2,rfl,h2⟩:=hw;obtain ⟨s3,w3,rfl,h3⟩:=ha;obtain ⟨s4,w4,rfl,h4⟩:=hb;obtain ⟨l1,u1⟩:=h1.az;obtain ⟨l2,u2⟩:=h2.az;obtain ⟨l3,u3⟩:=h3.az;obtain ⟨l4,u4⟩:=h4.az;have je:∃s w,ae P L 130 [.agg [aa s1,w1],.agg [aa s2,w2]] (.agg [aa s,w])/\cN s w (xZ a b:Nat):=by
  unfold ae;rw [av h.Ut];simp only [go_sem,ya,yb,Ff,aB,u1.pu,u1.ah,u1.one,u2.pu,u2.ah,u2.one,bZ,aZ,e1,e2,bl,bZ,yj,dS u3,dS u4,yd];generalize hq:D P L (.loop [2,3,4] ze) _=q;obtain ⟨ex,s,rfl,tm,s5,w5,c1,rfl,rfl,t2,t4,h5⟩:=bP hq (asE (P:=P) (L:=L) h (xZ a b) (K:=K) hK (o1:= .int .i64 0) (o2:= .ab) b.natAbs) ⟨a.natAbs,b.natAbs,s3,s4,w3,w4,by simp only [go_sem,ya,yb,ay],h3,h4,ka,kb,rfl,rfl⟩;obtain ⟨l5,u5⟩:=h5.az;refine ⟨s5,w5,?_,h5⟩;simp only [go_sem,ya,yb,ay,t2,t4,dc,dd,bZ,yj,mB u5,dS u5]
 obtain ⟨s,w,e,hn⟩:=je;exact ⟨_,e,s,w,rfl,hn⟩
end
def cE (v:AV) (r:Rat):Prop:=∃s1 w1 s2 w2,v= .agg [aa s1,w1,aa s2,w2]/\cN s1 w1 r.num/\cN s2 w2 (r.den:Int)
def Hq (k:Nat) (r:Rat):Prop:=Bd k r.num/\Bd k (r.den:Int)
def LA {a b:Int} (hb:0<b):(xT a b).num=a/(xZ a b:Nat)/\((xT a b).den:Int)=b/(xZ a b:Nat):=by
 constructor
 ·rw [yax,Int.sign_eq_one_of_pos hb,Int.one_mul,ybe]
 ·rw [yay,yB (by omega),ybe]
  grind
def Hq.divInt {k:Nat} {a b:Int} (hb:0<b) (ka:Bd k a) (kb:Bd k b):Hq k (xT a b):=by
 obtain ⟨h1,h2⟩:=LA (a:=a) hb;refine ⟨ka.le ?_,kb.le ?_⟩
 ·rw [h1,vJ (Int.gcd_dvd_left a b)];exact vA _ _
 ·rw [h2,vJ (Int.gcd_dvd_right a b)];exact vA _ _
section
def Es {tm:Env} {a b x y z w:AV} {r:List (Nat×Nat×X)} (h1:bm a=true) (h2:bm b=true):gB tm [x,y,z,w] 0 2 [a,b] r=fill tm [a,b,z,w] r:=by
 rw [j9 (by rfl) (by simp) (by simp [bK,h1,h2])];rfl
def Et {tm:Env} {a b x y z w:AV} {r:List (Nat×Nat×X)} (h1:bm a=true) (h2:bm b=true):gB tm [x,y,z,w] 2 2 [a,b] r=fill tm [x,y,a,b] r:=by
 rw [j9 (by rfl) (by simp) (by simp [bK,h1,h2])];rfl
def kU {s t:Int} {v w:AV} {l m:List Nat} (hv:bJ v l) (hw:bJ w m) (hp:Hp) (ct id:Nat) (a b x y:AV):eM hp ct id 0 4 [.int .i64 s,v,.int .i64 t,w] (some (.cells true true true 4 [a,b,x,y]))=some (.ap [],aW hp id (.cells true true true 4 [.int .i64 s,v,.int .i64 t,w]),ct):=by
 rw [jb (by rfl) (by simp) (by simp [bK,hv.one,hw.one,Ep])];simp [aH,hv.pu,hw.pu,over,CM]
def lO {s t:Int} {v w:AV} {l m:List Nat} (hv:bJ v l) (hw:bJ w m) (hp:Hp):result hp (.agg [aa s,v,aa t,w])=some (.agg [aa s,v,aa t,w]):=by
 rcases hv with ⟨rfl,_⟩ | ⟨e,rfl⟩<;>rcases hw with ⟨rfl,_⟩ | ⟨e',rfl⟩<;>rfl
variable {P:aG} {L:Lib}
structure Fr' (P:aG) (L:Lib):Prop extends Nu P L where
 avW:Has P L 101 kZ
 WS:Has P L 69 V9
 avX:Has P L 111 TR
 h98:Has P L 98 PN
 avY:Has P L 108 TQ
 avZ:Has P L 102 TP
 h74:Has P L 74 KO
 WT:Has P L 50 V2
 ot:Has P L 49 c49
 h73:Has P L 73 Wc
 h70:Has P L 70 Wa
 h71:Has P L 71 Wb
 av0:Has P L 149 TW
def adF (h:Fr' P L) {s1 s2:Int} {w1 w2:AV} {a b:Int} {K:Nat} (h1:cN s1 w1 a) (h2:cN s2 w2 b) (ej:0<b) (ka:Bd K a) (kb:Bd K b) (hK:K<=30000000000):
  ∃r,cE r (xT a b)/\∀tm,af tm 2= .ptr 0 0->af tm 3= .ptr 1 0->af tm 4= .ptr 2 0->fJ [.cell 4 4 true] (D P L (ax (ax kZ.body)) ⟨tm,[(2,.cells true true true 4 [.int .i64 0,.ab,.int .i64 0,.ab]),(1,.cells true true true 2 [aa s2,w2]),(0,.cells true true true 2 [aa s1,w1])],3,0⟩)=some r:=by
 have hv:cL (.agg [aa s1,w1]) a:=⟨s1,w1,rfl,h1⟩;have hw:cL (.agg [aa s2,w2]) b:=⟨s2,w2,rfl,h2⟩;obtain ⟨p1,p2⟩:=LA (a:=a) ej;have hgp:=Ip (a:=a) ej;have hgk:Bd K ((xZ a b:Nat):Int):=kb.le (by
  have:=Int.gcd_le_natAbs_right a (show b≠0 by omega)
  omega)
 obtain ⟨g,e2,hg⟩:=af7 h.toNu hv hw ka kb hK;obtain ⟨q1,e4,eN⟩:=af6 h.toNu hv hg hgp ka hgk hK;obtain ⟨q2,e5,lF⟩:=af6 h.toNu hw hg hgp kb hgk hK;rw [<-p1] at eN;rw [<-p2] at lF;obtain ⟨s3,w3,rfl,h3⟩:=hg;obtain ⟨s4,w4,rfl,h4⟩:=eN;obtain ⟨s5,w5,rfl,h5⟩:=lF;obtain ⟨l1,u1⟩:=h1.az;obtain ⟨l2,u2⟩:=h2.az;obtain ⟨l3,u3⟩:=h3.az;obtain ⟨l4,u4⟩:=h4.az;obtain ⟨l5,u5⟩:=h5.az;by_cases fI:w2= .ab/\s2=1
 ·obtain ⟨rfl,rfl⟩:=fI;have ff:b=1:=by
   rcases h2 with ⟨_,h,_⟩ | ⟨_,_,h,_⟩
   ·exact h.symm
   ·cases h
  subst ff;rw [Int.gcd_one] at p1 p2;have p1:(xT a 1).num=a:=by rw [p1];exact Int.ediv_one a
  refine ⟨.agg [aa s1,w1,aa 1,.ab],⟨s1,w1,1,.ab,rfl,by rw [p1];exact h1,by rw [p2];exact h2⟩,fun tm t2 t3 t4=>?_⟩
  have un:=sQ;simp only [go_sem,ya,kZ,ax,t2,t3,t4,u1.one,bZ,aV,yd,bU,gS,cQ,Es,Et,kU u1 un,dc,dd,yj,hZ,lO u1 un]
 ·refine ⟨.agg [aa s4,w4,aa s5,w5],⟨s4,w4,s5,w5,rfl,h4,h5⟩,fun tm t2 t3 t4=>?_⟩;rcases u2 with ⟨rfl,_⟩ | ⟨e,rfl⟩
  ·simp only [go_sem,ya,yb,kZ,ax,t2,t3,t4,aB,u1.ah,bZ,aZ,aV,yd,bU,gS,cQ,show ¬s2=1 from fun e=>fI ⟨rfl,e⟩,e2,e4,e5,bl,dc,dd,bZ,yj,dS u3,u3.ah,u4.one,u5.one,Es,Et,kU u4 u5,hZ,lO u4 u5]
  ·simp only [go_sem,ya,yb,kZ,ax,t2,t3,t4,aB,u1.ah,bZ,aZ,aV,yd,bU,nH,cQ,e2,e4,e5,bl,dc,dd,bZ,yj,dS u3,u3.ah,u4.one,u5.one,Es,Et,kU u4 u5,hZ,lO u4 u5]
def UH (h:Fr' P L) {v w:AV} {a b:Int} {K:Nat} (hv:cL v a) (hw:cL w b) (ej:b≠0) (ka:Bd K a) (kb:Bd K b) (hK:K<=30000000000):∃r,ae P L 101 [v,w] r/\cE r (xT a b):=by
 have e1:=Fz h.toNu hw;have eL:=hv;have AA:=hw;obtain ⟨s1,w1,rfl,h1⟩:=hv;obtain ⟨s2,w2,rfl,h2⟩:=hw;obtain ⟨l1,u1⟩:=h1.az;obtain ⟨l2,u2⟩:=h2.az;have fin:∀r t1 t2 v1 v2 tm,(∀tm,af tm 2= .ptr 0 0->af tm 3= .ptr 1 0->af tm 4= .ptr 2 0->fJ [.cell 4 4 true] (D P L (ax (ax kZ.body)) ⟨tm,[(2,.cells true true true 4 [.int .i64 0,.ab,.int .i64 0,.ab]),(1,.cells true true true 2 [aa t2,v2]),(0,.cells true true true 2 [aa t1,v1])],3,0⟩)=some r)->af tm 2= .ptr 0 0->af tm 3= .ptr 1 0->af tm 4= .ptr 2 0->
   D P L (.seq (bC kZ.body) (bC (ax kZ.body))) ⟨[(0,.agg [aa s1,w1]),(1,.agg [aa s2,w2])],[],0,0⟩=some (.normal,⟨tm,[(2,.cells true true true 4 [.int .i64 0,.ab,.int .i64 0,.ab]),(1,.cells true true true 2 [aa t2,v2]),(0,.cells true true true 2 [aa t1,v1])],3,0⟩)->ae P L 101 [.agg [aa s1,w1],.agg [aa s2,w2]] r:=fun r t1 t2 v1 v2 tm tail k2 k3 k4 e=>by
  unfold ae;rw [av h.avW];show fJ [.cell 4 4 true] (D P L (.seq (bC kZ.body) (.seq (bC (ax kZ.body)) (ax (ax kZ.body)))) ⟨[(0,.agg [aa s1,w1]),(1,.agg [aa s2,w2])],[],0,0⟩)=_
  rw [Cr,e,fu];exact tail tm k2 k3 k4
 by_cases hn:b<0
 ·obtain ⟨n1,e2,gV⟩:=FA h.toNu eL ka (by omega);obtain ⟨n2,e3,eH⟩:=FA h.toNu AA kb (by omega);obtain ⟨s3,w3,rfl,h3⟩:=gV;obtain ⟨s4,w4,rfl,h4⟩:=eH;obtain ⟨l3,u3⟩:=h3.az;obtain ⟨l4,u4⟩:=h4.az;obtain ⟨r,hr,tail⟩:=adF h h3 h4 (by omega) ka.neg kb.neg hK;rw [Rat.neg_divInt_neg] at hr;have hs:cf b<0:=by unfold cf;rw [yI hn];decide
  refine ⟨r,fin r _ _ _ _ _ tail ?_ ?_ ?_ (by simp only [go_sem,ya,yb,kZ,bC,ax,hs,aB,u1.pu,u1.ah,u1.one,u2.pu,u2.ah,u2.one,bZ,aZ,e1,e2,e3,bl,dS u3,dS u4]<;>rfl),hr⟩<;>simp only [go_sem,ya]
 ·obtain ⟨r,hr,tail⟩:=adF h h1 h2 (by omega) ka kb hK;have hs:¬cf b<0:=by unfold cf;rw [yB hn];split<;>decide
  refine ⟨r,fin r _ _ _ _ _ tail ?_ ?_ ?_ (by simp only [go_sem,ya,yb,kZ,bC,ax,hs,aB,u1.pu,u1.one,u2.pu,u2.ah,u2.one,bZ,aZ,e1]<;>rfl),hr⟩<;>simp only [go_sem,ya]
end
end
section
open Go (IntKind)
def Hq.mono {k m:Nat} {r:Rat} (h:Hq k r) (hk:k<=m):Hq m r:=⟨h.1.mono hk,h.2.mono hk⟩
def Hq.neg {k:Nat} {r:Rat} (h:Hq k r):Hq k (-r):=⟨h.1.neg,h.2⟩
def add_eq (a b:Rat):a+b=xT (a.num*b.den+b.num*a.den) ((a.den:Int)*b.den):=by
 rw [Rat.add_def',<-yai,wE]
def mul_eq (a b:Rat):a*b=xT (a.num*b.num) ((a.den:Int)*b.den):=by
 rw [Rat.mul_def',<-yai,wE]
def Mx (a:Rat):0<(a.den:Int):=by have:=a.den_pos;omega
def D6 (a b:Rat):0<(a.den:Int)*b.den:=Int.mul_pos (Mx a) (Mx b)
def Bd.UI {k:Nat} {a b:Int} (ha:Bd k a) (hb:Bd k b):Bd (k+1) (a+b):=by
 have:=ha.add hb
 grind
def Hq.add {k m:Nat} {a b:Rat} (ha:Hq k a) (hb:Hq m b):Hq (k+m+1) (a+b):=by
 rw [add_eq];refine Hq.divInt (D6 a b) ?_ ((ha.2.mul hb.2).mono (by omega));exact (ha.1.mul hb.2).UI ((hb.1.mul ha.2).mono (by omega))
def Hq.mul {k m:Nat} {a b:Rat} (ha:Hq k a) (hb:Hq m b):Hq (k+m) (a*b):=by
 rw [mul_eq];exact Hq.divInt (D6 a b) (ha.1.mul hb.1) (ha.2.mul hb.2)
def Hq.sub {k m:Nat} {a b:Rat} (ha:Hq k a) (hb:Hq m b):Hq (k+m+1) (a-b):=by
 rw [qr];exact ha.add hb.neg
def Hq.inv {k:Nat} {a:Rat} (ha:Hq k a):Hq k a⁻¹:=by
 have h1:(a⁻¹).num.natAbs<=a.den:=by
  rw [Rat.num_inv,Int.natAbs_mul]
  grind
 refine ⟨ha.2.le (by simpa using h1),?_⟩;unfold Bd;rw [Rat.den_inv]
 split
 ·have h2:=ha.2;unfold Bd at h2
  simp_all
 ·exact ha.1
def Hq.div {k m:Nat} {a b:Rat} (ha:Hq k a) (hb:Hq m b):Hq (k+m) (a/b):=by
 rw [Rat.div_def];exact ha.mul hb.inv
def zV (a b:Rat):Int:=if a<b then -1 else if a=b then 0 else 1
def aqa (a b:Rat):cf (a.num*b.den-b.num*a.den)=zV a b:=by
 unfold cf zV;by_cases h:a<b
 ·rw [yI h]
  have:=(ybt a b).1 h
  grind
 ·rw [yB h];have h1:¬a.num*b.den<b.num*a.den:=fun e=>h ((ybt a b).2 e)
  rw [yB (by omega)];by_cases h2:a=b
  ·grind
  ·rw [yB h2,yB (by have:¬a.num*b.den=b.num*a.den:=fun e=>h2 (Rat.eq_iff_mul_eq_mul.2 e);omega)]
def MU (a:Rat) (h:a.den=1):a=(a.num:Rat):=by
 have:=Rat.num_divInt_den a
 rw [h] at this;rw [<-this];exact (Rat.ext (by simp [yax]) (by simp [yay]))
def Bl (a b c d:AV) (r:List AV):dO 2 true (List.drop 2 (a::b::c::d::r))=some (.agg [c,d]):=rfl
def qu (a b:AV) (r:List AV):dO 2 true (a::b::r)=some (.agg [a,b]):=rfl
section
variable {P:aG} {L:Lib}
def J5 (h:Fr' P L) {v:AV} {z:Int} (hv:cL v z):∃r,ae P L 111 [v] r/\cE r (z:Rat):=by
 obtain ⟨o1,o2⟩:=Di h.toNu (z:=1) (by decide) (by decide);obtain ⟨s1,w1,rfl,h1⟩:=hv;obtain ⟨l1,u1⟩:=h1.az;have un:=sQ;refine ⟨.agg [aa s1,w1,aa 1,.ab],?_,s1,w1,1,.ab,rfl,h1,.inl ⟨rfl,rfl,(by show (-9223372036854775808:Int)<=1;decide),(by show (1:Int)<9223372036854775808;decide)⟩⟩
 unfold ae;rw [av h.avX];simp only [go_sem,ya,yb,TR,aB,u1.pu,u1.one,bZ,o1,bl,Es,Et,kU u1 un,dc,dd,yj,hZ,lO u1 un]
def DL (h:Fr' P L) {z:Int} (h1: -9223372036854775808<=z) (h2:z<9223372036854775808):∃r,ae P L 69 [aa z] r/\cE r (z:Rat):=by
 obtain ⟨o1,o2⟩:=Di h.toNu h1 h2;obtain ⟨r,e,hr⟩:=J5 h o2;have bX:=hr;obtain ⟨s1,w1,s2,w2,rfl,k1,k2⟩:=hr;obtain ⟨l1,u1⟩:=k1.az;obtain ⟨l2,u2⟩:=k2.az;refine ⟨_,?_,bX⟩;unfold ae;rw [av h.WS];simp only [go_sem,ya,yb,V9,aB,aZ,o1,e,bl,kU u1 u2,dc,dd,yj,hZ,lO u1 u2]
def WU (h:Fr' P L) {v:AV} {a:Rat} (hv:cE v a):ae P L 98 [v] (.bool (decide (a.den=1))):=by
 obtain ⟨s1,w1,s2,w2,rfl,h1,h2⟩:=hv;obtain ⟨l1,u1⟩:=h1.az;unfold ae;rw [av h.h98];rcases h2 with ⟨rfl,rfl,b1,b2⟩ | ⟨e,l,rfl,gb,nb,vb,sb,b1⟩
 ·have e:decide (((a.den:Nat):Int)=1)=decide (a.den=1):=by simp;omega
  simp only [go_sem,ya,yb,PN,aB,u1.pu,u1.one,aV,yd,aul,ae5,gS,cQ,e]
 ·have e:decide (a.den=1)=false:=yR (by omega);rw [e];simp only [go_sem,ya,yb,PN,aB,u1.pu,u1.one,aV,yd,ae5,nH,cQ]
def av1 (h:Fr' P L) {v:AV} {a:Rat} (hv:cE v a):ae P L 108 [v] (aa (cf a.num)):=by
 obtain ⟨s1,w1,s2,w2,rfl,h1,h2⟩:=hv;obtain ⟨l1,u1⟩:=h1.az;obtain ⟨l2,u2⟩:=h2.az;have e1:=Fz h.toNu ⟨s1,w1,rfl,h1⟩;unfold ae;rw [av h.avY];simp only [go_sem,ya,yb,TQ,aB,u1.pu,u1.ah,u1.one,u2.pu,u2.one,aV,yd,qu,aZ,e1]
def av2 (h:Fr' P L) {v:AV} {a:Rat} {K:Nat} (hv:cE v a) (ka:Hq K a) (hK:K<=30000000000):∃r,ae P L 102 [v] r/\cE r (-a):=by
 obtain ⟨s1,w1,s2,w2,rfl,h1,h2⟩:=hv;obtain ⟨l1,u1⟩:=h1.az;obtain ⟨l2,u2⟩:=h2.az;obtain ⟨n,e1,hn⟩:=FA h.toNu ⟨s1,w1,rfl,h1⟩ ka.1 (by omega);obtain ⟨s3,w3,rfl,h3⟩:=hn;obtain ⟨l3,u3⟩:=h3.az;refine ⟨.agg [aa s3,w3,aa s2,w2],?_,s3,w3,s2,w2,rfl,h3,h2⟩;unfold ae;rw [av h.avZ];simp only [go_sem,ya,yb,TP,aB,u1.pu,u1.ah,u1.one,u2.pu,u2.one,u3.one,aV,yd,qu,Bl,aZ,e1,bl,Es,Et,kU u3 u2,dc,dd,yj,hZ,lO u3 u2]
def Qc (h:Fr' P L) {v w:AV} {a b:Rat} {K:Nat} (hv:cE v a) (hw:cE w b) (ka:Hq K a) (kb:Hq K b) (hK:K<=10000000000):∃r,ae P L 74 [v,w] r/\cE r (a+b):=by
 have i1:=WU h hv;have i2:=WU h hw;obtain ⟨s1,w1,s2,w2,rfl,h1,h2⟩:=hv;obtain ⟨s3,w3,s4,w4,rfl,h3,h4⟩:=hw;obtain ⟨l1,u1⟩:=h1.az;obtain ⟨l2,u2⟩:=h2.az;obtain ⟨l3,u3⟩:=h3.az;obtain ⟨l4,u4⟩:=h4.az;have n1:cL (.agg [aa s1,w1]) a.num:=⟨s1,w1,rfl,h1⟩;have n2:cL (.agg [aa s2,w2]) a.den:=⟨s2,w2,rfl,h2⟩;have n3:cL (.agg [aa s3,w3]) b.num:=⟨s3,w3,rfl,h3⟩;have n4:cL (.agg [aa s4,w4]) b.den:=⟨s4,w4,rfl,h4⟩;by_cases sG:a.den=1/\b.den=1
 ·obtain ⟨d1,d2⟩:=sG;obtain ⟨p,e1,hp⟩:=J4 h.toNu n1 n3 ka.1 kb.1 (by omega);obtain ⟨r,e2,hr⟩:=J5 h hp;have he:((a.num+b.num:Int):Rat)=a+b:=by
   rw [Rat.intCast_add,<-MU a d1,<-MU b d2]
  rw [he] at hr;have bX:=hr;obtain ⟨s5,w5,rfl,h5⟩:=hp;obtain ⟨s6,w6,s7,w7,rfl,h6,h7⟩:=hr;obtain ⟨l5,u5⟩:=h5.az;obtain ⟨l6,u6⟩:=h6.az;obtain ⟨l7,u7⟩:=h7.az;refine ⟨_,?_,bX⟩;rw [d1] at i1;rw [d2] at i2;unfold ae;rw [av h.h74];simp only [go_sem,ya,yb,KO,aB,u1.pu,u1.ah,u1.one,u2.pu,u2.ah,u2.one,u3.pu,u3.ah,u3.one,u4.pu,u4.ah,u4.one,aV,yd,hZ,qu,aZ,i1,i2,e1,u5.ah,e2,bl,kU u6 u7,dc,dd,yj,hZ,lO u6 u7]
 ·obtain ⟨p1,e1,bF⟩:=rS h.toNu n1 n4 ka.1 kb.2 (by omega);obtain ⟨p2,e2,gC⟩:=rS h.toNu n3 n2 kb.1 ka.2 (by omega);obtain ⟨p3,e3,hp3⟩:=J4 h.toNu bF gC (ka.1.mul kb.2) (kb.1.mul ka.2) (by omega);obtain ⟨p4,e4,hp4⟩:=rS h.toNu n2 n4 ka.2 kb.2 (by omega);obtain ⟨r,e5,hr⟩:=UH h hp3 hp4 (by have:=D6 a b;omega) ((ka.1.mul kb.2).UI (kb.1.mul ka.2)) ((ka.2.mul kb.2).mono (by omega)) (by omega);rw [<-add_eq] at hr;have bX:=hr;obtain ⟨s5,w5,rfl,h5⟩:=bF;obtain ⟨s6,w6,rfl,h6⟩:=gC;obtain ⟨s7,w7,rfl,h7⟩:=hp3;obtain ⟨s8,w8,rfl,h8⟩:=hp4;obtain ⟨s9,w9,s10,w10,rfl,h9,iT⟩:=hr;obtain ⟨l5,u5⟩:=h5.az;obtain ⟨l6,u6⟩:=h6.az;obtain ⟨l7,u7⟩:=h7.az;obtain ⟨l8,u8⟩:=h8.az;obtain ⟨l9,u9⟩:=h9.az;obtain ⟨l10,Qd⟩:=iT.az;refine ⟨_,?_,bX⟩;unfold ae;rw [av h.h74];by_cases d1:a.den=1
  ·rw [d1] at i1;rw [yR (fun d2=>sG ⟨d1,d2⟩)] at i2;simp only [go_sem,ya,yb,KO,aB,u1.pu,u1.ah,u1.one,u2.pu,u2.ah,u2.one,u3.pu,u3.ah,u3.one,u4.pu,u4.ah,u4.one,aV,yd,hZ,qu,Bl,aZ,i1,i2,e1,e2,u5.ah,u6.ah,e3,e4,u7.ah,u8.ah,e5,bl,kU u9 Qd,dc,dd,yj,hZ,lO u9 Qd]
  ·rw [yR d1] at i1;simp only [go_sem,ya,yb,KO,aB,u1.pu,u1.ah,u1.one,u2.pu,u2.ah,u2.one,u3.pu,u3.ah,u3.one,u4.pu,u4.ah,u4.one,aV,yd,hZ,qu,Bl,aZ,i1,e1,e2,u5.ah,u6.ah,e3,e4,u7.ah,u8.ah,e5,bl,kU u9 Qd,dc,dd,yj,hZ,lO u9 Qd]
def Lc (h:Fr' P L) {v w:AV} {a b:Rat} {K:Nat} (hv:cE v a) (hw:cE w b) (ka:Hq K a) (kb:Hq K b) (hK:K<=10000000000):∃r,ae P L 50 [v,w] r/\cE r (a-b):=by
 obtain ⟨n,e1,hn⟩:=av2 h hw kb (by omega);obtain ⟨r,e2,hr⟩:=Qc h hv hn ka kb.neg hK;rw [<-qr] at hr;have bX:=hr;obtain ⟨s1,w1,s2,w2,rfl,h1,h2⟩:=hv;obtain ⟨s3,w3,s4,w4,rfl,h3,h4⟩:=hw;obtain ⟨s5,w5,s6,w6,rfl,h5,h6⟩:=hn;obtain ⟨s7,w7,s8,w8,rfl,h7,h8⟩:=hr;obtain ⟨l1,u1⟩:=h1.az;obtain ⟨l2,u2⟩:=h2.az;obtain ⟨l3,u3⟩:=h3.az;obtain ⟨l4,u4⟩:=h4.az;obtain ⟨l5,u5⟩:=h5.az;obtain ⟨l6,u6⟩:=h6.az;obtain ⟨l7,u7⟩:=h7.az;obtain ⟨l8,u8⟩:=h8.az;refine ⟨_,?_,bX⟩;unfold ae;rw [av h.WT];simp only [go_sem,ya,yb,V2,aB,u1.pu,u1.ah,u1.one,u2.pu,u2.ah,u2.one,u3.pu,u3.ah,u3.one,u4.pu,u4.ah,u4.one,u5.ah,u6.ah,hZ,aZ,e1,e2,bl,kU u7 u8,dc,dd,yj,hZ,lO u7 u8]
def sK (h:Fr' P L) {v w:AV} {a b:Rat} {K:Nat} (hv:cE v a) (hw:cE w b) (ka:Hq K a) (kb:Hq K b) (hK:K<=10000000000):∃r,ae P L 49 [v,w] r/\cE r (a*b):=by
 obtain ⟨s1,w1,s2,w2,rfl,h1,h2⟩:=hv;obtain ⟨s3,w3,s4,w4,rfl,h3,h4⟩:=hw;obtain ⟨l1,u1⟩:=h1.az;obtain ⟨l2,u2⟩:=h2.az;obtain ⟨l3,u3⟩:=h3.az;obtain ⟨l4,u4⟩:=h4.az;obtain ⟨p1,e1,bF⟩:=rS h.toNu (v:= .agg [aa s1,w1]) (w:= .agg [aa s3,w3]) ⟨s1,w1,rfl,h1⟩ ⟨s3,w3,rfl,h3⟩ ka.1 kb.1 (by omega);obtain ⟨p2,e2,gC⟩:=rS h.toNu (v:= .agg [aa s2,w2]) (w:= .agg [aa s4,w4]) ⟨s2,w2,rfl,h2⟩ ⟨s4,w4,rfl,h4⟩ ka.2 kb.2 (by omega);obtain ⟨r,e3,hr⟩:=UH h bF gC (by have:=D6 a b;omega) (ka.1.mul kb.1) (ka.2.mul kb.2) (by omega);rw [<-mul_eq] at hr;have bX:=hr;obtain ⟨s5,w5,rfl,h5⟩:=bF;obtain ⟨s6,w6,rfl,h6⟩:=gC;obtain ⟨s7,w7,s8,w8,rfl,h7,h8⟩:=hr;obtain ⟨l5,u5⟩:=h5.az;obtain ⟨l6,u6⟩:=h6.az;obtain ⟨l7,u7⟩:=h7.az;obtain ⟨l8,u8⟩:=h8.az;refine ⟨_,?_,bX⟩;unfold ae;rw [av h.ot]
 simp only [go_sem,ya,yb,c49,aB,u1.pu,u1.ah,u1.one,u2.pu,u2.ah,u2.one,u3.pu,u3.ah,u3.one,u4.pu,u4.ah,u4.one,u5.ah,u6.ah,aV,yd,qu,Bl,aZ,e1,e2,e3,bl,kU u7 u8,dc,dd,yj,hZ,lO u7 u8]
def m73 (h:Fr' P L) {v:AV} {a:Rat} {K:Nat} (hv:cE v a) (h0:a≠0) (ka:Hq K a) (hK:K<=10000000000):∃r,ae P L 73 [v] r/\cE r a⁻¹:=by
 obtain ⟨s1,w1,s2,w2,rfl,h1,h2⟩:=hv;obtain ⟨l1,u1⟩:=h1.az;obtain ⟨l2,u2⟩:=h2.az;obtain ⟨r,e1,hr⟩:=UH h (v:= .agg [aa s2,w2]) (w:= .agg [aa s1,w1]) ⟨s2,w2,rfl,h2⟩ ⟨s1,w1,rfl,h1⟩ (fun e=>h0 (Rat.num_eq_zero.1 e)) ka.2 ka.1 (by omega);rw [<-Rat.inv_def] at hr;have bX:=hr;obtain ⟨s7,w7,s8,w8,rfl,h7,h8⟩:=hr;obtain ⟨l7,u7⟩:=h7.az;obtain ⟨l8,u8⟩:=h8.az;refine ⟨_,?_,bX⟩;unfold ae;rw [av h.h73];simp only [go_sem,ya,yb,Wc,aB,u1.pu,u1.ah,u1.one,u2.pu,u2.ah,u2.one,aV,yd,qu,Bl,aZ,e1,bl,kU u7 u8,dc,dd,yj,hZ,lO u7 u8]
def m70 (h:Fr' P L) {v w:AV} {a b:Rat} {K:Nat} (hv:cE v a) (hw:cE w b) (h0:b≠0) (ka:Hq K a) (kb:Hq K b) (hK:K<=10000000000):∃r,ae P L 70 [v,w] r/\cE r (a/b):=by
 obtain ⟨n,e1,hn⟩:=m73 h hw h0 kb hK;obtain ⟨r,e2,hr⟩:=sK h hv hn ka kb.inv hK;have bX:=hr;obtain ⟨s1,w1,s2,w2,rfl,h1,h2⟩:=hv;obtain ⟨s3,w3,s4,w4,rfl,h3,h4⟩:=hw;obtain ⟨s5,w5,s6,w6,rfl,h5,h6⟩:=hn;obtain ⟨s7,w7,s8,w8,rfl,h7,h8⟩:=hr;obtain ⟨l1,u1⟩:=h1.az;obtain ⟨l2,u2⟩:=h2.az;obtain ⟨l3,u3⟩:=h3.az;obtain ⟨l4,u4⟩:=h4.az;obtain ⟨l5,u5⟩:=h5.az;obtain ⟨l6,u6⟩:=h6.az;obtain ⟨l7,u7⟩:=h7.az;obtain ⟨l8,u8⟩:=h8.az;refine ⟨_,?_,bX⟩;unfold ae;rw [av h.h70];simp only [go_sem,ya,yb,Wa,aB,u1.pu,u1.ah,u1.one,u2.pu,u2.ah,u2.one,u3.pu,u3.ah,u3.one,u4.pu,u4.ah,u4.one,u5.ah,u6.ah,hZ,aZ,e1,e2,bl,kU u7 u8,dc,dd,yj,hZ,lO u7 u8]
def m71 (h:Fr' P L) {v w:AV} {a b:Rat} {K:Nat} (hv:cE v a) (hw:cE w b) (ka:Hq K a) (kb:Hq K b) (hK:K<=10000000000):ae P L 71 [v,w] (aa (zV a b)):=by
 obtain ⟨s1,w1,s2,w2,rfl,h1,h2⟩:=hv;obtain ⟨s3,w3,s4,w4,rfl,h3,h4⟩:=hw;obtain ⟨l1,u1⟩:=h1.az;obtain ⟨l2,u2⟩:=h2.az;obtain ⟨l3,u3⟩:=h3.az;obtain ⟨l4,u4⟩:=h4.az;obtain ⟨p1,e1,bF⟩:=rS h.toNu (v:= .agg [aa s1,w1]) (w:= .agg [aa s4,w4]) ⟨s1,w1,rfl,h1⟩ ⟨s4,w4,rfl,h4⟩ ka.1 kb.2 (by omega);obtain ⟨p2,e2,gC⟩:=rS h.toNu (v:= .agg [aa s3,w3]) (w:= .agg [aa s2,w2]) ⟨s3,w3,rfl,h3⟩ ⟨s2,w2,rfl,h2⟩ kb.1 ka.2 (by omega);have e3:=af3 h.toNu bF gC (ka.1.mul kb.2) (kb.1.mul ka.2) (by omega);rw [aqa] at e3;obtain ⟨s5,w5,rfl,h5⟩:=bF;obtain ⟨s6,w6,rfl,h6⟩:=gC;obtain ⟨l5,u5⟩:=h5.az;obtain ⟨l6,u6⟩:=h6.az;unfold ae;rw [av h.h71];simp only [go_sem,ya,yb,Wb,aB,u1.pu,u1.ah,u1.one,u2.pu,u2.ah,u2.one,u3.pu,u3.ah,u3.one,u4.pu,u4.ah,u4.one,u5.ah,u6.ah,aV,yd,qu,Bl,aZ,e1,e2,e3,bl]
def af8 (h:Fr' P L) {v:AV} {a:Rat} {K:Nat} (hv:cE v a) (ka:Hq K a) (hK:K<=10000000000):∃r,ae P L 149 [v] r/\cL r a.floor:=by
 obtain ⟨s1,w1,s2,w2,rfl,h1,h2⟩:=hv;obtain ⟨l1,u1⟩:=h1.az;obtain ⟨l2,u2⟩:=h2.az;obtain ⟨q,r,e1,hq,hr⟩:=UG h.toNu (v:= .agg [aa s1,w1]) (w:= .agg [aa s2,w2]) ⟨s1,w1,rfl,h1⟩ ⟨s2,w2,rfl,h2⟩ (Mx a) ka.1 ka.2 (by omega);rw [<-Rat.floor_def] at hq;have cd:=hq;obtain ⟨s3,w3,rfl,h3⟩:=hq;obtain ⟨s4,w4,rfl,h4⟩:=hr;obtain ⟨l3,u3⟩:=h3.az;obtain ⟨l4,u4⟩:=h4.az;refine ⟨_,?_,cd⟩;unfold ae;rw [av h.av0];simp only [go_sem,ya,yb,TW,aB,u1.pu,u1.ah,u1.one,u2.pu,u2.ah,u2.one,aV,yd,qu,Bl,aZ,e1,oC,dc,dd,yj,mB u3,dS u3,dS u4]
end
end
section
open Go (IntKind)
def rA:List AV->Option (List Nat)
 | []=>some []
 | .int .u64 (.ofNat d)::r=>bif yK d 18446744073709551616 then (match rA r with | some l=>some (d::l) | none=>none) else none
 | _::_=>none
def rT:List Nat->Nat
 | []=>0
 | a::r=>a+18446744073709551616*rT r
def Bm:List Nat->Bool
 | []=>false
 | [a]=> !yu a 0
 | _::r=>Bm r
def MV:List AV->Option AV
 | [.agg [.int .i64 s,.ab]]=>bif Bg s then some (.str (bh s)) else none
 | [.agg [.int .i64 s,.aE _ n cs]]=>
  match rA cs with
  | some l=>
   bif yu l.length n&&(yG n 4000000000&&(Bm l&&yG 9223372036854775808 (rT l))) then
    match s with
    | .ofNat 1=>some (.str (aw (rT l)))
    | .negSucc 0=>some (.str (45::aw (rT l)))
    | _=>none
   else none
  | none=>none
 | _=>none
end
section
open Go (IntKind)
def Y3:∀{l:List Nat},lo 18446744073709551616 l->rA (l.map uc)=some l
 | [],_=>rfl
 | a::l,h=>by
  have h1:=h a (by simp);have h2:=Y3 (l:=l) (fun x hx=>h x (by simp [hx]));show (bif yK a 18446744073709551616 then (match rA (l.map uc) with | some l=>some (a::l) | none=>none) else none)=_
  rw [jM h1,h2];rfl
def Sj:∀l:List Nat,rT l=bv 18446744073709551616 l
 | []=>rfl
 | a::l=>by simp only [rT,bv,Sj l]
def aaQ:∀{l:List Nat},l≠[]->gL l->Bm l=true
 | [],h,_=>absurd rfl h
 | [a],_,h=>by
  have:a≠0:=fun e=>by
   subst e;have h:ew [0]=[0]:=h;simp [ew] at h
  simp [Bm,cG this]
 | a::b::r,_,h=>by
  have h1:gL (b::r):=by
   have h:ew (a::b::r)=a::b::r:=h;rw [ew] at h
   grind
  have:=aaQ (l:=b::r) (by simp) h1
  simpa [Bm] using this
section
variable {P:aG} {L:Lib}
structure Tx (P:aG) (L:Lib):Prop extends Fr' P L where
 Ge:L.pure 99=some MV
 av3:L.pure 175=some Ix
 af9:L.pure 152=some LS
 UJ:L.pure 153=some LB
 UK:L.pure 154=some Jb
 UL:L.pure 109=some NX
 UM:Has P L 155 Od
 aga:Has P L 172 Og
 av4:Has P L 151 Oc
 av5:Has P L 107 N4
 WV:Has P L 46 PD
 agb:Has P L 110 N5
 Qe:Has P L 62 PH
def WW (h:Tx P L) {v:AV} {z:Int} {K:Nat} (hv:cL v z) (hz:Bd K z) (hK:K<=4000000000):ae P L 99 [v] (.str (bh z)):=by
 obtain ⟨s,w,rfl,hn⟩:=hv;unfold ae;rw [js h.Ge];rcases hn with ⟨rfl,rfl,h1,h2⟩ | ⟨e,l,rfl,g,n,hb,hs,h1⟩
 ·show (bif Bg s then some (AV.str (bh s)) else none)=_
  have:Bg s=true:=by
   cases s with
   | ofNat k=>exact jM (by have:(Int.ofNat k)=(k:Int):=rfl;omega)
   | negSucc k=>exact jM (by omega)
  grind
 ·have kE:l≠[]:=fun e=>by subst e;simp [bv] at hb;omega
  have pE:l.length<=4000000000:=xj (nR n hb (yN hz (zm K))) hK
  show (match rA (l.map uc) with
   | some l'=>bif yu l'.length l.length&&(yG l.length 4000000000&&(Bm l'&&yG 9223372036854775808 (rT l'))) then (match s with | .ofNat 1=>some (AV.str (aw (rT l'))) | .negSucc 0=>some (.str (45::aw (rT l'))) | _=>none) else none
   | none=>none)=_
  rw [Y3 g];simp only [Nat.beq_refl,yv pE,aaQ kE n,Sj,hb,yv h1,wp,ym];by_cases h0:z<0
  ·rw [yI h0] at hs;subst hs;rw [mR h0];rfl
  ·rw [yB h0] at hs;subst hs;obtain ⟨m,rfl⟩:∃m:Nat,z=m:=⟨z.toNat,by omega⟩;rfl
def RT (r:Rat):List Nat:=bh r.num++(if r.den=1 then [] else 47::aw r.den)
def HS {z:Int} {k:Nat} (h:Bd k z):(bh z).length<=k+1:=by
 have h1:∀m:Nat,m<2^k->(aw m).length<=max k 1:=fun m hm=>by
  cases k with
  | zero=>
       have:m=0:=by simpa using hm
       subst this;decide
  | succ k=>
   rw [Nat.max_eq_left (by omega)];exact p9 (k:=k) (yN hm (Nat.pow_le_pow_left (by decide) _))
 by_cases h0:z<0
 ·rw [mR h0];unfold Bd at h
  grind
 ·obtain ⟨m,rfl⟩:∃m:Nat,z=m:=⟨z.toNat,by omega⟩
  have:=h1 m (by unfold Bd at h;simpa using h)
  rw [kM];omega
def Qf (h:Tx P L) {v:AV} {a:Rat} {K:Nat} (hv:cE v a) (ka:Hq K a) (hK:K<=4000000000):ae P L 46 [v] (.str (RT a)):=by
 have i1:=WU h.toFr' hv;obtain ⟨s1,w1,s2,w2,rfl,h1,h2⟩:=hv;obtain ⟨l1,u1⟩:=h1.az;obtain ⟨l2,u2⟩:=h2.az;have e1:=WW h (v:= .agg [aa s1,w1]) ⟨s1,w1,rfl,h1⟩ ka.1 hK;have e2:=WW h (v:= .agg [aa s2,w2]) ⟨s2,w2,rfl,h2⟩ ka.2 hK;have b1:=HS ka.1;have b2:=HS ka.2;rw [kM] at e2 b2;unfold ae RT;rw [av h.WV];by_cases hd:a.den=1
 ·rw [yI hd,List.append_nil];rw [hd] at i1;simp only [go_sem,ya,yb,PD,aB,u1.pu,u1.ah,u1.one,u2.pu,u2.ah,u2.one,hZ,aZ,i1,aV,yd,qu,e1]
 ·rw [yB hd];rw [yR hd] at i1;have hc:bh a.num++47::aw a.den=(bh a.num++[47])++aw a.den:=by simp
  rw [hc]
  simp only [go_sem,ya,yb,PD,aB,u1.pu,u1.ah,u1.one,u2.pu,u2.ah,u2.one,hZ,aZ,i1,aV,yd,qu,Bl,e1,e2,gO (a:=bh a.num) (b:=[47]) (by simp;omega),gO (a:=bh a.num++[47]) (b:=aw a.den) (by simp;omega)]
end
end
section
open Go (IntKind)
def av6 {n:Nat} (h:n<9223372036854775808):binOp .and (.int .i64 (n:Int)) (.int .i64 1)=some (.int .i64 ((n%2:Nat):Int)):=by
 show some (AV.int .i64 (IntKind.wrap .i64 ((xG 64 (n:Int)&&&xG 64 1).toNat:Int)))=_
 rw [show xG 64 (n:Int)=vW 64 n from BitVec.ofInt_natCast 64 n,show xG 64 1=vW 64 1 from rfl];rw [BitVec.toNat_and,wW,wW,show (1%2^64:Nat)=2^1-1 from rfl,Nat.and_two_pow_sub_one_eq_mod,wrapN (by omega)]
 grind
def av7 (n:Nat):binOp .shr (.int .i64 (n:Int)) (.int .u64 1)=some (.int .i64 ((n/2:Nat):Int)):=by
 show some (AV.int .i64 ((n:Int).fdiv (2^1)))=_
 grind
def Bd.pow {k:Nat} {z:Int} (h:Bd k z):∀e,Bd (k*e+1) (z^e)
 | 0=>by rw [tj,xF];unfold Bd;decide
 | e+1=>by
  have ih:=Bd.pow h e;rw [Int.pow_succ];exact (ih.mul h).mono (by rw [xt,yh];omega)
section
variable {P:aG} {L:Lib}
def asF (h:Nu P L) (OQ:True) {z:Int} {K k0:Nat} (hz:Bd K z) (hK:K*k0+1<=30000000000) {o1 o2:AV}:
  ∀m st,(∃(k i e:Nat) (s1 s2:Int) (w1 w2:AV),bD [1,2,4,5] st=⟨[(1,aa k),(2,.ptr 0 0),(4,.ptr 1 0),(5,.ptr 2 0)],[(2,.cells true true true 2 [aa s2,w2]),(1,.cells true true true 2 [o1,o2]),(0,.cells true true true 2 [aa s1,w1])],3,0⟩/\cN s1 w1 (z^i)/\cN s2 w2 (z^e)/\e+i*k=k0/\(0<k->i<=k0)/\k<9223372036854775808/\k=m)->
   ∃ex st',D P L (.loop [1,2,4,5] CB) st=some (ex,st')/\∃tm s2 w2 c0,st'=⟨tm,[(2,.cells true true true 2 [aa s2,w2]),(1,.cells true true true 2 [o1,o2]),(0,c0)],3,0⟩/\ex= .exit 0/\af tm 4= .ptr 1 0/\af tm 5= .ptr 2 0/\cN s2 w2 (z^k0):=by
 refine cg (I:=fun m st=>∃(k i e:Nat) (s1 s2:Int) (w1 w2:AV),st=⟨[(1,aa k),(2,.ptr 0 0),(4,.ptr 1 0),(5,.ptr 2 0)],[(2,.cells true true true 2 [aa s2,w2]),(1,.cells true true true 2 [o1,o2]),(0,.cells true true true 2 [aa s1,w1])],3,0⟩/\cN s1 w1 (z^i)/\cN s2 w2 (z^e)/\e+i*k=k0/\(0<k->i<=k0)/\k<9223372036854775808/\k=m)
  (Q:=fun ex st'=>∃tm s2 w2 c0,st'=⟨tm,[(2,.cells true true true 2 [aa s2,w2]),(1,.cells true true true 2 [o1,o2]),(0,c0)],3,0⟩/\ex= .exit 0/\af tm 4= .ptr 1 0/\af tm 5= .ptr 2 0/\cN s2 w2 (z^k0)) ?_
 rintro m st ⟨k,i,e,s1,s2,w1,w2,rfl,h1,h2,hk,hi,hkb,rfl⟩;obtain ⟨l1,u1⟩:=h1.az;obtain ⟨l2,u2⟩:=h2.az;by_cases Kt:k=0
 ·right
  subst Kt;rw [xF,yX] at hk;subst hk;simp only [go_sem,CB,show ¬(0:Int)<((0:Nat):Int) by omega];exact ⟨_,_,rfl,by simp,_,s2,w2,_,rfl,rfl,by simp only [go_sem,ya],by simp only [go_sem,ya],h2⟩
 ·left
  have cu:=hi (by omega);have he:e<=k0:=by omega
  have hik:i*1<=i*k:=yS i (by omega);have b1:Bd (K*k0+1) (z^i):=(hz.pow i).mono (by have:=yS K cu;omega);have b2:Bd (K*k0+1) (z^e):=(hz.pow e).mono (by have:=yS K he;omega);have n1:cL (.agg [aa s1,w1]) (z^i):=⟨s1,w1,rfl,h1⟩;have n2:cL (.agg [aa s2,w2]) (z^e):=⟨s2,w2,rfl,h2⟩;obtain ⟨p,e1,hp⟩:=rS h n2 n1 b2 b1 (by omega);obtain ⟨q,e2,hq⟩:=rS h n1 n1 b1 b1 (by omega);rw [<-Int.pow_add] at hp hq;obtain ⟨s3,w3,rfl,h3⟩:=hp;obtain ⟨s4,w4,rfl,h4⟩:=hq;obtain ⟨l3,u3⟩:=h3.az;obtain ⟨l4,u4⟩:=h4.az;have eO:=wq k 2;have Ld:=av6 (n:=k) hkb;have WX:=av7 k;have aAO:(i+i)*(k/2)=i*(2*(k/2)):=by rw [<-Nat.two_mul,Nat.mul_comm 2 i,Nat.mul_assoc]
  by_cases av8:k%2=1
  ·rw [av8] at Ld eO;have r9:i*k=i*(2*(k/2))+i:=by
    conv=>lhs;rw [<-eO,xt,yh]
   by_cases nk:1<k
   ·simp only [go_sem,ya,CB,show (0:Int)<(k:Int) by omega,Ld,show ((1:Nat):Int)=1 from rfl,bZ,aZ,u1.ah,u2.ah,e1,bl,bZ,yj,dS u3,dS u4,show (1:Int)<(k:Int) by omega,e2,WX]
    exact ⟨_,k/2,rfl,by omega,k/2,i+i,e+i,s4,s3,w4,w3,by simp only [go_sem,ya,yb,ay],h4,h3,by omega,fun h0=>by have:=yS (i+i) h0;omega,by omega,rfl⟩
   ·have fI:e+i+i*(k/2)=k0:=by
     have h1:k/2=0:=by omega
     rw [h1] at r9 ⊢;omega
    simp only [go_sem,ya,CB,show (0:Int)<(k:Int) by omega,Ld,show ((1:Nat):Int)=1 from rfl,bZ,aZ,u1.ah,u2.ah,e1,bl,bZ,yj,dS u3,show ¬(1:Int)<(k:Int) by omega,WX];exact ⟨_,k/2,rfl,by omega,k/2,i,e+i,s1,s3,w1,w3,by simp only [go_sem,ya,yb,ay],h1,h3,fI,fun h0=>by omega,by omega,rfl⟩
  ·have Dz:k%2=0:=by omega
   rw [Dz] at Ld eO;have r9:i*k=i*(2*(k/2)):=by
    conv=>lhs;rw [<-eO,yX]
   simp only [go_sem,ya,CB,show (0:Int)<(k:Int) by omega,Ld,show ((0:Nat):Int)=0 from rfl,vN,bZ,aZ,u1.ah,bl,bZ,yj,dS u4,show (1:Int)<(k:Int) by omega,e2,WX]
   exact ⟨_,k/2,rfl,by omega,k/2,i+i,e,s4,s2,w4,w2,by simp only [go_sem,ya,yb,ay],h4,h2,by omega,fun h0=>by have:=yS (i+i) h0;omega,by omega,rfl⟩
def av9 (h:Nu P L) (UM:Has P L 155 Od) {v:AV} {z:Int} {K k:Nat} (hv:cL v z) (hz:Bd K z) (hK:K*k+1<=30000000000) (hk:k<9223372036854775808):∃r,ae P L 155 [v,aa k] r/\cL r (z^k):=by
 obtain ⟨o1,o2⟩:=Di h (z:=1) (by decide) (by decide);obtain ⟨s1,w1,rfl,h1⟩:=hv;obtain ⟨l1,u1⟩:=h1.az;have un:=sQ;have je:∃s w,ae P L 155 [.agg [aa s1,w1],aa k] (.agg [aa s,w])/\cN s w (z^k):=by
  unfold ae;rw [av UM];simp only [go_sem,ya,yb,Od,aB,u1.pu,u1.one,o1,bl,dS un];generalize hq:D P L (.loop [1,2,4,5] CB) _=q;obtain ⟨ex,st,rfl,tm,s5,w5,c1,rfl,rfl,t4,t5,h5⟩:=bP hq (asF (P:=P) (L:=L) h trivial hz (k0:=k) hK (o1:= .int .i64 0) (o2:= .ab) k) ⟨k,1,0,s1,1,w1,.ab,by simp only [go_sem,ya,yb,ay],by rw [Int.pow_one];exact h1,.inl ⟨rfl,(tj z).symm,(by rw [tj];decide)⟩,by omega,fun h0=>h0,hk,rfl⟩
  obtain ⟨l5,u5⟩:=h5.az;refine ⟨s5,w5,?_,h5⟩;simp only [go_sem,ya,yb,ay,t4,t5,dc,dd,bZ,yj,mB u5,dS u5]
 obtain ⟨s,w,e,hn⟩:=je;exact ⟨_,e,s,w,rfl,hn⟩
def H8:∀(l m:List Nat) (a:Nat),cW (l++m) a=(cW l a).bind (fun v=>cW m v)
 | [],m,a=>rfl
 | b::l,m,a=>by
  simp only [List.cons_append,cW]
  cases (yG 48 b&&yG b 57) with
  | true=>exact H8 l m _
  | false=>rfl
def anV:∀{l:List Nat} {a v:Nat},cW l 0=some v->cW l a=some (a*10^l.length+v):=by
 intro l
 suffices h:∀{l:List Nat} {a b v:Nat},cW l b=some v->b*10^l.length<=v/\cW l (a+b)=some (a*10^l.length+v) by
  intro a v hv
  have:=(h (a:=a) hv).2
  grind
 intro l
 induction l with
 | nil=>intro a b v h;simp [cW] at h ⊢;omega
 | cons c l ih=>
  intro a b v h;simp only [cW] at h ⊢
  cases hb:(yG 48 c&&yG c 57) with
  | false=>rw [hb] at h;cases h
  | true=>
   rw [hb] at h;obtain ⟨h1,h2⟩:=ih (a:=10*a) h;simp only [yr,xg]
   grind
def Sk:∀{l:List Nat} {v:Nat},cW l 0=some v->v<10^l.length:=by
 suffices h:∀{l:List Nat} {b v:Nat},cW l b=some v->v<(b+1)*10^l.length by
  grind
 intro l
 induction l with
 | nil=>intro b v h;simp [cW] at h ⊢;omega
 | cons c l ih=>
  intro b v h;simp only [cW] at h
  cases hb:(yG 48 c&&yG c 57) with
  | false=>rw [hb] at h;cases h
  | true=>
   simp only [Bool.and_eq_true] at hb;have hc:=Nat.le_of_ble_eq_true hb.2;have h2:=Nat.mul_le_mul_right (10^l.length) (show 10*b+(c-48)+1<=10*(b+1) by omega)
   grind
def aqb (UK:L.pure 154=some Jb) {f:cK} {s:List Nat} {v:Nat} (h0:0<s.length) (h1:s.length<=18) (hv:cW s 0=some v):bO P L f 154 [.str s]=some (.ap [.int .i64 v,.undef]):=by
 rw [js UK];show (bif yK 0 s.length&&yG s.length 18 then (match cW s 0 with | some n=>some (AV.ap [.int .i64 n,.undef]) | none=>none) else none)=_
 rw [jM h0,yv h1,hv];rfl
end
end
section
open Go (IntKind)
def ZQ:∀j:Nat,ib [48] j++[48]=[48]++ib [48] j
 | 0=>rfl
 | j+1=>by
  show ([48]++ib [48] j)++[48]=[48]++([48]++ib [48] j)
  rw [xp,ZQ j]
def Ej:∀j:Nat,(ib [48] j).length=j
 | 0=>rfl
 | j+1=>by show ([48]++ib [48] j).length=_;rw [yQ,Ej j];simp;omega
def alE:∀(k n:Nat),n<10^k->0<k->iN k n=ib [48] (k-(aw n).length)++aw n:=by
 intro k
 induction k with
 | zero=>intro n _ h;omega
 | succ k ih=>
  intro n hn _;rw [iN];by_cases iT:n<10
  ·rw [oB iT,Nat.mod_eq_of_lt iT]
   cases k with
   | zero=>rfl
   | succ k=>
    rw [ih (n/10) (by rw [wH iT];exact ybm (by decide)) (by omega),wH iT]
    rw [show aw 0=[48] by decide];rw [ZQ];rfl
  ·have hk:0<k:=by
    grind
   rw [ih (n/10) (by rw [xg] at hn;omega) hk,p0 iT,xp,yQ]
   grind
def alF {m d r:Nat} (hd:d=m/1000000000000000000) (hr:r=m%1000000000000000000):(0<d->aw m=aw d++(ib [48] (18-(aw r).length)++aw r))/\(d=0->aw m=aw r):=by
 have WR:r<10^18:=by omega
 constructor
 ·intro h0;rw [<-alE 18 r WR (by decide),<-Mt 18 d r h0 WR]
  grind
 ·grind
section
variable {P:aG} {L:Lib}
def asG {f:cK} (h:L.pure 138=some AH) {n:Nat} (hn:n<18446744073709551616):bO P L f 138 [uc n,aa 10]=some (.str (aw n)):=by
 rw [js h];show (bif yK n 18446744073709551616 then some (AV.str (aw n)) else none)=_
 rw [jM hn];rfl
def SR {f:cK} (h:L.pure 139=some AZ) {n:Nat} (hn:n<=100):bO P L f 139 [.str [48],aa (n:Nat)]=some (.str (ib [48] n)):=by
 rw [js h];show (bif yG n 1099511627776&&yG (1*n) 1099511627776 then some (AV.str (ib [48] n)) else none)=_
 rw [yv (by omega),yv (by omega)];rfl
def asH (h:Wd P L) (Dk:L.pure 138=some AH) (zW:L.pure 139=some AZ) {neg:Bool} {M K:Nat} (hM0:0<M) (hK:K<=4000000000) (hlen:(aw M).length<=300000000000):
  ∀k s,(∃(m:Nat) (w:AV) (ps:List (List Nat)) (fl:Bool),m=k/\WN w m/\m<18446744073709551616^K/\aw M=(if m=0 then [] else aw m)++ps.reverse.flatten/\((ps=[]->m=M)/\18*ps.length<=(aw M).length+18)/\(m≠0->18*ps.length+(aw m).length=(aw M).length)/\
    ((ps=[]/\bD [3,4,5,6] s=⟨[(3,.bool neg),(4,w),(5,.an 0 0 1),(6,.ab)],[(0,.cells fl true true 1 [uc 1000000000000000000])],1,0⟩)\/
    (ps≠[]/\bD [3,4,5,6] s=⟨[(3,.bool neg),(4,w),(5,.an 0 0 1),(6,.an 1 0 ps.length)],[(1,.cells true true false 1 (ps.map .str)),(0,.cells fl true true 1 [uc 1000000000000000000])],2,0⟩)))->
   ∃ex s',D P L (.loop [3,4,5,6] oQ) s=some (ex,s')/\∃tm ps fl,ex= .exit 0/\ps≠[]/\ps.length<=300000000000/\aw M=ps.reverse.flatten/\af tm 3= .bool neg/\af tm 6= .an 1 0 ps.length/\s'=⟨tm,[(1,.cells true true false 1 (ps.map .str)),(0,.cells fl true true 1 [uc 1000000000000000000])],2,0⟩:=by
 refine cg (I:=fun k s=>∃(m:Nat) (w:AV) (ps:List (List Nat)) (fl:Bool),m=k/\WN w m/\m<18446744073709551616^K/\aw M=(if m=0 then [] else aw m)++ps.reverse.flatten/\((ps=[]->m=M)/\18*ps.length<=(aw M).length+18)/\(m≠0->18*ps.length+(aw m).length=(aw M).length)/\
    ((ps=[]/\s=⟨[(3,.bool neg),(4,w),(5,.an 0 0 1),(6,.ab)],[(0,.cells fl true true 1 [uc 1000000000000000000])],1,0⟩)\/
    (ps≠[]/\s=⟨[(3,.bool neg),(4,w),(5,.an 0 0 1),(6,.an 1 0 ps.length)],[(1,.cells true true false 1 (ps.map .str)),(0,.cells fl true true 1 [uc 1000000000000000000])],2,0⟩))) (Q:=fun ex s'=>∃tm ps fl,ex= .exit 0/\ps≠[]/\ps.length<=300000000000/\aw M=ps.reverse.flatten/\af tm 3= .bool neg/\af tm 6= .an 1 0 ps.length/\s'=⟨tm,[(1,.cells true true false 1 (ps.map .str)),(0,.cells fl true true 1 [uc 1000000000000000000])],2,0⟩) ?_
 rintro k s ⟨m,w,ps,fl,rfl,hw,hmK,AB,agc,py,hs⟩;obtain ⟨lw,uw,gw,nw,vw⟩:=hw;by_cases hm:m=0
 ·right
  have kE:lw=[]:=List.eq_nil_of_length_eq_zero (Nat.le_zero.1 (nR (K:=0) nw vw (by rw [hm];decide)))
  subst kE;rw [yI hm,wa] at AB;have eK:ps≠[]:=fun e=>by have:=agc.1 e;omega
  have Qg:ps.length<=300000000000:=by have:=agc.2;omega
  rcases hs with ⟨h0,_⟩ | ⟨_,rfl⟩
  ·exact absurd h0 eK
  ·simp only [go_sem,ya,oQ,uw.len,yE,show ¬(0:Int)<((0:Nat):Int) by omega];exact ⟨_,_,rfl,by simp,_,ps,fl,rfl,eK,Qg,AB,by simp only [go_sem,ya],by simp only [go_sem,ya],rfl⟩
 ·left
  have hw:WN w m:=⟨lw,uw,gw,nw,vw⟩;have hB:WN (.aE true 1 [uc 1000000000000000000]) 1000000000000000000:=⟨[1000000000000000000],mT true [1000000000000000000],EK.2 (by decide),by decide,by simp [bv]⟩;obtain ⟨q,r,e1,hq,hr⟩:=afY h hw hB (K:=K+1) (by decide) (yN hmK (Nat.pow_le_pow_right (by decide) (by omega))) (by rw [xg];have:=ybm (n:=K) (show 0<18446744073709551616 by decide);omega) (by omega)
  obtain ⟨t1,t2⟩:=alF (m:=m) rfl rfl;have eO:=wq m 1000000000000000000;have hrB:=xy m (show 0<1000000000000000000 by decide);obtain ⟨d,hd⟩:∃d,d=m/1000000000000000000:=⟨_,rfl⟩;obtain ⟨x,hx⟩:∃x,x=m%1000000000000000000:=⟨_,rfl⟩;rw [<-hd] at hq t1 t2 eO;rw [<-hx] at hr t1 t2 eO hrB;obtain ⟨lq,uq,gq,nq,vq⟩:=hq;obtain ⟨lr,ur,gr,nr,vr⟩:=hr;have hxl:(aw x).length<=18:=p9 (k:=17) (by omega);have hxp:=ri x;have KX:(lr=[]/\x=0)\/lr=[x]:=by
   have h1:lr.length<=1:=nR (K:=1) nr vr (by rw [Nat.pow_one];omega)
   cases lr with
   | nil=>exact .inl ⟨rfl,by rw [<-vr];rfl⟩
   | cons a l=>
    cases l with
    | nil=>rw [zk] at vr;exact .inr (by rw [vr])
    | cons b l=>simp at h1
  have Gf:(lq=[]/\d=0)\/(0<lq.length/\0<d):=by
   cases lq with
   | nil=>exact .inl ⟨rfl,by rw [<-vq];rfl⟩
   | cons a l=>
    refine .inr ⟨by simp,?_⟩;rcases Nat.eq_zero_or_pos d with h0 | h0
    ·have:=nR (K:=0) nq vq (by rw [h0];decide)
     simp at this
    ·exact h0
  unfold ae at e1;have B4:(0:Int)<(lw.length:Int):=by
   have:lw≠[]:=fun e=>by subst e;simp [bv] at vw;omega
   have:=List.length_pos_iff.2 this
   omega
  have aA0:=py hm;have hmp:=ri m;have new:∀t:List Nat,aw m=(if d=0 then [] else aw d)++t->(d≠0->t.length=18)->
    aw M=(if d=0 then [] else aw d)++(ps++[t]).reverse.flatten/\((ps++[t]=[]->d=M)/\18*(ps++[t]).length<=(aw M).length+18)/\(d≠0->18*(ps++[t]).length+(aw d).length=(aw M).length):=fun t h1 h2=>by
   rw [yB hm,h1] at AB;refine ⟨by rw [AB];simp,⟨by simp,by simp only [yQ,yr,yE];omega⟩,fun h0=>?_⟩
   have h3:=congrArg List.length h1;rw [yB h0,yQ,h2 h0] at h3;simp only [yQ,yr,yE];omega
  have BC:d<m:=by omega
  have B5:WN q d:=⟨lq,uq,gq,nq,vq⟩;have oh:lr=[x]->jx 1 0 r=some (.aI (.int .u64 x::([]:List AV))):=fun e=>by
   subst e
   have:=ur.bk (i:=0) (by simp)
   simpa using this
  have f1:=asG (P:=P) (f:=D P L) Dk (n:=x) (by omega);have f2:=SR (P:=P) (f:=D P L) zW (n:=18-(aw x).length) (by omega);have UN:(18:Int)-((aw x).length:Int)=((18-(aw x).length:Nat):Int):=by omega
  have aA1:18*ps.length<=300000000000:=by omega
  have zl:(ib [48] (18-(aw x).length)++aw x).length=18:=by rw [yQ,Ej];omega
  obtain ⟨z,hz⟩:∃z,z=aw x:=⟨_,rfl⟩;have jD:x=0->z=[48]:=fun e=>by rw [hz,e];decide
  rw [<-hz] at f1 f2 UN hxl hxp zl t1 t2;cases fl
  all_goals
   rcases Gf with ⟨rfl,iE⟩ | ⟨Qh,iE⟩
   ·obtain ⟨n1,n2,n3⟩:=new z (by rw [yI iE,wa];exact t2 iE) (fun h=>absurd iE h)
    rcases KX with ⟨rfl,At⟩ | rfl
    ·have mb:=jD At;clear hz;subst mb;rcases hs with ⟨fD,rfl⟩ | ⟨fD,rfl⟩
     ·subst fD;simp only [go_sem,ya,yb,xQ,yt,ye,yh,oQ,uw.len,uw.ah,uq.len,uq.bT,ur.len,ur.bT,B4,e1,yE,yE,show ¬(0:Int)<((0:Nat):Int) by omega,kL];refine ⟨_,d,rfl,BC,d,q,[]++[[48]],false,rfl,B5,by omega,n1,n2,n3,.inr ⟨by simp,?_⟩⟩;simp only [go_sem,ya,yb,ay,aJ uq.pu,aO _ uq.pu]<;>rfl
     ·simp only [go_sem,ya,yb,yt,ye,yh,oQ,uw.len,uw.ah,uq.len,uq.bT,ur.len,ur.bT,B4,e1,yE,yE,show ¬(0:Int)<((0:Nat):Int) by omega]
      rw [ki (ex:=false) (pu:=true) (cs:=ps.map .str) (by simp only [go_sem,ya]) (by simp) (by omega) (by omega) (by decide) (by simp only [go_sem])];simp only [go_sem,ya,yb];refine ⟨_,d,rfl,BC,d,q,ps++[[48]],false,rfl,B5,by omega,n1,n2,n3,.inr ⟨by simp,?_⟩⟩;rw [xC,yQ];simp only [go_sem,ya,yb,ay,aJ uq.pu,aO _ uq.pu]<;>rfl
    ·rcases hs with ⟨fD,rfl⟩ | ⟨fD,rfl⟩
     ·subst fD;simp only [go_sem,ya,yb,xQ,yt,ye,yh,oQ,uw.len,uw.ah,uq.len,uq.bT,ur.len,ur.bT,B4,e1,yr,yE,yd,show (0:Int)<((1:Nat):Int) by omega,oh rfl,f1,yE,show ¬(0:Int)<((0:Nat):Int) by omega,kL];refine ⟨_,d,rfl,BC,d,q,[]++[z],false,rfl,B5,by omega,n1,n2,n3,.inr ⟨by simp,?_⟩⟩;simp only [go_sem,ya,yb,ay,aJ uq.pu,aO _ uq.pu]<;>rfl
     ·simp only [go_sem,ya,yb,yt,ye,yh,oQ,uw.len,uw.ah,uq.len,uq.bT,ur.len,ur.bT,B4,e1,yr,yE,yd,show (0:Int)<((1:Nat):Int) by omega,oh rfl,f1,yE,show ¬(0:Int)<((0:Nat):Int) by omega]
      rw [ki (ex:=false) (pu:=true) (cs:=ps.map .str) (by simp only [go_sem,ya]) (by simp) (by omega) (by omega) (by decide) (by simp only [go_sem])];simp only [go_sem,ya,yb];refine ⟨_,d,rfl,BC,d,q,ps++[z],false,rfl,B5,by omega,n1,n2,n3,.inr ⟨by simp,?_⟩⟩;rw [xC,yQ];simp only [go_sem,ya,yb,ay,aJ uq.pu,aO _ uq.pu]<;>rfl
   ·obtain ⟨n1,n2,n3⟩:=new (ib [48] (18-z.length)++z) (by rw [yB (by omega)];exact t1 iE) (fun _=>zl)
    rcases KX with ⟨rfl,At⟩ | rfl
    ·have mb:=jD At;clear hz;subst mb;rcases hs with ⟨fD,rfl⟩ | ⟨fD,rfl⟩
     ·subst fD
      simp only [go_sem,ya,yb,xQ,yt,ye,yh,oQ,uw.len,uw.ah,uq.len,uq.bT,ur.len,ur.bT,B4,e1,yE,show ¬(0:Int)<((0:Nat):Int) by omega,show (0:Int)<(lq.length:Int) by omega,show (18:Int)-((1:Nat):Int)=((17:Nat):Int) from rfl,wrapN (n:=17) (by omega),SR (P:=P) (f:=D P L) zW (n:=17) (by omega),gO (a:=ib [48] 17) (b:=[48]) (by rw [Ej];decide),kL]
      refine ⟨_,d,rfl,BC,d,q,[]++[ib [48] 17++[48]],false,rfl,B5,by omega,n1,n2,n3,.inr ⟨by simp,?_⟩⟩;simp only [go_sem,ya,yb,ay,aJ uq.pu,aO _ uq.pu]<;>rfl
     ·simp only [go_sem,ya,yb,yt,ye,yh,oQ,uw.len,uw.ah,uq.len,uq.bT,ur.len,ur.bT,B4,e1,yE,show ¬(0:Int)<((0:Nat):Int) by omega,show (0:Int)<(lq.length:Int) by omega,show (18:Int)-((1:Nat):Int)=((17:Nat):Int) from rfl,wrapN (n:=17) (by omega),SR (P:=P) (f:=D P L) zW (n:=17) (by omega),gO (a:=ib [48] 17) (b:=[48]) (by rw [Ej];decide)]
      rw [ki (ex:=false) (pu:=true) (cs:=ps.map .str) (by simp only [go_sem,ya]) (by simp) (by omega) (by omega) (by decide) (by simp only [go_sem])];simp only [go_sem,ya,yb];refine ⟨_,d,rfl,BC,d,q,ps++[ib [48] 17++[48]],false,rfl,B5,by omega,n1,n2,n3,.inr ⟨by simp,?_⟩⟩;rw [xC,yQ];simp only [go_sem,ya,yb,ay,aJ uq.pu,aO _ uq.pu]<;>rfl
    ·rcases hs with ⟨fD,rfl⟩ | ⟨fD,rfl⟩
     ·subst fD
      simp only [go_sem,ya,yb,xQ,yt,ye,yh,oQ,uw.len,uw.ah,uq.len,uq.bT,ur.len,ur.bT,B4,e1,yr,yE,yd,show (0:Int)<((1:Nat):Int) by omega,oh rfl,f1,show (0:Int)<(lq.length:Int) by omega,UN,wrapN (n:=18-z.length) (by omega),f2,gO (a:=ib [48] (18-z.length)) (b:=z) (by rw [Ej];omega),kL];refine ⟨_,d,rfl,BC,d,q,[]++[ib [48] (18-z.length)++z],false,rfl,B5,by omega,n1,n2,n3,.inr ⟨by simp,?_⟩⟩;simp only [go_sem,ya,yb,ay,aJ uq.pu,aO _ uq.pu]<;>rfl
     ·simp only [go_sem,ya,yb,yt,ye,yh,oQ,uw.len,uw.ah,uq.len,uq.bT,ur.len,ur.bT,B4,e1,yr,yE,yd,show (0:Int)<((1:Nat):Int) by omega,oh rfl,f1,show (0:Int)<(lq.length:Int) by omega,UN,wrapN (n:=18-z.length) (by omega),f2,gO (a:=ib [48] (18-z.length)) (b:=z) (by rw [Ej];omega)]
      rw [ki (ex:=false) (pu:=true) (cs:=ps.map .str) (by simp only [go_sem,ya]) (by simp) (by omega) (by omega) (by decide) (by simp only [go_sem])];simp only [go_sem,ya,yb];refine ⟨_,d,rfl,BC,d,q,ps++[ib [48] (18-z.length)++z],false,rfl,B5,by omega,n1,n2,n3,.inr ⟨by simp,?_⟩⟩;rw [xC,yQ];simp only [go_sem,ya,yb,ay,aJ uq.pu,aO _ uq.pu]<;>rfl
end
end
section
open Go (IntKind)
def nT:Nat->VC->VC
 | 0,c=>bC c
 | n+1,c=> .seq (bC c) (nT n (ax c))
def jN:Nat->VC->VC
 | 0,c=>ax c
 | n+1,c=>jN n (ax c)
def agd:Nat->VC->Prop
 | 0,c=>c= .seq (bC c) (ax c)
 | n+1,c=>c= .seq (bC c) (ax c)/\agd n (ax c)
def Sl {P:aG} {L:Lib}:∀(n:Nat) {c:VC},agd n c->∀s,D P L c s=mA P L (D P L (nT n c) s) (jN n c)
 | 0,c,h,s=>by
  conv=>lhs;rw [show c= .seq (bC c) (ax c) from h]
  rw [iK];rfl
 | n+1,c,h,s=>by
  conv=>lhs;rw [show c= .seq (bC c) (ax c) from h.1]
  show _=mA P L (D P L (.seq (bC c) (nT n (ax c))) s) (jN n (ax c))
  rw [iK,iK]
  cases D P L (bC c) s with
  | none=>rfl
  | some q=>
   obtain ⟨ex,st⟩:=q
   cases ex with
   | normal=>rw [fu,fu];exact Sl n h.2 st
   | ret=>rfl
   | exit id=>rfl
end
section
open Go (IntKind)
section
variable {P:aG} {L:Lib}
def ajW (h:Nu P L) (Dk:L.pure 138=some AH) (zW:L.pure 139=some AZ) {s z:Int} {e:Bool} {l:List Nat} (hn:cN s (.aE e l.length (l.map uc)) z) {K:Nat} (mb:0<z.natAbs) (Qi:z.natAbs<18446744073709551616^K) (hK:K<=4000000000) (hlen:(aw z.natAbs).length<=300000000000):
  ∃ps:List (List Nat),ps≠[]/\ps.length<=300000000000/\aw z.natAbs=ps.reverse.flatten/\D P L (nT 5 DA.body) ⟨[(0,.agg [aa s,.aE e l.length (l.map uc)])],[],0,0⟩=some (.normal,⟨[(3,.bool (decide (z<0))),(6,.an 0 0 ps.length)],[(0,.cells true true false 1 (ps.map .str))],1,0⟩):=by
 obtain ⟨r,e1,hr⟩:=zU h hn;have bX:=hr;obtain ⟨lr,ur,gr,nr,vr⟩:=hr;unfold ae at e1;simp only [go_sem,ya,yb,ye,yh,DA,nT,bC,ax,aB,aV,yd,bU,nH,cQ,bZ,aZ,e1];generalize mQ:D P L (.loop [3,4,5,6] oQ) _=qq;obtain ⟨ex,st,rfl,tm,ps,fl,rfl,eK,Qg,AB,t3,t6,rfl⟩:=bP mQ (asH (P:=P) (L:=L) h.toWd Dk zW (neg:=decide (z<0)) (M:=z.natAbs) (K:=K) mb hK hlen z.natAbs) ⟨z.natAbs,bT r,[],true,rfl,bX,Qi,by rw [yB (by omega)];simp,⟨fun _=>rfl,by simp⟩,fun _=>by simp,.inl ⟨rfl,by
  simp only [go_sem,ya,yb,ay,aJ ur.pu,aO _ ur.pu]<;>rfl⟩⟩
 refine ⟨ps,eK,Qg,AB,?_⟩;simp only [go_sem,yb,ay,t3,t6]
end
end
section
open Go
variable {O:bA}
def zC:Nat->wI->wI
 | 0,.seq _ b=>b
 | n+1,.seq _ b=>zC n b
 | _,c=>c
def OT:Nat->wI->Prop
 | 0,.seq _ _=>True
 | n+1,.seq _ b=>OT n b
 | _,_=>False
def aaR (hO:eP O) {h:Nat} {c:wI} {l k:Nat} {s:St} {ex:Ex} {s':St} (hv:D O.prog O.aU (comp O.P (O.hint h) c l k).1 s=some (ex,s')):Bf O h c s ex s':=by
 obtain ⟨n,hn⟩:=Uo hv
 cases n with
 | zero=>rw [Ig] at hn;cases hn
 | succ n=>
  exact abr hO n (fun k _=>Yc hO k) h c l k n (Nat.le_refl _) s ex s' hn
def adG (hO:eP O) {h:Nat} {ro:Option Nat} {lo:Nat} {Q:Exit->Act->World->Prop}:∀(n:Nat) (c:wI) (l k:Nat),OT n c->∀(s s1:St),D O.prog O.aU (nT n (comp O.P (O.hint h) c l k).1) s=some (.normal,s1)->
  ∀(m:Mp) (S:Nat->Prop) (w:World) (a:Act),zd ro w->cw O m S w s.tm a.tmps->bf O m S w s.hp s.ct->s.base<=s.ct->(O.hint h).n<=a.tmps.size->O.w0.heap.size<=lo->lo<=w.heap.size->Marks lo S w a.defers->
  (∀a' w',eZ O m S w s .normal s1 a.tmps.size lo .normal a' w'->(zC n c).wpIn (WF ro) 0 O.P Q a' w')->c.wpIn (WF ro) 0 O.P Q a w
 | n,c,l,k,hc,s,s1,hv=>by
  intro m S w a dh ht hh hb hn bq fE cU hQ
  cases c with
  | seq x y=>
   cases n with
   | zero=>
    refine wpIn_seq (wpIn_mono (aaR hO (show D O.prog O.aU (comp O.P (O.hint h) x l k).1 s=some (.normal,s1) from hv) ro lo m S w a dh ht hh hb hn bq fE cU) ?_);rintro e a' w' hp;have he:e= .normal:=hp.1;subst he;exact hQ a' w' hp
   | succ n=>
    have eL:D O.prog O.aU (.seq (comp O.P (O.hint h) x l k).1 (nT n (comp O.P (O.hint h) y (comp O.P (O.hint h) x l k).2.1 (comp O.P (O.hint h) x l k).2.2).1)) s=some (.normal,s1):=hv;rw [iK] at eL
    cases hx:D O.prog O.aU (comp O.P (O.hint h) x l k).1 s with
    | none=>rw [hx] at eL;cases eL
    | some q=>
     obtain ⟨ex,st⟩:=q;rw [hx] at eL
     cases ex with
     | ret=>exact absurd eL (by intro h;cases h)
     | exit id=>exact absurd eL (by intro h;cases h)
     | normal=>
      refine wpIn_seq (wpIn_mono (aaR hO hx ro lo m S w a dh ht hh hb hn bq fE cU) ?_);rintro e a' w' ⟨rfl,m',S',k1,k2,k3,k4,k5,k6,k7⟩;refine adG hO n y _ _ hc st s1 eL m' S' w' a' (L5 k5 dh) k1 k2 (by omega) (by omega) bq (xj fE k5.size) k7 ?_;rintro a2 w2 ⟨_,m2,S2,g1,g2,g3,g4,g5,g6,g7⟩;exact hQ a2 w2 ⟨rfl,m2,S2,g1,g2,by omega,by omega,k5.trans (by rw [<-k3];exact g5),by omega,g7⟩
  | _=>cases n<;>exact hc.elim
def asI (hO:eP O) {n:Nat} {F:aD} (hF:O.prog n=some F) {fn:Func} {c:wI} (lE:O.P.funcs[O.ai n]? =some fn) (jn:fn.body=some c) {hp:Hp} {ct:Nat} {vals:List AV} {s:St}
  (hc:(comp O.P (O.hint n) c 0 0).1=F.body->∀m S w a,cw O m S w (fG 0 vals) a.tmps->bf O m S w hp ct->(O.hint n).n<=a.tmps.size->a.tmps.size=max fn.ntmps vals.length->O.w0.heap.size<=w.heap.size->a.defers=[]->
   c.wpIn (WF none) 0 O.P (eZ O m S w ⟨fG 0 vals,hp,ct,ct⟩ .ret s a.tmps.size w.heap.size) a w) {v:AV} (hr:gN s F.dT=some v):Be O n hp ct vals v s.hp s.ct:=by
 intro m S w args hh hX;obtain ⟨fn',q1,q2,q3⟩:=hO.prog n F hF;rw [lE] at q1;cases q1;obtain ⟨c',q4,q5,q6,q7⟩:=QD q2;rw [jn] at q4;cases q4;refine .inl ⟨Mq lE (by rw [jn];rfl) q3,?_⟩
 have hlen:vals.length=args.size:=by have:=(iY _ _ hX).symm;simpa using this
 have hw:=hc q5.symm m S w {tmps:=args++Array.replicate (fn.ntmps-args.size) undef,defers:=[]} (Zw _ hX) hh (by simp;omega) (by simp;omega) hh.gA rfl
 refine callsIn_of_wp_marks (F:=pm) lE jn trivial (wpIn_mono hw ?_);rintro e a' w' ⟨rfl,m',S',k1,k2,k3,k4,k5,k6,rs,k7,k8,k9⟩;show LeavesInM pm 0 O.P fn a'.tmps (sO O m S w hp ct v s.hp s.ct) a'.defers .returning w'
 rw [k7];exact Rh q6 hr k4 rs w' k8 k9 hh.gA k2 k1 k5
def anW (hO:eP O) {n:Nat} {F:aD} (hF:O.prog n=some F) {fn:Func} {c:wI} (lE:O.P.funcs[O.ai n]? =some fn) (jn:fn.body=some c) {vals:List AV} {s:St}
  (hc:(comp O.P (O.hint n) c 0 0).1=F.body->∀m S w a,cw O m S w (fG 0 vals) a.tmps->bf O m S w [] 0->(O.hint n).n<=a.tmps.size->a.tmps.size=max fn.ntmps vals.length->O.w0.heap.size<=w.heap.size->a.defers=[]->
   c.wpIn (WF none) 0 O.P (eZ O m S w ⟨fG 0 vals,[],0,0⟩ .ret s a.tmps.size w.heap.size) a w) {v r:AV} (hv:gN s F.dT=some v) (hr:result s.hp v=some r):eX O n vals r:=
 Qz (asI hO hF lE jn hc hv) hr
end
end VE
