import Derived.Test.YtpdlhopnhojpjaaGreatDoorTak
import Derived.Test.YtpdlhopnhojpjaaGreatDoorTad
import Derived.Test.YtpdlhopnhojpjaaGreatDoorTaj
set_option linter.all false
set_option maxRecDepth 100000
open BitVec renaming ofInt→xV,ofNat→uR,toNat_ofNat→vP
open Bool renaming and_self→wm,false_eq_true→yN,not_false→yU,not_true→yR,true_and→wK
open Go renaming Code→vn,Func→ybx,World→ym
open Go.Fence renaming wide→yaW
open Int renaming ediv_emod_unique→tD,gcd→vv,gcd_comm→ybT,natAbs_ediv_of_dvd→uy,natAbs_mul→ybs,natCast_mul→vA,pow_zero→yas,reduceEq→uh,reduceLT→ybS
open List renaming append_assoc→xm,drop_zero→yL,length_append→yG,length_cons→yy,length_nil→yO,length_pos_iff→uz,map_append→xg,map_map→wu,map_reverse→yad,nil_append→xp
open Nat renaming add_zero→y7,beq→yz,ble→yK,ble_eq_true_of_le→yx,blt→yQ,div_add_mod→wg,div_eq_of_lt→vc,div_le_self→vM,eq_zero_or_pos→xB,le_refl→yq,le_trans→xv,lt_of_le_of_lt→wY,lt_of_lt_of_le→yV,mod_eq_of_lt→yY,mod_le→ycl,mod_lt→xH,mul_add→xK,mul_le_mul_left→y8,mul_lt_mul''→yal,mul_one→yh,mul_zero→xM,pow_add→wZ,pow_le_pow_left→ue,pow_le_pow_right→xh,pow_one→ycd,pow_pos→ycb,pow_succ→xi,reduceAdd→yd,reduceEqDiff→ya,reduceLT→yJ,reduceLeDiff→yp,reduceMul→xj,zero_add→yg
open Rat renaming den_divInt→ybu,divInt→wL,divInt_ofNat→ybh,num_divInt→ybt,sub_eq_add_neg→yaV
open UInt8 renaming toNat→xf
namespace VE
open Go (IntKind)
def lK (v:AV) (n:Int):Prop:=∃w l,v= .agg [.bool (decide (n<0)),w]/\bq w l/\dg l/\nz l/\dv l=n.natAbs
def jQ {l:List Int} {k:Nat} (hd:dg l) (hn:nz l) (h:dv l<1000000000^k):l.length<=k:=by
 by_cases h0:l=[]
 ·grind
 ·have h1:=Po hn hd h0;have h2:1000000000^(l.length-1)<1000000000^k:=wY h1 h;have h3:=(Nat.pow_lt_pow_iff_right (show 1<1000000000 by decide)).1 h2;omega
def ie {hp:Hp} {ct id:Nat} {a b x y:AV} (h1:dG a=true) (h2:dG b=true) (p1:a7 a=true) (p2:a7 b=true):
  gP hp ct id 0 2 [a,b] (some (.cells true true true 2 [x,y]))=some (.az [],aT hp id (.cells true true true 2 [a,b]),ct):=by
 rw [od (by rfl) (by simp) (by simp [cw,h1,h2])];simp [aH,p1,p2,over]
section
variable {P:aM} {L:Lib}
def cM (neg:Bool) (m:Nat):Int:=if neg=true then -(m:Int) else m
def AS (h:Has P L 294 Cn) (dd:Has P L 300 mJ) (neg:Bool) {v:AV} {l:List Int} (hv:bq v l) (hd:dg l) (hl:l.length<=20000000000):
  ∃r,aj P L 294 [.bool neg,v] r/\lK r (cM neg (dv l)):=by
 obtain ⟨w,e1,hw,iq⟩:=Cu dd hv hl;have rB:=zZ l;have CX:=FH l;have oL:=BH hd;have hc:(neg&&decide ((0:Int)<((eA l).length:Nat)))=decide (cM neg (dv l)<0):=by
  unfold cM
  cases neg with
  | false=>simp
  | true=>
   simp only [wK,xE];by_cases h0:eA l=[]
   ·rw [h0] at rB ⊢;simp only [dv] at rB;simp [<-rB]
   ·have h1:0<(eA l).length:=uz.2 h0;have h2:0<dv l:=by
     rw [<-rB];rcases xB (dv (eA l)) with h | h
     ·exact absurd (acD CX oL h) h0
     ·exact h
    rw [xq (by omega),xq (by omega)]
 refine ⟨.agg [.bool (decide (cM neg (dv l)<0)),w],?_,w,eA l,rfl,hw,oL,CX,?_⟩
 ·rw [<-hc];unfold aj at e1 ⊢;rw [aI h]
  cases neg with
  | false=>
   simp only [go_sem,ya,yd,yp,Cn,bc,hv.an,e1,hw.pu,hw.shut,hw.one,hw.cells,ie];rcases hw with ⟨rfl,_⟩ | ⟨e,rfl⟩<;>rfl
  | true=>
   simp only [go_sem,ya,yd,yp,Cn,bc,hv.an,e1,hw.len,hw.pu,hw.shut,hw.one,hw.cells,ie];rcases hw with ⟨rfl,_⟩ | ⟨e,rfl⟩<;>rfl
 ·rw [rB];unfold cM;split<;>omega
def aii (h:Has P L 298 P8) (jS:Has P L 294 Cn) (dd:Has P L 300 mJ) {v:AV} {n:Int} {K:Nat} (hK:K<=20000000000) (hv:lK v n) (hn:n.natAbs<1000000000^K):∃r,aj P L 298 [v] r/\lK r (-n):=by
 obtain ⟨w,l,rfl,hw,hd,hz,rB⟩:=hv;obtain ⟨r,e1,hr⟩:=AS jS dd (!decide (n<0)) hw hd (xv (jQ hd hz (by rw [rB];exact hn)) hK)
 have e:cM (!decide (n<0)) (dv l)= -n:=by
  rw [rB];unfold cM;by_cases h0:n<0
  ·simp [h0];omega
  ·simp [h0];omega
 rw [e] at hr;obtain ⟨w2,l2,rfl,iJ,gE,fU,AT⟩:=hr;refine ⟨_,?_,w2,l2,rfl,iJ,gE,fU,AT⟩;unfold aj at e1 ⊢;rw [aI h];simp only [go_sem,ya,yd,P8,bc,hw.pu,hw.an,hw.one,iJ.pu,iJ.one,b7,yg,dt,e1,ie,bO];rcases iJ with ⟨rfl,_⟩ | ⟨e,rfl⟩<;>rfl
end
def dF (s:Int) (w:AV) (z:Int):Prop:=
 (w= .ab/\s=z/\-9223372036854775808<=z/\z<9223372036854775808)\/
 (∃e l,w= .aE e l.length (l.map uc)/\lo 18446744073709551616 l/\im l/\bv 18446744073709551616 l=z.natAbs/\s=(if z<0 then -1 else 1)/\9223372036854775808<=z.natAbs)
def cP (v:AV) (z:Int):Prop:=∃s w,v= .agg [aa s,w]/\dF s w z
def Bd (k:Nat) (z:Int):Prop:=z.natAbs<2^k
def B0 (k:Nat):2^k<=18446744073709551616^k:=ue (by decide) k
def Bd.mono {k m:Nat} {z:Int} (h:Bd k z) (hk:k<=m):Bd m z:=yV h (xh (by decide) hk)
def Bd.neg {k:Nat} {z:Int} (h:Bd k z):Bd k (-z):=by unfold Bd at h ⊢;rwa [Int.natAbs_neg]
def Bd.add {k m:Nat} {a b:Int} (ha:Bd k a) (hb:Bd m b):Bd (max k m+1) (a+b):=by
 have h1:Bd (max k m) a:=ha.mono (by omega);have h2:Bd (max k m) b:=hb.mono (by omega);unfold Bd at h1 h2 ⊢
 grind
def Bd.mul {k m:Nat} {a b:Int} (ha:Bd k a) (hb:Bd m b):Bd (k+m) (a*b):=by
 unfold Bd at*
 rw [ybs,wZ];exact yal ha hb
def Bd.le {k:Nat} {a b:Int} (hb:Bd k b) (h:a.natAbs<=b.natAbs):Bd k a:=wY h hb
def WN.pos {v:AV} {m:Nat} (h:WN v m) (h0:0<m):∃e l,v= .aE e l.length (l.map uc)/\l≠[]/\lo 18446744073709551616 l/\im l/\bv 18446744073709551616 l=m:=by
 obtain ⟨l,hv,g,n,hb⟩:=h;have hl:l≠[]:=fun e=>by subst e;simp [bv] at hb;omega
 rcases hv with ⟨_,e⟩ | ⟨e,rfl⟩
 ·simp_all
 ·exact ⟨e,l,by simp,hl,g,n,hb⟩
def WN.aQ {v:AV} {m:Nat} (h:WN v m):∃l,bU v l/\lo 18446744073709551616 l/\im l/\bv 18446744073709551616 l=m:=h
def pk (e:Bool) (n:Nat) (cs:List AV):kv .sl (.aE e n cs) .ab=some false:=rfl
def iA:kv .sl .ab .ab=some true:=rfl
def OD (hp:Hp) (ct id:Nat) (a:Int) (e:Bool) (n:Nat) (cs:List AV) (x y:AV):gP hp ct id 0 2 [.int .i64 a,.aE e n cs] (some (.cells true true true 2 [x,y]))=some (.az [],aT hp id (.cells true true true 2 [.int .i64 a,.aE e n cs]),ct):=ie rfl rfl rfl rfl
def sH {tm:Env} {a x y:AV} {r:List (Nat×Nat×X)} (h:dG a=true):qJ tm [x,y] 0 1 [a] r=fill tm [a,y] r:=acL (by simp) h
def dF.qg {z:Int} (h1: -9223372036854775808<=z) (h2:z<9223372036854775808):cP (.agg [aa z,.ab]) z:=⟨z,.ab,rfl,.inl ⟨rfl,rfl,h1,h2⟩⟩
def dF.cJ {s:Int} {w:AV} {z:Int} (h:dF s w z):(s<0↔z<0)/\(s=0↔z=0)/\-9223372036854775808<=s/\s<9223372036854775808:=by
 rcases h with ⟨_,rfl,h1,h2⟩ | ⟨e,l,_,_,_,_,rfl,h1⟩
 ·grind
 ·grind
section
variable {P:aM} {L:Lib}
structure Nu (P:aM) (L:Lib):Prop extends Wd P L where
 azm:Has P L 117 PR
 azn:Has P L 142 PT
 V9:Has P L 136 K5
 Lz:Has P L 145 AM
 azo:Has P L 146 VL
 Wa:Has P L 147 K7
 aij:Has P L 163 PY
 azp:Has P L 118 Ec
 aik:Has P L 119 c119
 azq:Has P L 156 VN
 Qm:Has P L 100 ns
 Wb:Has P L 164 nt
 azr:Has P L 148 VM
 azs:Has P L 130 VJ
def En (h:Nu P L) {z:Int} (h1: -9223372036854775808<=z) (h2:z<9223372036854775808):aj P L 117 [aa z] (.agg [aa z,.ab])/\cP (.agg [aa z,.ab]) z:=⟨n117 h.azm z,dF.qg h1 h2⟩
def Wc (h:Nu P L) {n:Int} (h1: -9223372036854775808<=n) (h2:n<9223372036854775808):aj P L 142 [aa n] (uc n.natAbs):=by
 unfold aj;rw [aI h.azn];by_cases h0:n<0
 ·have e:IntKind.wrap .u64 (IntKind.wrap .i64 (0-n))=(n.natAbs:Int):=by
   by_cases hm:n= -9223372036854775808
   ·subst hm;rfl
   ·rw [wrap64 (by omega) (by omega),Pt];omega
  simp only [go_sem,ya,PT,h0,aez,e]
 ·have e:IntKind.wrap .u64 n=(n.natAbs:Int):=by rw [Pt];omega
  simp only [go_sem,ya,PT,h0,aez,e]
def AU (h:Nu P L) {s:Int} {w:AV} {z:Int} (hz:dF s w z):∃r,aj P L 136 [.agg [aa s,w]] (.az [.bool (decide (z<0)),r])/\WN (bZ r) z.natAbs:=by
 rcases hz with ⟨rfl,rfl,h1,h2⟩ | ⟨e,l,rfl,g,n,hb,hs,h1⟩
 ·by_cases h0:s=0
  ·subst h0;refine ⟨.ab,?_,[],z7,OT,rfl,rfl⟩;unfold aj;rw [aI h.V9];simp only [go_sem,ya,yd,K5,bc,b7,yg,dt,iA,Kl,ybS];rfl
  ·have e1:=Wc h h1 h2;refine ⟨.bV true 1 1 [uc s.natAbs],?_,[s.natAbs],nX true [s.natAbs],F9.2 (by omega),Fq (by omega) [],BZ _⟩;unfold aj;rw [aI h.V9];simp only [go_sem,ya,yd,yp,yh,K5,bc,b7,yg,dt,iA,Kl,h0,e1];rfl
 ·have A4:decide (s<0)=decide (z<0):=by rw [hs];split<;>simp<;>omega
  refine ⟨.aE e l.length (l.map uc),?_,l,nX e l,g,n,hb⟩;unfold aj;rw [aI h.V9];simp only [go_sem,ya,yd,K5,bc,b7,yg,dt,pk,Kl,A4];rfl
def aau {d:Nat} (h:d<=9223372036854775807):IntKind.wrap .i64 (d:Int)=d:=wrapN (by omega)
def Eo (h:Nu P L) (neg:Bool) {w:AV} {m K:Nat} (hw:WN w m) (hm:m<18446744073709551616^K) (hK:K<=90000000000):∃r,aj P L 145 [.bool neg,w] r/\cP r (cM neg m):=by
 obtain ⟨l,hu,g,n,hb⟩:=hw;have zF:l.length<=90000000000:=xv (pz n hb hm) hK;by_cases h0:l=[]
 ·subst h0
  have:m=0:=by rw [<-hb];rfl
  subst this;have e:cM neg 0=0:=by unfold cM;cases neg<;>rfl
  rw [e];refine ⟨.agg [aa 0,.ab],?_,dF.qg (by decide) (by decide)⟩;unfold aj;rw [aI h.Lz];simp only [go_sem,ya,yd,AM,bc,hu.len,yO,show (((0:Nat):Nat):Int)=0 from rfl,sR];rfl
 ·have lD:0<l.length:=uz.2 h0;by_cases h1:l.length=1/\l.getD 0 0<=9223372036854775807
  ·obtain ⟨h1,h2⟩:=h1;obtain ⟨d,rfl⟩:∃d,l=[d]:=by
    cases l with
    | nil=>simp at h1
    | cons d r=>cases r with
     | nil=>exact ⟨d,rfl⟩
     | cons e r=>simp at h1
   have h2:d<=9223372036854775807:=h2;rw [BZ] at hb;subst hb;have ex:=hu.bi (i:=0) (by simp);rw [show ([d]:List Nat).getD 0 0=d from rfl] at ex;have hlen:∀hp,gg hp 1 w=some (.int .i64 1):=fun hp=>hu.len
   cases neg with
   | true=>
    refine ⟨.agg [aa (0-(d:Int)),.ab],?_,?_⟩
    ·unfold aj;rw [aI h.Lz]
     simp only [go_sem,ya,yd,yp,AM,bc,hlen,uh,ex,show (d:Int)<=9223372036854775807 by omega,OX,aau h2,wrap64 (n:=0-(d:Int)) (by omega) (by omega),sR];rfl
    ·have:cM true d=0-(d:Int):=by unfold cM;simp
     rw [this];exact dF.qg (by omega) (by omega)
   | false=>
    refine ⟨.agg [aa (d:Int),.ab],?_,?_⟩
    ·unfold aj;rw [aI h.Lz];simp only [go_sem,ya,yd,yp,AM,bc,hlen,uh,ex,show (d:Int)<=9223372036854775807 by omega,OX,aau h2,sR];rfl
    ·have:cM false d=(d:Int):=by unfold cM;simp
     rw [this];exact dF.qg (by omega) (by omega)
  ·have hm0:9223372036854775808<=m:=by
    rw [<-hb];by_cases h2:l.length=1
    ·obtain ⟨d,rfl⟩:∃d,l=[d]:=by
      cases l with
      | nil=>simp at h2
      | cons d r=>cases r with
       | nil=>exact ⟨d,rfl⟩
       | cons e r=>simp at h2
     have:¬d<=9223372036854775807:=fun hd=>h1 ⟨h2,hd⟩
     rw [BZ];omega
    ·have h3:=Up (b:=18446744073709551616) (by decide) n h0;have h4:18446744073709551616^1<=18446744073709551616^(l.length-1):=xh (by decide) (by omega);rw [ycd] at h4;omega
   have dM:∃e,w= .aE e l.length (l.map uc):=by
    rcases hu with ⟨rfl,hh⟩ | ⟨e,rfl⟩
    ·simp at hh;exact absurd hh h0
    ·exact ⟨e,by simp⟩
   obtain ⟨e,rfl⟩:=dM;have ex:=hu.bi (i:=0) lD;have first:(decide ((l.length:Int)=1)=true/\¬((l.getD 0 0:Nat):Int)<=9223372036854775807)\/decide ((l.length:Int)=1)=false:=by
    by_cases h2:l.length=1
    ·left;refine ⟨by simp;omega,fun hd=>h1 ⟨h2,by omega⟩⟩
    ·right;simp;omega
   cases neg with
   | true=>
    refine ⟨.agg [aa (-1),.aE e l.length (l.map uc)],?_,-1,_,rfl,.inr ⟨e,l,rfl,g,n,by rw [hb];unfold cM;simp,by unfold cM;simp;omega,by unfold cM;simp;omega⟩⟩
    unfold aj;rw [aI h.Lz];rcases first with ⟨f1,f2⟩ | f1
    ·simp only [go_sem,ya,yd,yp,AM,bc,show ¬(l.length:Int)=0 by omega,f1,f2,ex,sH,OD];rfl
    ·simp only [go_sem,ya,yd,yp,AM,bc,show ¬(l.length:Int)=0 by omega,f1,sH,OD];rfl
   | false=>
    refine ⟨.agg [aa 1,.aE e l.length (l.map uc)],?_,1,_,rfl,.inr ⟨e,l,rfl,g,n,by rw [hb];unfold cM;simp,by unfold cM;simp,by unfold cM;simp;omega⟩⟩
    unfold aj;rw [aI h.Lz];rcases first with ⟨f1,f2⟩ | f1
    ·simp only [go_sem,ya,yd,yp,AM,bc,show ¬(l.length:Int)=0 by omega,f1,f2,ex,sH,OD];rfl
    ·simp only [go_sem,ya,yd,yp,AM,bc,show ¬(l.length:Int)=0 by omega,f1,sH,OD];rfl
end
def bw:VC->VC
 | .seq a _=>a
 | c=>c
def aqt {a b:Int} {x y:Nat} (ha:a.natAbs=x) (hb:b.natAbs=y) (h:decide (a<0)=decide (b<0)):cM (decide (a<0)) (x+y)=a+b:=by
 unfold cM
 grind
def abt {a b:Int} {m:Nat} (hm:m+b.natAbs=a.natAbs) (h:¬decide (a<0)=decide (b<0)):cM (decide (a<0)) m=a+b:=by
 unfold cM
 grind
def aqu {a:Int}:cM (!decide (a<0)) a.natAbs= -a:=by
 unfold cM
 grind
def abu {a b:Int}:cM (decide (a<0) !=decide (b<0)) (a.natAbs*b.natAbs)=a*b:=by
 unfold cM
 grind
def oe {s:Int} {w:AV} {l:List Nat} (h:bU w l) (hp:Hp):result hp (.agg [aa s,w])=some (.agg [aa s,w]):=by
 rcases h with ⟨rfl,_⟩ | ⟨e,rfl⟩<;>rfl
def eC {s:Int} {w:AV} {l:List Nat} (h:bU w l) (hp:Hp) (ct id:Nat) (x y:AV):gP hp ct id 0 2 [.int .i64 s,w] (some (.cells true true true 2 [x,y]))=some (.az [],aT hp id (.cells true true true 2 [.int .i64 s,w]),ct):=ie rfl h.one rfl h.pu
def dF.aQ {s:Int} {w:AV} {z:Int} (h:dF s w z):∃l,bU w l:=by
 rcases h with ⟨rfl,_⟩ | ⟨e,l,rfl,_⟩
 ·exact ⟨[],z7⟩
 ·exact ⟨l,nX e l⟩
def agX (hp:Hp) (sz:Nat) (ag:Bool):AV->Option AV
 | .ptr id o=>Re sz ag o (ao hp id)
 | .aO cs=>iX sz ag cs
 | _=>none
def eS (tm:Env) (hp:Hp) (ct base i sz:Nat) (ag:Bool):results1 ⟨tm,hp,ct,base⟩ (.cell i sz ag)=agX hp sz ag (af tm i):=by
 rfl
def eT (hp:Hp) (sz:Nat) (ag:Bool) (id o:Nat):agX hp sz ag (.ptr id o)=Re sz ag o (ao hp id):=rfl
section
variable {P:aM} {L:Lib}
def GZ (h:Nu P L) {v:AV} {z:Int} (hv:cP v z):aj P L 146 [v] (aa (cJ z)):=by
 obtain ⟨s,w,rfl,hn⟩:=hv;obtain ⟨l,hu⟩:=hn.aQ;have e:cJ s=cJ z:=by
  obtain ⟨h1,h2,_⟩:=hn.cJ;unfold cJ;by_cases h0:z<0
  ·rw [yA h0,yA (h1.2 h0)]
  ·by_cases h3:z=0
   ·rw [yo (fun h=>h0 (h1.1 h)),yA (h2.2 h3),yo h0,yA h3]
   ·rw [yo (fun h=>h0 (h1.1 h)),yo (fun h=>h3 (h2.1 h)),yo h0,yo h3]
 unfold aj;rw [aI h.azo];simp only [go_sem,ya,yd,VL,bc,hu.pu,hu.one,b7,yg,aey,Kk,abm,Ji,avh,e]
def G0 (h:Nu P L) {v:AV} {z:Int} {K:Nat} (hv:cP v z) (hz:Bd K z) (hK:K<=90000000000):∃r,aj P L 147 [v] r/\cP r (-z):=by
 obtain ⟨s,w,rfl,hn⟩:=hv;obtain ⟨p,e1,hp⟩:=AU h hn;obtain ⟨lp,iF,_⟩:=hp.aQ;obtain ⟨r,e2,hr⟩:=Eo h (!decide (z<0)) hp (yV hz (B0 K)) hK;rw [aqu] at hr;have bk:=hr;obtain ⟨s',w',rfl,gZ⟩:=hr;obtain ⟨l',jJ⟩:=gZ.aQ;rcases hn with ⟨rfl,rfl,h1,h2⟩ | ⟨e,l0,rfl,g,n,hb,hs,h1⟩
 ·by_cases h0:s= -9223372036854775808
  ·refine ⟨_,?_,bk⟩;unfold aj;rw [aI h.Wa];simp only [go_sem,ya,yd,K7,bc,b7,yg,dt,iA,eN,h0];rw [h0] at e1 e2;simp only [go_sem,ya,cz,cy,e1,e2,iF.an,bO,eS,eT,cz,yL,oe jJ,eC jJ]
  ·refine ⟨.agg [aa (-s),.ab],?_,dF.qg (by omega) (by omega)⟩;unfold aj;rw [aI h.Wa]
   simp only [go_sem,ya,yd,K7,bc,b7,yg,dt,iA,eN,h0,wrap64 (n:=0-s) (by omega) (by omega),sR,sH];rw [Int.zero_sub];rfl
 ·refine ⟨_,?_,bk⟩;unfold aj;rw [aI h.Wa];simp only [go_sem,ya,yd,K7,bc,b7,yg,dt,pk,eN,cz,cy,e1,e2,iF.an,bO,eS,eT,cz,yL,oe jJ,eC jJ]
def ail (h:Nu P L) {v:AV} {z:Int} {K:Nat} (hv:cP v z) (hz:Bd K z) (hK:K<=90000000000):∃r,aj P L 163 [v] r/\cP r (z.natAbs:Nat):=by
 have fh:=hv;obtain ⟨s,w,rfl,hn⟩:=hv;obtain ⟨l,hu⟩:=hn.aQ;have pT:=hn.cJ.1;by_cases h0:z<0
 ·obtain ⟨r,e1,hr⟩:=G0 h fh hz hK;rw [show -z=(z.natAbs:Int) by omega] at hr;have bk:=hr;obtain ⟨s',w',rfl,gZ⟩:=hr;obtain ⟨l',jJ⟩:=gZ.aQ;refine ⟨_,?_,bk⟩;unfold aj;rw [aI h.aij];simp only [go_sem,ya,yd,PY,bc,hu.pu,hu.an,hu.one,b7,yg,pT.2 h0,cz,cy,e1,bO,eS,eT,cz,yL,oe jJ,eC jJ]
 ·rw [show ((z.natAbs:Nat):Int)=z by omega];refine ⟨_,?_,fh⟩;unfold aj;rw [aI h.aij];simp only [go_sem,ya,yd,PY,bc,hu.pu,hu.one,b7,yg,show ¬s<0 from fun h=>h0 (pT.1 h),cz,eS,eT,cz,yL,oe hu,eC hu]
def avB (h:Nu P L) {s1 s2:Int} {w1 w2:AV} {a b:Int} {K:Nat} (ha:dF s1 w1 a) (hb:dF s2 w2 b) (ka:Bd K a) (kb:Bd K b) (hK:K<=40000000000):
  ∃r,cP r (a+b)/\∀tm,af tm 2= .ptr 0 0->af tm 3= .ptr 1 0->af tm 4= .ptr 2 0->gJ [.cell 4 2 true] (D P L (aB (aB c119.body)) ⟨tm,[(2,.cells true true true 2 [.int .i64 0,.ab]),(1,.cells true true true 2 [aa s2,w2]),(0,.cells true true true 2 [aa s1,w1])],3,0⟩)=some r:=by
 obtain ⟨l1,u1⟩:=ha.aQ;obtain ⟨l2,u2⟩:=hb.aQ;obtain ⟨p,e1,hp⟩:=AU h ha;obtain ⟨q,e2,hq⟩:=AU h hb;obtain ⟨lp,iF,gp,np,vp⟩:=hp.aQ;obtain ⟨lq,pU,gq,nq,vq⟩:=hq.aQ;have CY:=yV ka (B0 K);have HK:=yV kb (B0 K);have llp:lp.length<=40000000000:=xv (pz np vp CY) hK;have llq:lq.length<=40000000000:=xv (pz nq vq HK) hK;by_cases hs:decide (a<0)=decide (b<0)
 ·obtain ⟨o,oK,e3,ho,oJ,no,vo⟩:=ay4 h.aze h.nA h.ig iF pU gp gq (by omega) (by omega);obtain ⟨r,e4,hr⟩:=Eo h (decide (a<0)) ⟨oK,ho,oJ,no,vo⟩ (K:=K+1) (by rw [vp,vq,xi];omega) (by omega);rw [aqt vp.symm vq.symm hs] at hr;have bk:=hr;obtain ⟨s',w',rfl,gZ⟩:=hr;obtain ⟨l',jJ⟩:=gZ.aQ;refine ⟨_,bk,fun tm t2 t3 t4=>?_⟩;simp only [go_sem,ya,c119,aB,t2,t3,cz,cy,u1.an,u2.an,e1,e2,iF.an,pU.an,eN,qK,hs,yam];rw [hs] at e4;simp only [go_sem,ya,t4,e3,ho.an,ho.shut,e4,bO,eS,eT,cz,yL,oe jJ,eC jJ]
 ·have CZ:(decide (a<0)==decide (b<0))=false:=by simpa using hs
  have e3:=ah3 h.aie iF pU gp gq np nq (by omega) (by omega);rw [vp,vq] at e3;by_cases hc:b.natAbs<=a.natAbs
  ·obtain ⟨o,oK,e4,ho,oJ,no,vo⟩:=ah4 h.aif h.nA h.zi iF pU gp gq nq (by omega) (by rw [vp,vq];exact hc)
   rw [vp,vq] at vo;obtain ⟨r,e5,hr⟩:=Eo h (decide (a<0)) ⟨oK,ho,oJ,no,rfl⟩ (K:=K) (by omega) (by omega);rw [abt vo hs] at hr;have bk:=hr;obtain ⟨s',w',rfl,gZ⟩:=hr;obtain ⟨l',jJ⟩:=gZ.aQ;have eK:(0:Int)<=dY a.natAbs b.natAbs:=by unfold dY;rw [yo (by omega)];split<;>decide
   refine ⟨_,bk,fun tm t2 t3 t4=>?_⟩;simp only [go_sem,ya,c119,aB,t2,t3,t4,cz,cy,u1.an,u2.an,e1,e2,iF.an,pU.an,eN,qK,CZ,e3,eK,e4,ho.an,ho.shut,e5,bO,eS,eT,cz,yL,oe jJ,eC jJ]
  ·obtain ⟨o,oK,e4,ho,oJ,no,vo⟩:=ah4 h.aif h.nA h.zi pU iF gq gp np (by omega) (by rw [vp,vq];omega);rw [vp,vq] at vo;obtain ⟨r,e5,hr⟩:=Eo h (decide (b<0)) ⟨oK,ho,oJ,no,rfl⟩ (K:=K) (by omega) (by omega);rw [abt vo (fun e=>hs e.symm),Int.add_comm] at hr;have bk:=hr;obtain ⟨s',w',rfl,gZ⟩:=hr;obtain ⟨l',jJ⟩:=gZ.aQ;have eK:¬(0:Int)<=dY a.natAbs b.natAbs:=by unfold dY;rw [yA (by omega)];decide
   refine ⟨_,bk,fun tm t2 t3 t4=>?_⟩;simp only [go_sem,ya,c119,aB,t2,t3,t4,cz,cy,u1.an,u2.an,e1,e2,iF.an,pU.an,eN,qK,CZ,e3,eK,e4,ho.an,ho.shut,e5,bO,eS,eT,cz,yL,oe jJ,eC jJ]
def LA (h:Nu P L) {v w:AV} {a b:Int} {K:Nat} (hv:cP v a) (hw:cP w b) (ka:Bd K a) (kb:Bd K b) (hK:K<=40000000000):∃r,aj P L 119 [v,w] r/\cP r (a+b):=by
 obtain ⟨s1,w1,rfl,h1⟩:=hv;obtain ⟨s2,w2,rfl,h2⟩:=hw;obtain ⟨l2,u2⟩:=h2.aQ;obtain ⟨r,hr,tail⟩:=avB h h1 h2 ka kb hK;have fin:∀tm,af tm 2= .ptr 0 0->af tm 3= .ptr 1 0->af tm 4= .ptr 2 0->
   D P L (.seq (bw c119.body) (bw (aB c119.body))) ⟨[(0,.agg [aa s1,w1]),(1,.agg [aa s2,w2])],[],0,0⟩=some (.normal,⟨tm,[(2,.cells true true true 2 [.int .i64 0,.ab]),(1,.cells true true true 2 [aa s2,w2]),(0,.cells true true true 2 [aa s1,w1])],3,0⟩)->aj P L 119 [.agg [aa s1,w1],.agg [aa s2,w2]] r:=fun tm t2 t3 t4 e=>by
  unfold aj;rw [aI h.aik];show gJ [.cell 4 2 true] (D P L (.seq (bw c119.body) (.seq (bw (aB c119.body)) (aB (aB c119.body)))) ⟨[(0,.agg [aa s1,w1]),(1,.agg [aa s2,w2])],[],0,0⟩)=_
  have e2:D P L (.seq (bw c119.body) (.seq (bw (aB c119.body)) (aB (aB c119.body)))) ⟨[(0,.agg [aa s1,w1]),(1,.agg [aa s2,w2])],[],0,0⟩=kj P L (D P L (.seq (bw c119.body) (bw (aB c119.body))) ⟨[(0,.agg [aa s1,w1]),(1,.agg [aa s2,w2])],[],0,0⟩) (aB (aB c119.body)):=by
   rw [kZ,kZ]
   cases D P L (bw c119.body) ⟨[(0,.agg [aa s1,w1]),(1,.agg [aa s2,w2])],[],0,0⟩ with
   | none=>rfl
   | some q=>
    obtain ⟨ex,st⟩:=q
    cases ex with
    | normal=>rw [fN,fN,kZ]
    | ret=>rfl
    | exit id=>rfl
  rw [e2,e,fN];exact tail tm t2 t3 t4
 rcases h1 with ⟨rfl,rfl,a1,a2⟩ | ⟨e,l,rfl,ga,na,va,sa,a1⟩
 ·rcases h2 with ⟨rfl,rfl,b1,b2⟩ | ⟨e,l,rfl,gb,nb,vb,sb,b1⟩
  ·by_cases e9: -9223372036854775808<=s1+s2/\s1+s2<9223372036854775808
   ·refine ⟨.agg [aa (s1+s2),.ab],?_,dF.qg e9.1 e9.2⟩;have e:decide (s1<s1+s2)=decide (0<s2):=by
     by_cases h:0<s2
     ·simp only [h,yu];exact xq (by omega)
     ·simp only [h,yv];exact xb (by omega)
    unfold aj;rw [aI h.aik]
    simp only [go_sem,ya,yd,c119,bc,sR,iA,eN,qK,b7,yg,dt,wrap64 (n:=s1+s2) e9.1 e9.2,e,yam,sH];rfl
   ·have e:(decide (s1<IntKind.wrap .i64 (s1+s2))==decide (0<s2))=false:=by
     have hw:(9223372036854775808<=s1+s2/\IntKind.wrap .i64 (s1+s2)=s1+s2-18446744073709551616)\/(s1+s2< -9223372036854775808/\IntKind.wrap .i64 (s1+s2)=s1+s2+18446744073709551616):=by
      simp only [IntKind.wrap,IntKind.bits,IntKind.signed,wK]
      split<;>rename_i h<;>simp at h<;>omega
     by_cases h0:0<s2
     ·rw [xq h0,xb (by omega)];rfl
     ·rw [xb h0,xq (by omega)];rfl
    refine ⟨r,fin _ ?_ ?_ ?_ (by simp only [go_sem,ya,yd,bw,aB,c119,bc,iA,eN,qK,b7,yg,dt,e]<;>rfl),hr⟩<;>simp only [go_sem,ya]
  ·refine ⟨r,fin _ ?_ ?_ ?_ (by simp only [go_sem,ya,yd,bw,aB,c119,bc,iA,pk,eN,b7,yg,dt]<;>rfl),hr⟩<;>simp only [go_sem,ya]
 ·refine ⟨r,fin _ ?_ ?_ ?_ (by simp only [go_sem,ya,yd,bw,aB,c119,bc,u2.pu,u2.one,pk,eN,b7,yg,dt]<;>rfl),hr⟩<;>simp only [go_sem,ya]
end
def Dp {P:aM} {L:Lib} (a b c:VC) (s:St):D P L (.seq a (.seq b c)) s=kj P L (D P L (.seq a b) s) c:=by
 rw [kZ,kZ]
 cases D P L a s with
 | none=>rfl
 | some q=>
  obtain ⟨ex,st⟩:=q
  cases ex with
  | normal=>rw [fN,fN,kZ]
  | ret=>rfl
  | exit id=>rfl
def aeE {s s':Int} {w w':AV} {l l':List Nat} (h:bU w l) (h':bU w' l') (hp:Hp):result hp (.az [.agg [aa s,w],.agg [aa s',w']])=some (.az [.agg [aa s,w],.agg [aa s',w']]):=by
 rcases h with ⟨rfl,_⟩ | ⟨e,rfl⟩<;>rcases h' with ⟨rfl,_⟩ | ⟨e',rfl⟩<;>rfl
def Qn (tm:Env) (hp:Hp) (ct:Nat) (rs:List (Nat×Bool×Nat)) (sz:Nat) (p:AV) (new:List AV):gM:=match p with | .ptr id o=>bif oX tm id rs then gP hp ct id o sz new (ao hp id) else none | _=>none
def Qo (id:Nat):AV->Bool | .ptr j _=> !yz j id | .aO _=>true | _=>false
def Uv {P:aM} {L:Lib} (f:cG) (tm:Env) (hp:Hp) (ct:Nat) (rs:List (Nat×Bool×Nat)) (sz:Nat) (x v:X):bg P L f tm hp ct (.lB rs sz x v)=Qn tm hp ct rs sz (aC tm x) (cellsOf (aC tm v)):=by
 simp only [bg,Qn]
 cases hx:aC tm x with
 | ptr id o=>
  rw [abi,hx,agN]
 | _=>rfl
def Uw {tm:Env} {hp:Hp} {ct:Nat} {rs:List (Nat×Bool×Nat)} {sz id o:Nat} {new:List AV} (h:oX tm id rs=true):Qn tm hp ct rs sz (.ptr id o) new=gP hp ct id o sz new (ao hp id):=by
 simp only [Qn,h,yD]
def TM (tm:Env) (id:Nat):oX tm id []=true:=(rfl)
def Th (tm:Env) (id sz x:Nat) (ag:Bool) (r:List (Nat×Bool×Nat)):oX tm id ((sz,ag,x)::r)=(Qo id (af tm x)&&oX tm id r):=by
 simp only [oX,Qo]
 grind
def Ux {id j o:Nat} (h:j≠id):Qo id (.ptr j o)=true:=by simp only [Qo,iO h,yU]
section
variable {P:aM} {L:Lib}
def aim (h:Nu P L) {v w:AV} {a b:Int} {K:Nat} (hv:cP v a) (hw:cP w b) (ka:Bd K a) (kb:Bd K b) (hK:K<=40000000000):∃r,aj P L 156 [v,w] r/\cP r (a-b):=by
 obtain ⟨n,e1,hn⟩:=G0 h hw kb (by omega);obtain ⟨r,e2,hr⟩:=LA h hv hn ka kb.neg hK;have bk:=hr;obtain ⟨s1,w1,rfl,h1⟩:=hv;obtain ⟨s2,w2,rfl,h2⟩:=hw;obtain ⟨s3,w3,rfl,h3⟩:=hn;obtain ⟨s4,w4,rfl,h4⟩:=hr;obtain ⟨l1,u1⟩:=h1.aQ;obtain ⟨l2,u2⟩:=h2.aQ;obtain ⟨l3,u3⟩:=h3.aQ;obtain ⟨l4,u4⟩:=h4.aQ;refine ⟨_,?_,bk⟩;unfold aj;rw [aI h.azq];simp only [go_sem,ya,yd,VN,bc,u1.pu,u1.an,u1.one,u2.pu,u2.an,u2.one,u3.an,cy,e1,e2,bO,eS,eT,cz,yL,oe u4,eC u4]
def azt (h:Nu P L) {v w:AV} {a b:Int} {K:Nat} (hv:cP v a) (hw:cP w b) (ka:Bd K a) (kb:Bd K b) (hK:K<=40000000000):aj P L 118 [v,w] (aa (cJ (a-b))):=by
 obtain ⟨d,e1,hd⟩:=aim h hv hw ka kb hK;have e2:=GZ h hd;obtain ⟨s1,w1,rfl,h1⟩:=hv;obtain ⟨s2,w2,rfl,h2⟩:=hw;obtain ⟨s3,w3,rfl,h3⟩:=hd;obtain ⟨l2,u2⟩:=h2.aQ;obtain ⟨l3,u3⟩:=h3.aQ;unfold aj;rw [aI h.azp];rcases h1 with ⟨rfl,rfl,a1,a2⟩ | ⟨e,l,rfl,ga,na,va,sa,a1⟩
 ·rcases h2 with ⟨rfl,rfl,b1,b2⟩ | ⟨e,l,rfl,gb,nb,vb,sb,b1⟩
  ·by_cases c1:s1<s2
   ·rw [show cJ (s1-s2)= -1 by unfold cJ;rw [yA (by omega)]];simp only [go_sem,ya,yd,Ec,bc,iA,eN,b7,yg,dt,c1]
   ·by_cases c2:s2<s1
    ·rw [show cJ (s1-s2)=1 by unfold cJ;rw [yo (by omega),yo (by omega)]];simp only [go_sem,ya,yd,Ec,bc,iA,eN,b7,yg,dt,c1,c2]
    ·rw [show cJ (s1-s2)=0 by unfold cJ;rw [yo (by omega),yA (by omega)]];simp only [go_sem,ya,yd,Ec,bc,iA,eN,b7,yg,dt,c1,c2]
  ·simp only [go_sem,ya,yd,Ec,bc,iA,pk,eN,b7,yg,dt,cz,cy,e1,e2,u3.an,bO]
 ·simp only [go_sem,ya,yd,Ec,bc,u2.pu,u2.an,u2.one,pk,eN,b7,yg,dt,cz,cy,e1,e2,u3.an,bO]
def avC (h:Nu P L) {s1 s2:Int} {w1 w2:AV} {a b:Int} {K:Nat} (ha:dF s1 w1 a) (hb:dF s2 w2 b) (ka:Bd K a) (kb:Bd K b) (hK:K<=40000000000):
  ∃r,cP r (a*b)/\∀tm,af tm 2= .ptr 0 0->af tm 3= .ptr 1 0->af tm 4= .ptr 2 0->gJ [.cell 4 2 true] (D P L (aB (aB ns.body)) ⟨tm,[(2,.cells true true true 2 [.int .i64 0,.ab]),(1,.cells true true true 2 [aa s2,w2]),(0,.cells true true true 2 [aa s1,w1])],3,0⟩)=some r:=by
 obtain ⟨l1,u1⟩:=ha.aQ;obtain ⟨l2,u2⟩:=hb.aQ;obtain ⟨p,e1,hp⟩:=AU h ha;obtain ⟨q,e2,hq⟩:=AU h hb;obtain ⟨lp,iF,gp,np,vp⟩:=hp.aQ;obtain ⟨lq,pU,gq,nq,vq⟩:=hq.aQ;have CY:=yV ka (B0 K);have HK:=yV kb (B0 K);have llp:lp.length<=40000000000:=xv (pz np vp CY) hK;have llq:lq.length<=40000000000:=xv (pz nq vq HK) hK;obtain ⟨o,oK,e3,ho,oJ,no,vo⟩:=ay7 h.azf h.nA h.nB h.ig iF pU gp gq (by omega) (by omega);obtain ⟨r,e4,hr⟩:=Eo h (decide (a<0) !=decide (b<0)) ⟨oK,ho,oJ,no,vo⟩ (K:=K+K) (by rw [vp,vq,wZ];exact yal CY HK) (by omega)
 rw [vp,vq,abu] at hr;have bk:=hr;obtain ⟨s',w',rfl,gZ⟩:=hr;obtain ⟨l',jJ⟩:=gZ.aQ;refine ⟨_,bk,fun tm t2 t3 t4=>?_⟩;have zA:∀x y:Bool,Lr true (some (x==y))=some (.bool (x !=y)):=fun x y=>by cases x<;>cases y<;>rfl
 simp only [go_sem,ya,ns,aB,t2,t3,t4,cz,cy,u1.an,u2.an,e1,e2,iF.an,pU.an,qK,zA,e3,ho.an,ho.shut,e4,bO,eS,eT,cz,yL,oe jJ,eC jJ]
def aqv {a b:Int} {m:Nat} (h:a.natAbs*b.natAbs=m):a*b=if (decide (a<0)==decide (b<0))=true then (m:Int) else 0-(m:Int):=by
 have:=abu (a:=a) (b:=b)
 rw [h] at this;unfold cM at this
 cases hd:(decide (a<0)==decide (b<0)) with
 | true=>simp only [bne,hd,yR,yN,xn] at this;exact this.symm
 | false=>simp only [bne,hd,yU,xE] at this;rw [yo (by decide)];omega
def Cx (h:Nu P L) {v w:AV} {a b:Int} {K:Nat} (hv:cP v a) (hw:cP w b) (ka:Bd K a) (kb:Bd K b) (hK:K<=40000000000):∃r,aj P L 100 [v,w] r/\cP r (a*b):=by
 obtain ⟨s1,w1,rfl,h1⟩:=hv;obtain ⟨s2,w2,rfl,h2⟩:=hw;obtain ⟨l1,u1⟩:=h1.aQ;obtain ⟨l2,u2⟩:=h2.aQ;obtain ⟨r,hr,tail⟩:=avC h h1 h2 ka kb hK;have fin:∀tm,af tm 2= .ptr 0 0->af tm 3= .ptr 1 0->af tm 4= .ptr 2 0->
   D P L (.seq (bw ns.body) (bw (aB ns.body))) ⟨[(0,.agg [aa s1,w1]),(1,.agg [aa s2,w2])],[],0,0⟩=some (.normal,⟨tm,[(2,.cells true true true 2 [.int .i64 0,.ab]),(1,.cells true true true 2 [aa s2,w2]),(0,.cells true true true 2 [aa s1,w1])],3,0⟩)->aj P L 100 [.agg [aa s1,w1],.agg [aa s2,w2]] r:=fun tm t2 t3 t4 e=>by
  unfold aj;rw [aI h.Qm];show gJ [.cell 4 2 true] (D P L (.seq (bw ns.body) (.seq (bw (aB ns.body)) (aB (aB ns.body)))) ⟨[(0,.agg [aa s1,w1]),(1,.agg [aa s2,w2])],[],0,0⟩)=_
  rw [Dp,e,fN];exact tail tm t2 t3 t4
 rcases h1 with ⟨rfl,rfl,a1,a2⟩ | ⟨e,l,rfl,ga,na,va,sa,a1⟩
 ·rcases h2 with ⟨rfl,rfl,b1,b2⟩ | ⟨e,l,rfl,gb,nb,vb,sb,b1⟩
  ·have f1:=Wc h a1 a2;have f2:=Wc h b1 b2;have f3:=OY (P:=P) (f:=D P L) h.nB (x:=s1.natAbs) (y:=s2.natAbs) (by omega) (by omega);obtain ⟨m,hm⟩:∃m,s1.natAbs*s2.natAbs=m:=⟨_,rfl⟩;rw [hm] at f3;have gD:=aqv hm;by_cases e9:m<=9223372036854775807
   ·rw [vc (by omega),yY (by omega)] at f3;rw [show (uc 0)=AV.int .u64 0 from rfl] at f3;by_cases hs:(decide (s1<0)==decide (s2<0))=true
    ·rw [yA hs] at gD;refine ⟨.agg [aa (m:Int),.ab],?_,by rw [gD];exact dF.qg (by omega) (by omega)⟩
     unfold aj;rw [aI h.Qm]
     simp only [go_sem,ya,yd,ns,bc,sR,iA,eN,Kl,qK,b7,yg,dt,f1,f2,f3,show (m:Int)<=9223372036854775807 by omega,hs,OX,wrap64 (n:=(m:Int)) (by omega) (by omega),sH];rfl
    ·rw [yo hs] at gD;refine ⟨.agg [aa (0-(m:Int)),.ab],?_,by rw [gD];exact dF.qg (by omega) (by omega)⟩
     unfold aj;rw [aI h.Qm]
     simp only [go_sem,ya,yd,ns,bc,sR,iA,eN,Kl,qK,b7,yg,dt,f1,f2,f3,show (m:Int)<=9223372036854775807 by omega,hs,OX,wrap64 (n:=(m:Int)) (by omega) (by omega),wrap64 (n:=0-(m:Int)) (by omega) (by omega),sH];rfl
   ·by_cases zR:m/18446744073709551616=0
    ·rw [zR,yY (by omega)] at f3;rw [show (uc 0)=AV.int .u64 0 from rfl] at f3;refine ⟨r,fin _ ?_ ?_ ?_ (by simp only [go_sem,ya,yd,bw,aB,ns,bc,iA,eN,b7,yg,dt,f1,f2,f3,show ¬(m:Int)<=9223372036854775807 by omega]<;>rfl),hr⟩<;>simp only [go_sem,ya]
    ·obtain ⟨q,hq⟩:∃q,q=m/18446744073709551616:=⟨_,rfl⟩;rw [<-hq] at f3 zR;refine ⟨r,fin _ ?_ ?_ ?_ (by simp only [go_sem,ya,yd,bw,aB,ns,bc,iA,eN,b7,yg,dt,f1,f2,f3,show ¬(q:Int)=0 by omega]<;>rfl),hr⟩<;>simp only [go_sem,ya]
  ·refine ⟨r,fin _ ?_ ?_ ?_ (by simp only [go_sem,ya,yd,bw,aB,ns,bc,iA,pk,eN,b7,yg,dt]<;>rfl),hr⟩<;>simp only [go_sem,ya]
 ·refine ⟨r,fin _ ?_ ?_ ?_ (by simp only [go_sem,ya,yd,bw,aB,ns,bc,u2.pu,u2.one,pk,eN,b7,yg,dt]<;>rfl),hr⟩<;>simp only [go_sem,ya]
end
def aoo {a b:Int} {q r:Nat} (hb:0<b) (h:q=a.natAbs/b.natAbs) (h2:r=a.natAbs%b.natAbs):
  (cM (decide (a<0)) r<0->a/b=cM (decide (a<0)) q-1/\a%b=cM (decide (a<0)) r+b)/\(¬cM (decide (a<0)) r<0->a/b=cM (decide (a<0)) q/\a%b=cM (decide (a<0)) r):=by
 have gF:=wg a.natAbs b.natAbs;have aU:r<b.natAbs:=by rw [h2];exact xH _ (by omega)
 unfold cM;by_cases h0:a<0
 ·simp only [h0,yu,xE];constructor
  ·intro h3;refine (tD hb).2 ⟨?_,by omega,by omega⟩
   grind
  ·intro h3;refine (tD hb).2 ⟨?_,by omega,by omega⟩
   grind
 ·grind
section
variable {P:aM} {L:Lib}
def avD (h:Nu P L) {s1 s2:Int} {w1 w2:AV} {a b:Int} {K:Nat} (ha:dF s1 w1 a) (hb:dF s2 w2 b) (eh:0<b) (ka:Bd K a) (kb:Bd K b) (hK:K<=30000000000):
  ∃q r,cP q (a/b)/\cP r (a%b)/\∀tm,af tm 2= .ptr 0 0->af tm 3= .ptr 1 0->af tm 4= .ptr 2 0->af tm 5= .ptr 3 0->gJ [.cell 4 2 true,.cell 5 2 true] (D P L (aB (aB nt.body)) ⟨tm,[(3,.cells true true true 2 [.int .i64 0,.ab]),(2,.cells true true true 2 [.int .i64 0,.ab]),(1,.cells true true true 2 [aa s2,w2]),(0,.cells true true true 2 [aa s1,w1])],4,0⟩)=some (.az [q,r]):=by
 obtain ⟨l1,u1⟩:=ha.aQ;obtain ⟨l2,u2⟩:=hb.aQ;obtain ⟨p,e1,hp⟩:=AU h ha;obtain ⟨q,e2,hq⟩:=AU h hb;have cA:cP (.agg [aa s2,w2]) b:=⟨s2,w2,rfl,hb⟩;obtain ⟨lp,iF,_⟩:=hp.aQ;obtain ⟨lq,pU,_⟩:=hq.aQ;have CY:=yV ka (B0 K);have HK:=yV kb (B0 K);obtain ⟨dq,dr,e3,EW,jG⟩:=aih h.toWd hp hq (by omega) CY HK (by omega);obtain ⟨MJ,uq,_⟩:=EW.aQ;obtain ⟨lr1,ur,_⟩:=jG.aQ;have hqk:a.natAbs/b.natAbs<18446744073709551616^K:=wY (vM _ _) CY;have EX:a.natAbs%b.natAbs<18446744073709551616^K:=wY (ycl _ _) CY;have hqb:a.natAbs/b.natAbs<2^K:=wY (vM _ _) ka;have XS:a.natAbs%b.natAbs<2^K:=wY (ycl _ _) ka;obtain ⟨f1,f2⟩:=aoo (a:=a) eh rfl rfl;generalize a.natAbs/b.natAbs=Q at*
 generalize a.natAbs%b.natAbs=R at*
 obtain ⟨vq,e4,hvq⟩:=Eo h (decide (a<0)) EW hqk (by omega);obtain ⟨vr,e5,Ms⟩:=Eo h (decide (a<0)) jG EX (by omega);have hsq:Bd K (cM (decide (a<0)) Q):=by unfold Bd cM;split<;>omega
 have hsr:Bd K (cM (decide (a<0)) R):=by unfold Bd cM;split<;>omega
 generalize cM (decide (a<0)) R=Rs at*
 have e6:=GZ h Ms;have ain:=hvq;have aio:=Ms;obtain ⟨s3,w3,rfl,h3⟩:=hvq;obtain ⟨s4,w4,rfl,h4⟩:=Ms;obtain ⟨l3,u3⟩:=h3.aQ;obtain ⟨l4,u4⟩:=h4.aQ;by_cases h0:Rs<0
 ·obtain ⟨g1,g2⟩:=f1 h0;have nI:Bd (K+1) 1:=Bd.mono (k:=1) (by unfold Bd;decide) (by omega)
  obtain ⟨o1,o2⟩:=En h (z:=1) (by decide) (by decide);obtain ⟨vq2,e7,We⟩:=aim h ain o2 (K:=K+1) (hsq.mono (by omega)) nI (by omega);obtain ⟨vr2,e8,Wf⟩:=LA h aio cA (K:=K+1) (hsr.mono (by omega)) (kb.mono (by omega)) (by omega);rw [<-g1] at We;rw [<-g2] at Wf;have oD:cJ Rs<0:=by unfold cJ;rw [yA h0];decide
  have k1:=We;have k2:=Wf;obtain ⟨s5,w5,rfl,h5⟩:=We;obtain ⟨s6,w6,rfl,h6⟩:=Wf;obtain ⟨l5,u5⟩:=h5.aQ;obtain ⟨l6,u6⟩:=h6.aQ;refine ⟨_,_,k1,k2,fun tm t2 t3 t4 t5=>?_⟩;simp only [go_sem,ya,yd,nt,aB,t2,t3,t4,t5,Uv,Uw,TM,Th,Ux,wm,bc,cz,cy,u1.an,u2.an,e1,e2,iF.an,pU.an,e3,uq.an,uq.bZ,ur.an,ur.bZ,e4,e5,bO,eS,eT,cz,yL,eC u3,eC u4,u3.an,u4.an,e6,oD,o1,e7,e8,eS,eT,cz,yL,eC u5,eC u6,aeE u5 u6]
 ·obtain ⟨g1,g2⟩:=f2 h0;have oD:¬cJ Rs<0:=by unfold cJ;rw [yo h0];split<;>decide
  refine ⟨_,_,by rw [g1];exact ain,by rw [g2];exact aio,fun tm t2 t3 t4 t5=>?_⟩
  simp only [go_sem,ya,yd,nt,aB,t2,t3,t4,t5,Uv,Uw,TM,Th,Ux,wm,bc,cz,cy,u1.an,u2.an,e1,e2,iF.an,pU.an,e3,uq.an,uq.bZ,ur.an,ur.bZ,e4,e5,bO,eS,eT,cz,yL,eC u3,eC u4,u4.an,e6,oD,aeE u3 u4]
def aip (h:Nu P L) {v w:AV} {a b:Int} {K:Nat} (hv:cP v a) (hw:cP w b) (eh:0<b) (ka:Bd K a) (kb:Bd K b) (hK:K<=30000000000):∃q r,aj P L 164 [v,w] (.az [q,r])/\cP q (a/b)/\cP r (a%b):=by
 obtain ⟨s1,w1,rfl,h1⟩:=hv;obtain ⟨s2,w2,rfl,h2⟩:=hw;obtain ⟨l1,u1⟩:=h1.aQ;obtain ⟨l2,u2⟩:=h2.aQ;obtain ⟨q,r,hq,hr,tail⟩:=avD h h1 h2 eh ka kb hK;have fin:∀tm,af tm 2= .ptr 0 0->af tm 3= .ptr 1 0->af tm 4= .ptr 2 0->af tm 5= .ptr 3 0->
   D P L (.seq (bw nt.body) (bw (aB nt.body))) ⟨[(0,.agg [aa s1,w1]),(1,.agg [aa s2,w2])],[],0,0⟩=some (.normal,⟨tm,[(3,.cells true true true 2 [.int .i64 0,.ab]),(2,.cells true true true 2 [.int .i64 0,.ab]),(1,.cells true true true 2 [aa s2,w2]),(0,.cells true true true 2 [aa s1,w1])],4,0⟩)->aj P L 164 [.agg [aa s1,w1],.agg [aa s2,w2]] (.az [q,r]):=fun tm t2 t3 t4 t5 e=>by
  unfold aj;rw [aI h.Wb];show gJ [.cell 4 2 true,.cell 5 2 true] (D P L (.seq (bw nt.body) (.seq (bw (aB nt.body)) (aB (aB nt.body)))) ⟨[(0,.agg [aa s1,w1]),(1,.agg [aa s2,w2])],[],0,0⟩)=_
  rw [Dp,e,fN];exact tail tm t2 t3 t4 t5
 rcases h1 with ⟨rfl,rfl,a1,a2⟩ | ⟨e,l,rfl,ga,na,va,sa,a1⟩
 ·rcases h2 with ⟨rfl,rfl,b1,b2⟩ | ⟨e,l,rfl,gb,nb,vb,sb,b1⟩
  ·by_cases hm:s1= -9223372036854775808
   ·refine ⟨q,r,fin _ ?_ ?_ ?_ ?_ (by simp only [go_sem,ya,yd,bw,aB,nt,bc,iA,eN,b7,yg,dt,hm]<;>rfl),hq,hr⟩<;>simp only [go_sem,ya]
   ·obtain ⟨f1,f2⟩:=aoe (a:=s1) eh;have bI:s1.tdiv s2=0\/(s1.tdiv s2).natAbs<=s1.natAbs:= .inr (Int.natAbs_tdiv_le_natAbs s1 s2);have cO:=Int.tmod_lt_of_pos s1 eh;have nH:=Int.lt_tmod_of_pos s1 eh;by_cases h0:s1.tmod s2<0
    ·obtain ⟨g1,g2⟩:=f1 h0;rw [g1,g2];refine ⟨.agg [aa (s1.tdiv s2-1),.ab],.agg [aa (s1.tmod s2+s2),.ab],?_,dF.qg (by omega) (by omega),dF.qg (by omega) (by omega)⟩;unfold aj;rw [aI h.Wb]
     simp only [go_sem,ya,yd,nt,bc,sR,iA,eN,b7,yg,dt,hm,hZ _ _ _ (show s2≠0 by omega),jt _ _ _ (show s2≠0 by omega),h0,wrap64 (n:=s1.tdiv s2) (by omega) (by omega),wrap64 (n:=s1.tdiv s2-1) (by omega) (by omega),wrap64 (n:=s1.tmod s2+s2) (by omega) (by omega),sH];rfl
    ·obtain ⟨g1,g2⟩:=f2 h0;rw [g1,g2];refine ⟨.agg [aa (s1.tdiv s2),.ab],.agg [aa (s1.tmod s2),.ab],?_,dF.qg (by omega) (by omega),dF.qg (by omega) (by omega)⟩;unfold aj;rw [aI h.Wb]
     simp only [go_sem,ya,yd,nt,bc,sR,iA,eN,b7,yg,dt,hm,hZ _ _ _ (show s2≠0 by omega),jt _ _ _ (show s2≠0 by omega),h0,wrap64 (n:=s1.tdiv s2) (by omega) (by omega),sH];rfl
  ·refine ⟨q,r,fin _ ?_ ?_ ?_ ?_ (by simp only [go_sem,ya,yd,bw,aB,nt,bc,iA,pk,eN,b7,yg,dt]<;>rfl),hq,hr⟩<;>simp only [go_sem,ya]
 ·refine ⟨q,r,fin _ ?_ ?_ ?_ ?_ (by simp only [go_sem,ya,yd,bw,aB,nt,bc,u2.pu,u2.one,pk,eN,b7,yg,dt]<;>rfl),hq,hr⟩<;>simp only [go_sem,ya]
def aiq (h:Nu P L) {v w:AV} {a b:Int} {K:Nat} (hv:cP v a) (hw:cP w b) (eh:0<b) (ka:Bd K a) (kb:Bd K b) (hK:K<=30000000000):∃r,aj P L 148 [v,w] r/\cP r (a/b):=by
 have e1:=GZ h hw;obtain ⟨q,r,e2,hq,hr⟩:=aip h hv hw eh ka kb hK;have e3:cJ b=1:=by unfold cJ;rw [yo (by omega),yo (by omega)]
 rw [e3] at e1;have bI:=hq;obtain ⟨s1,w1,rfl,h1⟩:=hv;obtain ⟨s2,w2,rfl,h2⟩:=hw;obtain ⟨s3,w3,rfl,h3⟩:=hq;obtain ⟨s4,w4,rfl,h4⟩:=hr;obtain ⟨l1,u1⟩:=h1.aQ;obtain ⟨l2,u2⟩:=h2.aQ;obtain ⟨l3,u3⟩:=h3.aQ;obtain ⟨l4,u4⟩:=h4.aQ;refine ⟨_,?_,bI⟩;unfold aj;rw [aI h.azr];simp only [go_sem,ya,yd,VM,ybS,yv,bc,u1.pu,u1.an,u1.one,u2.pu,u2.an,u2.one,yg,cy,e1,e2,BE,eS,eT,cz,yL,oe u3,eC u3,eC u4]
def avE (h:Nu P L) (G:Nat) {K:Nat} (hK:K<=30000000000) {o1 o2:AV}:
  ∀k s,(∃(x y:Nat) (s1 s2:Int) (w1 w2:AV),aG [2,3,4] s=⟨[(2,.ptr 0 0),(3,.ptr 1 0),(4,.ptr 2 0)],[(2,.cells true true true 2 [o1,o2]),(1,.cells true true true 2 [aa s2,w2]),(0,.cells true true true 2 [aa s1,w1])],3,0⟩/\dF s1 w1 x/\dF s2 w2 y/\Bd K x/\Bd K y/\Nat.gcd x y=G/\y=k)->
   ∃ex s',D P L (.loop [2,3,4] JU) s=some (ex,s')/\∃tm s1 w1 c1,s'=⟨tm,[(2,.cells true true true 2 [o1,o2]),(1,c1),(0,.cells true true true 2 [aa s1,w1])],3,0⟩/\ex= .exit 0/\af tm 2= .ptr 0 0/\af tm 4= .ptr 2 0/\dF s1 w1 G:=by
 intro dq sq;generalize bh:aG [2,3,4] sq=s0;revert bh s0 sq dq;apply dj;rintro k s ⟨x,y,s1,s2,w1,w2,rfl,h1,h2,k1,k2,hG,rfl⟩;obtain ⟨l1,u1⟩:=h1.aQ;obtain ⟨l2,u2⟩:=h2.aQ;have i1:cP (.agg [aa s1,w1]) (x:Int):=⟨s1,w1,rfl,h1⟩;have i2:cP (.agg [aa s2,w2]) (y:Int):=⟨s2,w2,rfl,h2⟩;have e1:=GZ h i2;by_cases kH:y=0
 ·right
  subst kH;rw [show cJ ((0:Nat):Int)=0 from rfl] at e1;simp only [go_sem,ya,JU,yu,yR,cz,cy,u2.an,e1];obtain rfl:x=G:=by rw [<-hG,Nat.gcd_zero_right]
  exact ⟨_,_,rfl,by simp,_,s1,w1,_,rfl,rfl,by simp only [go_sem,ya],by simp only [go_sem,ya],h1⟩
 ·left
  have e3:cJ (y:Int)=1:=by unfold cJ;rw [yo (by omega),yo (by omega)]
  rw [e3] at e1;obtain ⟨q,r,e2,hq,hr⟩:=aip h i1 i2 (by omega) k1 k2 hK;obtain ⟨s3,w3,rfl,h3⟩:=hq;obtain ⟨s4,w4,rfl,h4⟩:=hr;obtain ⟨l3,u3⟩:=h3.aQ;obtain ⟨l4,u4⟩:=h4.aQ;have aU:=xH x (show 0<y by omega);have kr:Bd K ((x%y:Nat):Int):=k2.le (by omega);simp only [go_sem,ya,yd,JU,Uv,Uw,TM,Th,Ux,wm,uh,yv,yU,bc,cz,cy,u1.an,u2.an,e1,e2,BE,cz,yL,eC u2,eC u3,eC u4];refine ⟨_,x%y,rfl,aU,y,x%y,s2,s4,w2,w4,?_,h2,h4,k2,kr,by rw [<-hG];exact aql x y kH,rfl⟩
  simp only [go_sem,ya,yd,aw]
def air (h:Nu P L) {v w:AV} {a b:Int} {K:Nat} (hv:cP v a) (hw:cP w b) (ka:Bd K a) (kb:Bd K b) (hK:K<=30000000000):∃r,aj P L 130 [v,w] r/\cP r (vv a b:Nat):=by
 obtain ⟨va,e1,ha⟩:=ail h hv ka (by omega);obtain ⟨vb,e2,hb⟩:=ail h hw kb (by omega);obtain ⟨s1,w1,rfl,h1⟩:=hv;obtain ⟨s2,w2,rfl,h2⟩:=hw;obtain ⟨s3,w3,rfl,h3⟩:=ha;obtain ⟨s4,w4,rfl,h4⟩:=hb;obtain ⟨l1,u1⟩:=h1.aQ;obtain ⟨l2,u2⟩:=h2.aQ;obtain ⟨l3,u3⟩:=h3.aQ;obtain ⟨l4,u4⟩:=h4.aQ;have jB:∃s w,aj P L 130 [.agg [aa s1,w1],.agg [aa s2,w2]] (.agg [aa s,w])/\dF s w (vv a b:Nat):=by
  unfold aj;rw [aI h.azs];simp only [go_sem,ya,yd,VJ,bc,u1.pu,u1.an,u1.one,u2.pu,u2.an,u2.one,cz,cy,e1,e2,bO,cz,yL,eC u3,eC u4,yg];generalize hq:D P L (.loop [2,3,4] JU) _=q;obtain ⟨ex,s,rfl,tm,s5,w5,c1,rfl,rfl,t2,t4,h5⟩:=bD hq (avE (P:=P) (L:=L) h (vv a b) (K:=K) hK (o1:= .int .i64 0) (o2:= .ab) b.natAbs) ⟨a.natAbs,b.natAbs,s3,s4,w3,w4,by simp only [go_sem,ya,yd,aw],h3,h4,ka,kb,rfl,rfl⟩;obtain ⟨l5,u5⟩:=h5.aQ;refine ⟨s5,w5,?_,h5⟩;simp only [go_sem,ya,yd,aw,t2,t4,eS,eT,cz,yL,oe u5,eC u5]
 obtain ⟨s,w,e,hn⟩:=jB;exact ⟨_,e,s,w,rfl,hn⟩
end
def dh (v:AV) (r:Rat):Prop:=∃s1 w1 s2 w2,v= .agg [aa s1,w1,aa s2,w2]/\dF s1 w1 r.num/\dF s2 w2 (r.den:Int)
def Hq (k:Nat) (r:Rat):Prop:=Bd k r.num/\Bd k (r.den:Int)
def R2 {a b:Int} (hb:0<b):(wL a b).num=a/(vv a b:Nat)/\((wL a b).den:Int)=b/(vv a b:Nat):=by
 constructor
 ·rw [ybt,Int.sign_eq_one_of_pos hb,Int.one_mul,ybT]
 ·rw [ybu,yo (by omega),ybT]
  grind
def Hq.divInt {k:Nat} {a b:Int} (hb:0<b) (ka:Bd k a) (kb:Bd k b):Hq k (wL a b):=by
 obtain ⟨h1,h2⟩:=R2 (a:=a) hb;refine ⟨ka.le ?_,kb.le ?_⟩
 ·rw [h1,uy (Int.gcd_dvd_left a b)];exact vM _ _
 ·rw [h2,uy (Int.gcd_dvd_right a b)];exact vM _ _
section
def FI {tm:Env} {a b x y z w:AV} {r:List (Nat×Nat×X)} (h1:dG a=true) (h2:dG b=true):qJ tm [x,y,z,w] 0 2 [a,b] r=fill tm [a,b,z,w] r:=by
 rw [TI (by rfl) (by simp) (by simp [cw,h1,h2])];rfl
def FJ {tm:Env} {a b x y z w:AV} {r:List (Nat×Nat×X)} (h1:dG a=true) (h2:dG b=true):qJ tm [x,y,z,w] 2 2 [a,b] r=fill tm [x,y,a,b] r:=by
 rw [TI (by rfl) (by simp) (by simp [cw,h1,h2])];rfl
def mE {s t:Int} {v w:AV} {l m:List Nat} (hv:bU v l) (hw:bU w m) (hp:Hp) (ct id:Nat) (a b x y:AV):gP hp ct id 0 4 [.int .i64 s,v,.int .i64 t,w] (some (.cells true true true 4 [a,b,x,y]))=some (.az [],aT hp id (.cells true true true 4 [.int .i64 s,v,.int .i64 t,w]),ct):=by
 rw [od (by rfl) (by simp) (by simp [cw,hv.one,hw.one,acK])];simp [aH,hv.pu,hw.pu,over,aew]
def mF {s t:Int} {v w:AV} {l m:List Nat} (hv:bU v l) (hw:bU w m) (hp:Hp):result hp (.agg [aa s,v,aa t,w])=some (.agg [aa s,v,aa t,w]):=by
 rcases hv with ⟨rfl,_⟩ | ⟨e,rfl⟩<;>rcases hw with ⟨rfl,_⟩ | ⟨e',rfl⟩<;>rfl
variable {P:aM} {L:Lib}
structure Fr' (P:aM) (L:Lib):Prop extends Nu P L where
 azu:Has P L 101 oh
 XT:Has P L 69 Xm
 azv:Has P L 111 VI
 h98:Has P L 98 QZ
 azw:Has P L 108 VH
 azx:Has P L 102 VG
 h74:Has P L 74 Mk
 XU:Has P L 50 Xl
 pV:Has P L 49 c49
 h73:Has P L 73 Xo
 h70:Has P L 70 Xn
 h71:Has P L 71 c71
 aEt:Has P L 149 ahU
def aeF (h:Fr' P L) {s1 s2:Int} {w1 w2:AV} {a b:Int} {K:Nat} (h1:dF s1 w1 a) (h2:dF s2 w2 b) (eh:0<b) (ka:Bd K a) (kb:Bd K b) (hK:K<=30000000000):
  ∃r,dh r (wL a b)/\∀tm,af tm 2= .ptr 0 0->af tm 3= .ptr 1 0->af tm 4= .ptr 2 0->gJ [.cell 4 4 true] (D P L (aB (aB oh.body)) ⟨tm,[(2,.cells true true true 4 [.int .i64 0,.ab,.int .i64 0,.ab]),(1,.cells true true true 2 [aa s2,w2]),(0,.cells true true true 2 [aa s1,w1])],3,0⟩)=some r:=by
 have hv:cP (.agg [aa s1,w1]) a:=⟨s1,w1,rfl,h1⟩;have hw:cP (.agg [aa s2,w2]) b:=⟨s2,w2,rfl,h2⟩;obtain ⟨p1,p2⟩:=R2 (a:=a) eh;have hgp:=Oz (a:=a) eh;have hgk:Bd K ((vv a b:Nat):Int):=kb.le (by
  have:=Int.gcd_le_natAbs_right a (show b≠0 by omega)
  omega)
 obtain ⟨g,e2,hg⟩:=air h.toNu hv hw ka kb hK;obtain ⟨q1,e4,fK⟩:=aiq h.toNu hv hg hgp ka hgk hK;obtain ⟨q2,e5,Bk⟩:=aiq h.toNu hw hg hgp kb hgk hK;rw [<-p1] at fK;rw [<-p2] at Bk;obtain ⟨s3,w3,rfl,h3⟩:=hg;obtain ⟨s4,w4,rfl,h4⟩:=fK;obtain ⟨s5,w5,rfl,h5⟩:=Bk;obtain ⟨l1,u1⟩:=h1.aQ;obtain ⟨l2,u2⟩:=h2.aQ;obtain ⟨l3,u3⟩:=h3.aQ;obtain ⟨l4,u4⟩:=h4.aQ;obtain ⟨l5,u5⟩:=h5.aQ;by_cases fT:w2= .ab/\s2=1
 ·obtain ⟨rfl,rfl⟩:=fT;have nI:b=1:=by
   rcases h2 with ⟨_,h,_⟩ | ⟨_,_,h,_⟩
   ·exact h.symm
   ·cases h
  subst nI;rw [Int.gcd_one] at p1 p2;have p1:(wL a 1).num=a:=by rw [p1];exact Int.ediv_one a
  refine ⟨.agg [aa s1,w1,aa 1,.ab],⟨s1,w1,1,.ab,rfl,by rw [p1];exact h1,by rw [p2];exact h2⟩,fun tm t2 t3 t4=>?_⟩
  have un:=z7;simp only [go_sem,ya,oh,aB,t2,t3,t4,u1.one,cz,b7,yg,dt,iA,eN,FI,FJ,mE u1 un,eS,eT,yL,fP,mF u1 un]
 ·refine ⟨.agg [aa s4,w4,aa s5,w5],⟨s4,w4,s5,w5,rfl,h4,h5⟩,fun tm t2 t3 t4=>?_⟩;rcases u2 with ⟨rfl,_⟩ | ⟨e,rfl⟩
  ·simp only [go_sem,ya,yd,oh,aB,t2,t3,t4,bc,u1.an,cz,cy,b7,yg,dt,iA,eN,show ¬s2=1 from fun e=>fT ⟨rfl,e⟩,e2,e4,e5,bO,eS,eT,cz,yL,eC u3,u3.an,u4.one,u5.one,FI,FJ,mE u4 u5,fP,mF u4 u5]
  ·simp only [go_sem,ya,yd,oh,aB,t2,t3,t4,bc,u1.an,cz,cy,b7,yg,dt,pk,eN,e2,e4,e5,bO,eS,eT,cz,yL,eC u3,u3.an,u4.one,u5.one,FI,FJ,mE u4 u5,fP,mF u4 u5]
def Wg (h:Fr' P L) {v w:AV} {a b:Int} {K:Nat} (hv:cP v a) (hw:cP w b) (eh:b≠0) (ka:Bd K a) (kb:Bd K b) (hK:K<=30000000000):∃r,aj P L 101 [v,w] r/\dh r (wL a b):=by
 have e1:=GZ h.toNu hw;have fh:=hv;have XV:=hw;obtain ⟨s1,w1,rfl,h1⟩:=hv;obtain ⟨s2,w2,rfl,h2⟩:=hw;obtain ⟨l1,u1⟩:=h1.aQ;obtain ⟨l2,u2⟩:=h2.aQ;have fin:∀r t1 t2 v1 v2 tm,(∀tm,af tm 2= .ptr 0 0->af tm 3= .ptr 1 0->af tm 4= .ptr 2 0->gJ [.cell 4 4 true] (D P L (aB (aB oh.body)) ⟨tm,[(2,.cells true true true 4 [.int .i64 0,.ab,.int .i64 0,.ab]),(1,.cells true true true 2 [aa t2,v2]),(0,.cells true true true 2 [aa t1,v1])],3,0⟩)=some r)->af tm 2= .ptr 0 0->af tm 3= .ptr 1 0->af tm 4= .ptr 2 0->
   D P L (.seq (bw oh.body) (bw (aB oh.body))) ⟨[(0,.agg [aa s1,w1]),(1,.agg [aa s2,w2])],[],0,0⟩=some (.normal,⟨tm,[(2,.cells true true true 4 [.int .i64 0,.ab,.int .i64 0,.ab]),(1,.cells true true true 2 [aa t2,v2]),(0,.cells true true true 2 [aa t1,v1])],3,0⟩)->aj P L 101 [.agg [aa s1,w1],.agg [aa s2,w2]] r:=fun r t1 t2 v1 v2 tm tail k2 k3 k4 e=>by
  unfold aj;rw [aI h.azu];show gJ [.cell 4 4 true] (D P L (.seq (bw oh.body) (.seq (bw (aB oh.body)) (aB (aB oh.body)))) ⟨[(0,.agg [aa s1,w1]),(1,.agg [aa s2,w2])],[],0,0⟩)=_
  rw [Dp,e,fN];exact tail tm k2 k3 k4
 by_cases hn:b<0
 ·obtain ⟨n1,e2,gO⟩:=G0 h.toNu fh ka (by omega);obtain ⟨n2,e3,dE⟩:=G0 h.toNu XV kb (by omega);obtain ⟨s3,w3,rfl,h3⟩:=gO;obtain ⟨s4,w4,rfl,h4⟩:=dE;obtain ⟨l3,u3⟩:=h3.aQ;obtain ⟨l4,u4⟩:=h4.aQ;obtain ⟨r,hr,tail⟩:=aeF h h3 h4 (by omega) ka.neg kb.neg hK;rw [Rat.neg_divInt_neg] at hr;have hs:cJ b<0:=by unfold cJ;rw [yA hn];decide
  refine ⟨r,fin r _ _ _ _ _ tail ?_ ?_ ?_ (by simp only [go_sem,ya,yd,oh,bw,aB,hs,bc,u1.pu,u1.an,u1.one,u2.pu,u2.an,u2.one,cz,cy,e1,e2,e3,bO,eC u3,eC u4]<;>rfl),hr⟩<;>simp only [go_sem,ya]
 ·obtain ⟨r,hr,tail⟩:=aeF h h1 h2 (by omega) ka kb hK;have hs:¬cJ b<0:=by unfold cJ;rw [yo hn];split<;>decide
  refine ⟨r,fin r _ _ _ _ _ tail ?_ ?_ ?_ (by simp only [go_sem,ya,yd,oh,bw,aB,hs,bc,u1.pu,u1.one,u2.pu,u2.an,u2.one,cz,cy,e1]<;>rfl),hr⟩<;>simp only [go_sem,ya]
end
def Hq.mono {k m:Nat} {r:Rat} (h:Hq k r) (hk:k<=m):Hq m r:=⟨h.1.mono hk,h.2.mono hk⟩
def Hq.neg {k:Nat} {r:Rat} (h:Hq k r):Hq k (-r):=⟨h.1.neg,h.2⟩
def add_eq (a b:Rat):a+b=wL (a.num*b.den+b.num*a.den) ((a.den:Int)*b.den):=by
 rw [Rat.add_def',<-ybh,vA]
def mul_eq (a b:Rat):a*b=wL (a.num*b.num) ((a.den:Int)*b.den):=by
 rw [Rat.mul_def',<-ybh,vA]
def abv (a:Rat):0<(a.den:Int):=by have:=a.den_pos;omega
def Fl (a b:Rat):0<(a.den:Int)*b.den:=Int.mul_pos (abv a) (abv b)
def Bd.Wh {k:Nat} {a b:Int} (ha:Bd k a) (hb:Bd k b):Bd (k+1) (a+b):=by
 have:=ha.add hb
 grind
def Hq.add {k m:Nat} {a b:Rat} (ha:Hq k a) (hb:Hq m b):Hq (k+m+1) (a+b):=by
 rw [add_eq];refine Hq.divInt (Fl a b) ?_ ((ha.2.mul hb.2).mono (by omega));exact (ha.1.mul hb.2).Wh ((hb.1.mul ha.2).mono (by omega))
def Hq.mul {k m:Nat} {a b:Rat} (ha:Hq k a) (hb:Hq m b):Hq (k+m) (a*b):=by
 rw [mul_eq];exact Hq.divInt (Fl a b) (ha.1.mul hb.1) (ha.2.mul hb.2)
def Hq.sub {k m:Nat} {a b:Rat} (ha:Hq k a) (hb:Hq m b):Hq (k+m+1) (a-b):=by
 rw [yaV];exact ha.add hb.neg
def Hq.inv {k:Nat} {a:Rat} (ha:Hq k a):Hq k a⁻¹:=by
 have h1:(a⁻¹).num.natAbs<=a.den:=by
  rw [Rat.num_inv,ybs]
  grind
 refine ⟨ha.2.le (by simpa using h1),?_⟩;unfold Bd;rw [Rat.den_inv]
 split
 ·have h2:=ha.2;unfold Bd at h2
  simp_all
 ·exact ha.1
def TN (a:Rat) (h:a.den=1):a=(a.num:Rat):=by
 have:=Rat.num_divInt_den a
 rw [h] at this;rw [<-this];exact (Rat.ext (by simp [ybt]) (by simp [ybu]))
def Gu (a b c d:AV) (r:List AV):iX 2 true (List.drop 2 (a::b::c::d::r))=some (.agg [c,d]):=rfl
def AF (a b:AV) (r:List AV):iX 2 true (a::b::r)=some (.agg [a,b]):=rfl
section
variable {P:aM} {L:Lib}
def Wi (h:Fr' P L) {v:AV} {z:Int} (hv:cP v z):∃r,aj P L 111 [v] r/\dh r (z:Rat):=by
 obtain ⟨o1,o2⟩:=En h.toNu (z:=1) (by decide) (by decide);obtain ⟨s1,w1,rfl,h1⟩:=hv;obtain ⟨l1,u1⟩:=h1.aQ;have un:=z7;refine ⟨.agg [aa s1,w1,aa 1,.ab],?_,s1,w1,1,.ab,rfl,h1,.inl ⟨rfl,rfl,(by show (-9223372036854775808:Int)<=1;decide),(by show (1:Int)<9223372036854775808;decide)⟩⟩
 unfold aj;rw [aI h.azv];simp only [go_sem,ya,yd,VI,bc,u1.pu,u1.one,cz,o1,bO,FI,FJ,mE u1 un,eS,eT,yL,fP,mF u1 un]
def m69 (h:Fr' P L) {z:Int} (h1: -9223372036854775808<=z) (h2:z<9223372036854775808):∃r,aj P L 69 [aa z] r/\dh r (z:Rat):=by
 obtain ⟨o1,o2⟩:=En h.toNu h1 h2;obtain ⟨r,e,hr⟩:=Wi h o2;have bk:=hr;obtain ⟨s1,w1,s2,w2,rfl,k1,k2⟩:=hr;obtain ⟨l1,u1⟩:=k1.aQ;obtain ⟨l2,u2⟩:=k2.aQ;refine ⟨_,?_,bk⟩;unfold aj;rw [aI h.XT];simp only [go_sem,ya,yd,Xm,bc,cy,o1,e,bO,mE u1 u2,eS,eT,yL,fP,mF u1 u2]
def XW (h:Fr' P L) {v:AV} {a:Rat} (hv:dh v a):aj P L 98 [v] (.bool (decide (a.den=1))):=by
 obtain ⟨s1,w1,s2,w2,rfl,h1,h2⟩:=hv;obtain ⟨l1,u1⟩:=h1.aQ;unfold aj;rw [aI h.h98];rcases h2 with ⟨rfl,rfl,b1,b2⟩ | ⟨e,l,rfl,gb,nb,vb,sb,b1⟩
 ·have e:decide (((a.den:Nat):Int)=1)=decide (a.den=1):=by simp;omega
  simp only [go_sem,ya,yd,QZ,bc,u1.pu,u1.one,b7,yg,axz,agQ,iA,eN,e]
 ·have e:decide (a.den=1)=false:=xb (by omega);rw [e];simp only [go_sem,ya,yd,QZ,bc,u1.pu,u1.one,b7,yg,agQ,pk,eN]
def ais (h:Fr' P L) {v:AV} {a:Rat} (hv:dh v a):aj P L 108 [v] (aa (cJ a.num)):=by
 obtain ⟨s1,w1,s2,w2,rfl,h1,h2⟩:=hv;obtain ⟨l1,u1⟩:=h1.aQ;obtain ⟨l2,u2⟩:=h2.aQ;have e1:=GZ h.toNu ⟨s1,w1,rfl,h1⟩;unfold aj;rw [aI h.azw];simp only [go_sem,ya,yd,VH,bc,u1.pu,u1.an,u1.one,u2.pu,u2.one,b7,yg,AF,cy,e1]
def azy (h:Fr' P L) {v:AV} {a:Rat} {K:Nat} (hv:dh v a) (ka:Hq K a) (hK:K<=30000000000):∃r,aj P L 102 [v] r/\dh r (-a):=by
 obtain ⟨s1,w1,s2,w2,rfl,h1,h2⟩:=hv;obtain ⟨l1,u1⟩:=h1.aQ;obtain ⟨l2,u2⟩:=h2.aQ;obtain ⟨n,e1,hn⟩:=G0 h.toNu ⟨s1,w1,rfl,h1⟩ ka.1 (by omega);obtain ⟨s3,w3,rfl,h3⟩:=hn;obtain ⟨l3,u3⟩:=h3.aQ;refine ⟨.agg [aa s3,w3,aa s2,w2],?_,s3,w3,s2,w2,rfl,h3,h2⟩;unfold aj;rw [aI h.azx];simp only [go_sem,ya,yd,VG,bc,u1.pu,u1.an,u1.one,u2.pu,u2.one,u3.one,b7,yg,AF,Gu,cy,e1,bO,FI,FJ,mE u3 u2,eS,eT,yL,fP,mF u3 u2]
def XX (h:Fr' P L) {v w:AV} {a b:Rat} {K:Nat} (hv:dh v a) (hw:dh w b) (ka:Hq K a) (kb:Hq K b) (hK:K<=10000000000):∃r,aj P L 74 [v,w] r/\dh r (a+b):=by
 have i1:=XW h hv;have i2:=XW h hw;obtain ⟨s1,w1,s2,w2,rfl,h1,h2⟩:=hv;obtain ⟨s3,w3,s4,w4,rfl,h3,h4⟩:=hw;obtain ⟨l1,u1⟩:=h1.aQ;obtain ⟨l2,u2⟩:=h2.aQ;obtain ⟨l3,u3⟩:=h3.aQ;obtain ⟨l4,u4⟩:=h4.aQ;have n1:cP (.agg [aa s1,w1]) a.num:=⟨s1,w1,rfl,h1⟩;have n2:cP (.agg [aa s2,w2]) a.den:=⟨s2,w2,rfl,h2⟩;have n3:cP (.agg [aa s3,w3]) b.num:=⟨s3,w3,rfl,h3⟩;have n4:cP (.agg [aa s4,w4]) b.den:=⟨s4,w4,rfl,h4⟩;by_cases jb:a.den=1/\b.den=1
 ·obtain ⟨d1,d2⟩:=jb;obtain ⟨p,e1,hp⟩:=LA h.toNu n1 n3 ka.1 kb.1 (by omega);obtain ⟨r,e2,hr⟩:=Wi h hp;have he:((a.num+b.num:Int):Rat)=a+b:=by
   rw [Rat.intCast_add,<-TN a d1,<-TN b d2]
  rw [he] at hr;have bk:=hr;obtain ⟨s5,w5,rfl,h5⟩:=hp;obtain ⟨s6,w6,s7,w7,rfl,h6,h7⟩:=hr;obtain ⟨l5,u5⟩:=h5.aQ;obtain ⟨l6,u6⟩:=h6.aQ;obtain ⟨l7,u7⟩:=h7.aQ;refine ⟨_,?_,bk⟩;rw [d1] at i1;rw [d2] at i2;unfold aj;rw [aI h.h74];simp only [go_sem,ya,yd,Mk,bc,u1.pu,u1.an,u1.one,u2.pu,u2.an,u2.one,u3.pu,u3.an,u3.one,u4.pu,u4.an,u4.one,b7,yg,fP,AF,cy,i1,i2,e1,u5.an,e2,bO,mE u6 u7,eS,eT,yL,fP,mF u6 u7]
 ·obtain ⟨p1,e1,a6⟩:=Cx h.toNu n1 n4 ka.1 kb.2 (by omega);obtain ⟨p2,e2,fD⟩:=Cx h.toNu n3 n2 kb.1 ka.2 (by omega);obtain ⟨p3,e3,oM⟩:=LA h.toNu a6 fD (ka.1.mul kb.2) (kb.1.mul ka.2) (by omega);obtain ⟨p4,e4,HL⟩:=Cx h.toNu n2 n4 ka.2 kb.2 (by omega);obtain ⟨r,e5,hr⟩:=Wg h oM HL (by have:=Fl a b;omega) ((ka.1.mul kb.2).Wh (kb.1.mul ka.2)) ((ka.2.mul kb.2).mono (by omega)) (by omega);rw [<-add_eq] at hr;have bk:=hr;obtain ⟨s5,w5,rfl,h5⟩:=a6;obtain ⟨s6,w6,rfl,h6⟩:=fD;obtain ⟨s7,w7,rfl,h7⟩:=oM;obtain ⟨s8,w8,rfl,h8⟩:=HL;obtain ⟨s9,w9,s10,Rx,rfl,h9,jl⟩:=hr;obtain ⟨l5,u5⟩:=h5.aQ;obtain ⟨l6,u6⟩:=h6.aQ;obtain ⟨l7,u7⟩:=h7.aQ;obtain ⟨l8,u8⟩:=h8.aQ;obtain ⟨l9,u9⟩:=h9.aQ;obtain ⟨l10,Ry⟩:=jl.aQ;refine ⟨_,?_,bk⟩;unfold aj;rw [aI h.h74];by_cases d1:a.den=1
  ·rw [d1] at i1;rw [xb (fun d2=>jb ⟨d1,d2⟩)] at i2;simp only [go_sem,ya,yd,Mk,bc,u1.pu,u1.an,u1.one,u2.pu,u2.an,u2.one,u3.pu,u3.an,u3.one,u4.pu,u4.an,u4.one,b7,yg,fP,AF,Gu,cy,i1,i2,e1,e2,u5.an,u6.an,e3,e4,u7.an,u8.an,e5,bO,mE u9 Ry,eS,eT,yL,fP,mF u9 Ry]
  ·rw [xb d1] at i1;simp only [go_sem,ya,yd,Mk,bc,u1.pu,u1.an,u1.one,u2.pu,u2.an,u2.one,u3.pu,u3.an,u3.one,u4.pu,u4.an,u4.one,b7,yg,fP,AF,Gu,cy,i1,e1,e2,u5.an,u6.an,e3,e4,u7.an,u8.an,e5,bO,mE u9 Ry,eS,eT,yL,fP,mF u9 Ry]
def m50 (h:Fr' P L) {v w:AV} {a b:Rat} {K:Nat} (hv:dh v a) (hw:dh w b) (ka:Hq K a) (kb:Hq K b) (hK:K<=10000000000):∃r,aj P L 50 [v,w] r/\dh r (a-b):=by
 obtain ⟨n,e1,hn⟩:=azy h hw kb (by omega);obtain ⟨r,e2,hr⟩:=XX h hv hn ka kb.neg hK;rw [<-yaV] at hr;have bk:=hr;obtain ⟨s1,w1,s2,w2,rfl,h1,h2⟩:=hv;obtain ⟨s3,w3,s4,w4,rfl,h3,h4⟩:=hw;obtain ⟨s5,w5,s6,w6,rfl,h5,h6⟩:=hn;obtain ⟨s7,w7,s8,w8,rfl,h7,h8⟩:=hr;obtain ⟨l1,u1⟩:=h1.aQ;obtain ⟨l2,u2⟩:=h2.aQ;obtain ⟨l3,u3⟩:=h3.aQ;obtain ⟨l4,u4⟩:=h4.aQ;obtain ⟨l5,u5⟩:=h5.aQ;obtain ⟨l6,u6⟩:=h6.aQ;obtain ⟨l7,u7⟩:=h7.aQ;obtain ⟨l8,u8⟩:=h8.aQ;refine ⟨_,?_,bk⟩;unfold aj;rw [aI h.XU];simp only [go_sem,ya,yd,Xl,bc,u1.pu,u1.an,u1.one,u2.pu,u2.an,u2.one,u3.pu,u3.an,u3.one,u4.pu,u4.an,u4.one,u5.an,u6.an,fP,cy,e1,e2,bO,mE u7 u8,eS,eT,yL,fP,mF u7 u8]
def XY (h:Fr' P L) {v w:AV} {a b:Rat} {K:Nat} (hv:dh v a) (hw:dh w b) (ka:Hq K a) (kb:Hq K b) (hK:K<=10000000000):∃r,aj P L 49 [v,w] r/\dh r (a*b):=by
 obtain ⟨s1,w1,s2,w2,rfl,h1,h2⟩:=hv;obtain ⟨s3,w3,s4,w4,rfl,h3,h4⟩:=hw;obtain ⟨l1,u1⟩:=h1.aQ;obtain ⟨l2,u2⟩:=h2.aQ;obtain ⟨l3,u3⟩:=h3.aQ;obtain ⟨l4,u4⟩:=h4.aQ;obtain ⟨p1,e1,a6⟩:=Cx h.toNu (v:= .agg [aa s1,w1]) (w:= .agg [aa s3,w3]) ⟨s1,w1,rfl,h1⟩ ⟨s3,w3,rfl,h3⟩ ka.1 kb.1 (by omega);obtain ⟨p2,e2,fD⟩:=Cx h.toNu (v:= .agg [aa s2,w2]) (w:= .agg [aa s4,w4]) ⟨s2,w2,rfl,h2⟩ ⟨s4,w4,rfl,h4⟩ ka.2 kb.2 (by omega);obtain ⟨r,e3,hr⟩:=Wg h a6 fD (by have:=Fl a b;omega) (ka.1.mul kb.1) (ka.2.mul kb.2) (by omega);rw [<-mul_eq] at hr;have bk:=hr;obtain ⟨s5,w5,rfl,h5⟩:=a6;obtain ⟨s6,w6,rfl,h6⟩:=fD;obtain ⟨s7,w7,s8,w8,rfl,h7,h8⟩:=hr;obtain ⟨l5,u5⟩:=h5.aQ;obtain ⟨l6,u6⟩:=h6.aQ;obtain ⟨l7,u7⟩:=h7.aQ;obtain ⟨l8,u8⟩:=h8.aQ;refine ⟨_,?_,bk⟩;unfold aj;rw [aI h.pV]
 simp only [go_sem,ya,yd,c49,bc,u1.pu,u1.an,u1.one,u2.pu,u2.an,u2.one,u3.pu,u3.an,u3.one,u4.pu,u4.an,u4.one,u5.an,u6.an,b7,yg,AF,Gu,cy,e1,e2,e3,bO,mE u7 u8,eS,eT,yL,fP,mF u7 u8]
def m73 (h:Fr' P L) {v:AV} {a:Rat} {K:Nat} (hv:dh v a) (h0:a≠0) (ka:Hq K a) (hK:K<=10000000000):∃r,aj P L 73 [v] r/\dh r a⁻¹:=by
 obtain ⟨s1,w1,s2,w2,rfl,h1,h2⟩:=hv;obtain ⟨l1,u1⟩:=h1.aQ;obtain ⟨l2,u2⟩:=h2.aQ;obtain ⟨r,e1,hr⟩:=Wg h (v:= .agg [aa s2,w2]) (w:= .agg [aa s1,w1]) ⟨s2,w2,rfl,h2⟩ ⟨s1,w1,rfl,h1⟩ (fun e=>h0 (Rat.num_eq_zero.1 e)) ka.2 ka.1 (by omega);rw [<-Rat.inv_def] at hr;have bk:=hr;obtain ⟨s7,w7,s8,w8,rfl,h7,h8⟩:=hr;obtain ⟨l7,u7⟩:=h7.aQ;obtain ⟨l8,u8⟩:=h8.aQ;refine ⟨_,?_,bk⟩;unfold aj;rw [aI h.h73];simp only [go_sem,ya,yd,Xo,bc,u1.pu,u1.an,u1.one,u2.pu,u2.an,u2.one,b7,yg,AF,Gu,cy,e1,bO,mE u7 u8,eS,eT,yL,fP,mF u7 u8]
def m70 (h:Fr' P L) {v w:AV} {a b:Rat} {K:Nat} (hv:dh v a) (hw:dh w b) (h0:b≠0) (ka:Hq K a) (kb:Hq K b) (hK:K<=10000000000):∃r,aj P L 70 [v,w] r/\dh r (a/b):=by
 obtain ⟨n,e1,hn⟩:=m73 h hw h0 kb hK;obtain ⟨r,e2,hr⟩:=XY h hv hn ka kb.inv hK;have bk:=hr;obtain ⟨s1,w1,s2,w2,rfl,h1,h2⟩:=hv;obtain ⟨s3,w3,s4,w4,rfl,h3,h4⟩:=hw;obtain ⟨s5,w5,s6,w6,rfl,h5,h6⟩:=hn;obtain ⟨s7,w7,s8,w8,rfl,h7,h8⟩:=hr;obtain ⟨l1,u1⟩:=h1.aQ;obtain ⟨l2,u2⟩:=h2.aQ;obtain ⟨l3,u3⟩:=h3.aQ;obtain ⟨l4,u4⟩:=h4.aQ;obtain ⟨l5,u5⟩:=h5.aQ;obtain ⟨l6,u6⟩:=h6.aQ;obtain ⟨l7,u7⟩:=h7.aQ;obtain ⟨l8,u8⟩:=h8.aQ;refine ⟨_,?_,bk⟩;unfold aj;rw [aI h.h70];simp only [go_sem,ya,yd,Xn,bc,u1.pu,u1.an,u1.one,u2.pu,u2.an,u2.one,u3.pu,u3.an,u3.one,u4.pu,u4.an,u4.one,u5.an,u6.an,fP,cy,e1,e2,bO,mE u7 u8,eS,eT,yL,fP,mF u7 u8]
end
def sS:List AV->Option (List Nat)
 | []=>some []
 | .int .u64 (.ofNat d)::r=>bif yQ d 18446744073709551616 then (match sS r with | some l=>some (d::l) | none=>none) else none
 | _::_=>none
def zn:List Nat->Nat
 | []=>0
 | a::r=>a+18446744073709551616*zn r
def Ce:List Nat->Bool
 | []=>false
 | [a]=> !yz a 0
 | _::r=>Ce r
def OE:List AV->Option AV
 | [.agg [.int .i64 s,.ab]]=>bif Ca s then some (.str (aY s)) else none
 | [.agg [.int .i64 s,.aE _ n cs]]=>
  match sS cs with
  | some l=>
   bif yz l.length n&&(yK n 4000000000&&(Ce l&&yK 9223372036854775808 (zn l))) then
    match s with
    | .ofNat 1=>some (.str (aD (zn l)))
    | .negSucc 0=>some (.str (45::aD (zn l)))
    | _=>none
   else none
  | none=>none
 | _=>none
def ZF:∀{l:List Nat},lo 18446744073709551616 l->sS (l.map uc)=some l
 | [],_=>rfl
 | a::l,h=>by
  have h1:=h a (by simp);have h2:=ZF (l:=l) (fun x hx=>h x (by simp [hx]));show (bif yQ a 18446744073709551616 then (match sS (l.map uc) with | some l=>some (a::l) | none=>none) else none)=_
  rw [lY h1,h2];rfl
def TO:∀l:List Nat,zn l=bv 18446744073709551616 l
 | []=>rfl
 | a::l=>by simp only [zn,bv,TO l]
def abw:∀{l:List Nat},l≠[]->im l->Ce l=true
 | [],h,_=>absurd rfl h
 | [a],_,h=>by
  have:a≠0:=fun e=>by
   subst e;have h:eB [0]=[0]:=h;simp [eB] at h
  simp [Ce,iO this]
 | a::b::r,_,h=>by
  have h1:im (b::r):=by
   have h:eB (a::b::r)=a::b::r:=h;rw [eB] at h
   grind
  have:=abw (l:=b::r) (by simp) h1
  simpa [Ce] using this
section
variable {P:aM} {L:Lib}
structure Tx (P:aM) (L:Lib):Prop extends Fr' P L where
 HM:L.pure 99=some OE
 azz:L.pure 175=some JR
 ait:L.pure 152=some NB
 Wj:L.pure 153=some No
 Wk:L.pure 154=some KA
 Wl:L.pure 109=some PN
 Wm:Has P L 155 PW
 aiu:Has P L 172 P0
 azA:Has P L 151 PV
 azB:Has P L 107 PP
 XZ:Has P L 46 QR
 aiv:Has P L 110 PQ
 Rz:Has P L 62 QS
def X0 (h:Tx P L) {v:AV} {z:Int} {K:Nat} (hv:cP v z) (hz:Bd K z) (hK:K<=4000000000):aj P L 99 [v] (.str (aY z)):=by
 obtain ⟨s,w,rfl,hn⟩:=hv;unfold aj;rw [jL h.HM];rcases hn with ⟨rfl,rfl,h1,h2⟩ | ⟨e,l,rfl,g,n,hb,hs,h1⟩
 ·show (bif Ca s then some (AV.str (aY s)) else none)=_
  have:Ca s=true:=by
   cases s with
   | ofNat k=>exact lY (by have:(Int.ofNat k)=(k:Int):=rfl;omega)
   | negSucc k=>exact lY (by omega)
  grind
 ·have lD:l≠[]:=fun e=>by subst e;simp [bv] at hb;omega
  have zF:l.length<=4000000000:=xv (pz n hb (yV hz (B0 K))) hK
  show (match sS (l.map uc) with
   | some l'=>bif yz l'.length l.length&&(yK l.length 4000000000&&(Ce l'&&yK 9223372036854775808 (zn l'))) then (match s with | .ofNat 1=>some (AV.str (aD (zn l'))) | .negSucc 0=>some (.str (45::aD (zn l'))) | _=>none) else none
   | none=>none)=_
  rw [ZF g];simp only [Nat.beq_refl,yx zF,abw lD n,TO,hb,yx h1,wm,yD];by_cases h0:z<0
  ·rw [yA h0] at hs;subst hs;rw [nV h0];rfl
  ·rw [yo h0] at hs;subst hs;obtain ⟨m,rfl⟩:∃m:Nat,z=m:=⟨z.toNat,by omega⟩;rfl
def RT (r:Rat):List Nat:=aY r.num++(if r.den=1 then [] else 47::aD r.den)
def Jb {z:Int} {k:Nat} (h:Bd k z):(aY z).length<=k+1:=by
 have h1:∀m:Nat,m<2^k->(aD m).length<=max k 1:=fun m hm=>by
  cases k with
  | zero=>
       have:m=0:=by simpa using hm
       subst this;decide
  | succ k=>
   rw [Nat.max_eq_left (by omega)];exact sG (k:=k) (yV hm (ue (by decide) _))
 by_cases h0:z<0
 ·rw [nV h0];unfold Bd at h
  grind
 ·obtain ⟨m,rfl⟩:∃m:Nat,z=m:=⟨z.toNat,by omega⟩
  have:=h1 m (by unfold Bd at h;simpa using h)
  rw [mw];omega
def m46 (h:Tx P L) {v:AV} {a:Rat} {K:Nat} (hv:dh v a) (ka:Hq K a) (hK:K<=4000000000):aj P L 46 [v] (.str (RT a)):=by
 have i1:=XW h.toFr' hv;obtain ⟨s1,w1,s2,w2,rfl,h1,h2⟩:=hv;obtain ⟨l1,u1⟩:=h1.aQ;obtain ⟨l2,u2⟩:=h2.aQ;have e1:=X0 h (v:= .agg [aa s1,w1]) ⟨s1,w1,rfl,h1⟩ ka.1 hK;have e2:=X0 h (v:= .agg [aa s2,w2]) ⟨s2,w2,rfl,h2⟩ ka.2 hK;have b1:=Jb ka.1;have b2:=Jb ka.2;rw [mw] at e2 b2;unfold aj RT;rw [aI h.XZ];by_cases hd:a.den=1
 ·rw [yA hd,List.append_nil];rw [hd] at i1;simp only [go_sem,ya,yd,QR,bc,u1.pu,u1.an,u1.one,u2.pu,u2.an,u2.one,fP,cy,i1,b7,yg,AF,e1]
 ·rw [yo hd];rw [xb hd] at i1;have hc:aY a.num++47::aD a.den=(aY a.num++[47])++aD a.den:=by simp
  rw [hc]
  simp only [go_sem,ya,yd,QR,bc,u1.pu,u1.an,u1.one,u2.pu,u2.an,u2.one,fP,cy,i1,b7,yg,AF,Gu,e1,e2,ia (a:=aY a.num) (b:=[47]) (by simp;omega),ia (a:=aY a.num++[47]) (b:=aD a.den) (by simp;omega)]
end
def azC {n:Nat} (h:n<9223372036854775808):binOp .and (.int .i64 (n:Int)) (.int .i64 1)=some (.int .i64 ((n%2:Nat):Int)):=by
 show some (AV.int .i64 (IntKind.wrap .i64 ((xV 64 (n:Int)&&&xV 64 1).toNat:Int)))=_
 rw [show xV 64 (n:Int)=uR 64 n from BitVec.ofInt_natCast 64 n,show xV 64 1=uR 64 1 from rfl];rw [BitVec.toNat_and,vP,vP,show (1%2^64:Nat)=2^1-1 from rfl,Nat.and_two_pow_sub_one_eq_mod,wrapN (by omega)]
 grind
def azD (n:Nat):binOp .shr (.int .i64 (n:Int)) (.int .u64 1)=some (.int .i64 ((n/2:Nat):Int)):=by
 show some (AV.int .i64 ((n:Int).fdiv (2^1)))=_
 grind
def Bd.pow {k:Nat} {z:Int} (h:Bd k z):∀e,Bd (k*e+1) (z^e)
 | 0=>by rw [yas,xM];unfold Bd;decide
 | e+1=>by
  have ih:=Bd.pow h e;rw [Int.pow_succ];exact (ih.mul h).mono (by rw [xK,yh];omega)
section
variable {P:aM} {L:Lib}
def avF (h:Nu P L) (Qm:True) {z:Int} {K k0:Nat} (hz:Bd K z) (hK:K*k0+1<=30000000000) {o1 o2:AV}:
  ∀m st,(∃(k i e:Nat) (s1 s2:Int) (w1 w2:AV),aG [1,2,4,5] st=⟨[(1,aa k),(2,.ptr 0 0),(4,.ptr 1 0),(5,.ptr 2 0)],[(2,.cells true true true 2 [aa s2,w2]),(1,.cells true true true 2 [o1,o2]),(0,.cells true true true 2 [aa s1,w1])],3,0⟩/\dF s1 w1 (z^i)/\dF s2 w2 (z^e)/\e+i*k=k0/\(0<k->i<=k0)/\k<9223372036854775808/\k=m)->
   ∃ex st',D P L (.loop [1,2,4,5] DG) st=some (ex,st')/\∃tm s2 w2 c0,st'=⟨tm,[(2,.cells true true true 2 [aa s2,w2]),(1,.cells true true true 2 [o1,o2]),(0,c0)],3,0⟩/\ex= .exit 0/\af tm 4= .ptr 1 0/\af tm 5= .ptr 2 0/\dF s2 w2 (z^k0):=by
 intro dq sq;generalize bh:aG [1,2,4,5] sq=s0;revert bh s0 sq dq;apply dj;rintro m st ⟨k,i,e,s1,s2,w1,w2,rfl,h1,h2,hk,hi,hkb,rfl⟩;obtain ⟨l1,u1⟩:=h1.aQ;obtain ⟨l2,u2⟩:=h2.aQ;by_cases QD:k=0
 ·right
  subst QD;rw [xM,y7] at hk;subst hk;simp only [go_sem,DG,show ¬(0:Int)<((0:Nat):Int) by omega];exact ⟨_,_,rfl,by simp,_,s2,w2,_,rfl,rfl,by simp only [go_sem,ya],by simp only [go_sem,ya],h2⟩
 ·left
  have cB:=hi (by omega);have he:e<=k0:=by omega
  have iK:i*1<=i*k:=y8 i (by omega);have b1:Bd (K*k0+1) (z^i):=(hz.pow i).mono (by have:=y8 K cB;omega);have b2:Bd (K*k0+1) (z^e):=(hz.pow e).mono (by have:=y8 K he;omega);have n1:cP (.agg [aa s1,w1]) (z^i):=⟨s1,w1,rfl,h1⟩;have n2:cP (.agg [aa s2,w2]) (z^e):=⟨s2,w2,rfl,h2⟩;obtain ⟨p,e1,hp⟩:=Cx h n2 n1 b2 b1 (by omega);obtain ⟨q,e2,hq⟩:=Cx h n1 n1 b1 b1 (by omega);rw [<-Int.pow_add] at hp hq;obtain ⟨s3,w3,rfl,h3⟩:=hp;obtain ⟨s4,w4,rfl,h4⟩:=hq;obtain ⟨l3,u3⟩:=h3.aQ;obtain ⟨l4,u4⟩:=h4.aQ;have gF:=wg k 2;have MK:=azC (n:=k) hkb;have X1:=azD k;have aEh:(i+i)*(k/2)=i*(2*(k/2)):=by rw [<-Nat.two_mul,Nat.mul_comm 2 i,Nat.mul_assoc]
  by_cases azE:k%2=1
  ·rw [azE] at MK gF;have rZ:i*k=i*(2*(k/2))+i:=by
    conv=>lhs;rw [<-gF,xK,yh]
   by_cases oE:1<k
   ·simp only [go_sem,ya,DG,show (0:Int)<(k:Int) by omega,MK,show ((1:Nat):Int)=1 from rfl,cz,cy,u1.an,u2.an,e1,bO,cz,yL,eC u3,eC u4,show (1:Int)<(k:Int) by omega,e2,X1]
    exact ⟨_,k/2,rfl,by omega,k/2,i+i,e+i,s4,s3,w4,w3,by simp only [go_sem,ya,yd,aw],h4,h3,by omega,fun h0=>by have:=y8 (i+i) h0;omega,by omega,rfl⟩
   ·have fT:e+i+i*(k/2)=k0:=by
     have h1:k/2=0:=by omega
     rw [h1] at rZ ⊢;omega
    simp only [go_sem,ya,DG,show (0:Int)<(k:Int) by omega,MK,show ((1:Nat):Int)=1 from rfl,cz,cy,u1.an,u2.an,e1,bO,cz,yL,eC u3,show ¬(1:Int)<(k:Int) by omega,X1];exact ⟨_,k/2,rfl,by omega,k/2,i,e+i,s1,s3,w1,w3,by simp only [go_sem,ya,yd,aw],h1,h3,fT,fun h0=>by omega,by omega,rfl⟩
  ·have EJ:k%2=0:=by omega
   rw [EJ] at MK gF;have rZ:i*k=i*(2*(k/2)):=by
    conv=>lhs;rw [<-gF,y7]
   simp only [go_sem,ya,DG,show (0:Int)<(k:Int) by omega,MK,show ((0:Nat):Int)=0 from rfl,uh,cz,cy,u1.an,bO,cz,yL,eC u4,show (1:Int)<(k:Int) by omega,e2,X1]
   exact ⟨_,k/2,rfl,by omega,k/2,i+i,e,s4,s2,w4,w2,by simp only [go_sem,ya,yd,aw],h4,h2,by omega,fun h0=>by have:=y8 (i+i) h0;omega,by omega,rfl⟩
def azF (h:Nu P L) (Wm:Has P L 155 PW) {v:AV} {z:Int} {K k:Nat} (hv:cP v z) (hz:Bd K z) (hK:K*k+1<=30000000000) (hk:k<9223372036854775808):∃r,aj P L 155 [v,aa k] r/\cP r (z^k):=by
 obtain ⟨o1,o2⟩:=En h (z:=1) (by decide) (by decide);obtain ⟨s1,w1,rfl,h1⟩:=hv;obtain ⟨l1,u1⟩:=h1.aQ;have un:=z7;have jB:∃s w,aj P L 155 [.agg [aa s1,w1],aa k] (.agg [aa s,w])/\dF s w (z^k):=by
  unfold aj;rw [aI Wm];simp only [go_sem,ya,yd,PW,bc,u1.pu,u1.one,o1,bO,eC un];generalize hq:D P L (.loop [1,2,4,5] DG) _=q;obtain ⟨ex,st,rfl,tm,s5,w5,c1,rfl,rfl,t4,t5,h5⟩:=bD hq (avF (P:=P) (L:=L) h trivial hz (k0:=k) hK (o1:= .int .i64 0) (o2:= .ab) k) ⟨k,1,0,s1,1,w1,.ab,by simp only [go_sem,ya,yd,aw],by rw [Int.pow_one];exact h1,.inl ⟨rfl,(yas z).symm,(by rw [yas];decide)⟩,by omega,fun h0=>h0,hk,rfl⟩
  obtain ⟨l5,u5⟩:=h5.aQ;refine ⟨s5,w5,?_,h5⟩;simp only [go_sem,ya,yd,aw,t4,t5,eS,eT,cz,yL,oe u5,eC u5]
 obtain ⟨s,w,e,hn⟩:=jB;exact ⟨_,e,s,w,rfl,hn⟩
def Jl:∀(l m:List Nat) (a:Nat),cV (l++m) a=(cV l a).bind (fun v=>cV m v)
 | [],m,a=>rfl
 | b::l,m,a=>by
  simp only [List.cons_append,cV]
  cases (yK 48 b&&yK b 57) with
  | true=>exact Jl l m _
  | false=>rfl
def aqw:∀{l:List Nat} {a v:Nat},cV l 0=some v->cV l a=some (a*10^l.length+v):=by
 intro l
 suffices h:∀{l:List Nat} {a b v:Nat},cV l b=some v->b*10^l.length<=v/\cV l (a+b)=some (a*10^l.length+v) by
  intro a v hv
  have:=(h (a:=a) hv).2
  grind
 intro l
 induction l with
 | nil=>intro a b v h;simp [cV] at h ⊢;omega
 | cons c l ih=>
  intro a b v h;simp only [cV] at h ⊢
  cases hb:(yK 48 c&&yK c 57) with
  | false=>rw [hb] at h;cases h
  | true=>
   rw [hb] at h;obtain ⟨h1,h2⟩:=ih (a:=10*a) h;simp only [yy,xi]
   grind
def TP:∀{l:List Nat} {v:Nat},cV l 0=some v->v<10^l.length:=by
 suffices h:∀{l:List Nat} {b v:Nat},cV l b=some v->v<(b+1)*10^l.length by
  grind
 intro l
 induction l with
 | nil=>intro b v h;simp [cV] at h ⊢;omega
 | cons c l ih=>
  intro b v h;simp only [cV] at h
  cases hb:(yK 48 c&&yK c 57) with
  | false=>rw [hb] at h;cases h
  | true=>
   simp only [Bool.and_eq_true] at hb;have hc:=Nat.le_of_ble_eq_true hb.2;have h2:=Nat.mul_le_mul_right (10^l.length) (show 10*b+(c-48)+1<=10*(b+1) by omega)
   grind
def asB (Wk:L.pure 154=some KA) {f:cG} {s:List Nat} {v:Nat} (h0:0<s.length) (h1:s.length<=18) (hv:cV s 0=some v):bK P L f 154 [.str s]=some (.az [.int .i64 v,.undef]):=by
 rw [jL Wk];show (bif yQ 0 s.length&&yK s.length 18 then (match cV s 0 with | some n=>some (AV.az [.int .i64 n,.undef]) | none=>none) else none)=_
 rw [lY h0,yx h1,hv];rfl
end
def aav:∀j:Nat,iC [48] j++[48]=[48]++iC [48] j
 | 0=>rfl
 | j+1=>by
  show ([48]++iC [48] j)++[48]=[48]++([48]++iC [48] j)
  rw [xm,aav j]
def FB:∀j:Nat,(iC [48] j).length=j
 | 0=>rfl
 | j+1=>by show ([48]++iC [48] j).length=_;rw [yG,FB j];simp;omega
def aop:∀(k n:Nat),n<10^k->0<k->jh k n=iC [48] (k-(aD n).length)++aD n:=by
 intro k
 induction k with
 | zero=>intro n _ h;omega
 | succ k ih=>
  intro n hn _;rw [jh];by_cases jl:n<10
  ·rw [qc jl,yY jl]
   cases k with
   | zero=>rfl
   | succ k=>
    rw [ih (n/10) (by rw [vc jl];exact ycb (by decide)) (by omega),vc jl]
    rw [show aD 0=[48] by decide];rw [aav];rfl
  ·have hk:0<k:=by
    grind
   rw [ih (n/10) (by rw [xi] at hn;omega) hk,rJ jl,xm,yG]
   grind
def aoq {m d r:Nat} (hd:d=m/1000000000000000000) (hr:r=m%1000000000000000000):(0<d->aD m=aD d++(iC [48] (18-(aD r).length)++aD r))/\(d=0->aD m=aD r):=by
 have XS:r<10^18:=by omega
 constructor
 ·intro h0;rw [<-aop 18 r XS (by decide),<-N9 18 d r h0 XS]
  grind
 ·grind
section
variable {P:aM} {L:Lib}
def avG {f:cG} (h:L.pure 138=some Bw) {n:Nat} (hn:n<18446744073709551616):bK P L f 138 [uc n,aa 10]=some (.str (aD n)):=by
 rw [jL h];show (bif yQ n 18446744073709551616 then some (AV.str (aD n)) else none)=_
 rw [lY hn];rfl
def Uy {f:cG} (h:L.pure 139=some BP) {n:Nat} (hn:n<=100):bK P L f 139 [.str [48],aa (n:Nat)]=some (.str (iC [48] n)):=by
 rw [jL h];show (bif yK n 1099511627776&&yK (1*n) 1099511627776 then some (AV.str (iC [48] n)) else none)=_
 rw [yx (by omega),yx (by omega)];rfl
def avH (h:Wd P L) (Ep:L.pure 138=some Bw) (AW:L.pure 139=some BP) {neg:Bool} {M K:Nat} (RA:0<M) (hK:K<=4000000000) (hlen:(aD M).length<=300000000000):
  ∀k s,(∃(m:Nat) (w:AV) (ps:List (List Nat)) (fl:Bool),m=k/\WN w m/\m<18446744073709551616^K/\aD M=(if m=0 then [] else aD m)++ps.reverse.flatten/\((ps=[]->m=M)/\18*ps.length<=(aD M).length+18)/\(m≠0->18*ps.length+(aD m).length=(aD M).length)/\
    ((ps=[]/\aG [3,4,5,6] s=⟨[(3,.bool neg),(4,w),(5,.ak 0 0 1),(6,.ab)],[(0,.cells fl true true 1 [uc 1000000000000000000])],1,0⟩)\/
    (ps≠[]/\aG [3,4,5,6] s=⟨[(3,.bool neg),(4,w),(5,.ak 0 0 1),(6,.ak 1 0 ps.length)],[(1,.cells true true false 1 (ps.map .str)),(0,.cells fl true true 1 [uc 1000000000000000000])],2,0⟩)))->
   ∃ex s',D P L (.loop [3,4,5,6] qI) s=some (ex,s')/\∃tm ps fl,ex= .exit 0/\ps≠[]/\ps.length<=300000000000/\aD M=ps.reverse.flatten/\af tm 3= .bool neg/\af tm 6= .ak 1 0 ps.length/\s'=⟨tm,[(1,.cells true true false 1 (ps.map .str)),(0,.cells fl true true 1 [uc 1000000000000000000])],2,0⟩:=by
 intro dq sq;generalize bh:aG [3,4,5,6] sq=s0;revert bh s0 sq dq;apply dj;rintro k s ⟨m,w,ps,fl,rfl,hw,hmK,Bn,aiw,eJ,hs⟩;obtain ⟨lw,uw,gw,nw,vw⟩:=hw;by_cases hm:m=0
 ·right
  have lD:lw=[]:=List.eq_nil_of_length_eq_zero (Nat.le_zero.1 (pz (K:=0) nw vw (by rw [hm];decide)))
  subst lD;rw [yA hm,xp] at Bn;have ck:ps≠[]:=fun e=>by have:=aiw.1 e;omega
  have RB:ps.length<=300000000000:=by have:=aiw.2;omega
  rcases hs with ⟨h0,_⟩ | ⟨_,rfl⟩
  ·exact absurd h0 ck
  ·simp only [go_sem,ya,qI,uw.len,yO,show ¬(0:Int)<((0:Nat):Int) by omega];exact ⟨_,_,rfl,by simp,_,ps,fl,rfl,ck,RB,Bn,by simp only [go_sem,ya],by simp only [go_sem,ya],rfl⟩
 ·left
  have hw:WN w m:=⟨lw,uw,gw,nw,vw⟩;have hB:WN (.aE true 1 [uc 1000000000000000000]) 1000000000000000000:=⟨[1000000000000000000],nX true [1000000000000000000],F9.2 (by decide),by decide,by simp [bv]⟩;obtain ⟨q,r,e1,hq,hr⟩:=aih h hw hB (K:=K+1) (by decide) (yV hmK (xh (by decide) (by omega))) (by rw [xi];have:=ycb (n:=K) (show 0<18446744073709551616 by decide);omega) (by omega)
  obtain ⟨t1,t2⟩:=aoq (m:=m) rfl rfl;have gF:=wg m 1000000000000000000;have hrB:=xH m (show 0<1000000000000000000 by decide);obtain ⟨d,hd⟩:∃d,d=m/1000000000000000000:=⟨_,rfl⟩;obtain ⟨x,hx⟩:∃x,x=m%1000000000000000000:=⟨_,rfl⟩;rw [<-hd] at hq t1 t2 gF;rw [<-hx] at hr t1 t2 gF hrB;obtain ⟨lq,uq,gq,nq,vq⟩:=hq;obtain ⟨lr,ur,gr,nr,vr⟩:=hr;have hxl:(aD x).length<=18:=sG (k:=17) (by omega);have hxp:=z6 x;have Mv:(lr=[]/\x=0)\/lr=[x]:=by
   have h1:lr.length<=1:=pz (K:=1) nr vr (by rw [ycd];omega)
   cases lr with
   | nil=>exact .inl ⟨rfl,by rw [<-vr];rfl⟩
   | cons a l=>
    cases l with
    | nil=>rw [BZ] at vr;exact .inr (by rw [vr])
    | cons b l=>simp at h1
  have ML:(lq=[]/\d=0)\/(0<lq.length/\0<d):=by
   cases lq with
   | nil=>exact .inl ⟨rfl,by rw [<-vq];rfl⟩
   | cons a l=>
    refine .inr ⟨by simp,?_⟩;rcases xB d with h0 | h0
    ·have:=pz (K:=0) nq vq (by rw [h0];decide)
     simp at this
    ·exact h0
  unfold aj at e1;have C0:(0:Int)<(lw.length:Int):=by
   have:lw≠[]:=fun e=>by subst e;simp [bv] at vw;omega
   have:=uz.2 this
   omega
  have aEu:=eJ hm;have hmp:=z6 m;have new:∀t:List Nat,aD m=(if d=0 then [] else aD d)++t->(d≠0->t.length=18)->
    aD M=(if d=0 then [] else aD d)++(ps++[t]).reverse.flatten/\((ps++[t]=[]->d=M)/\18*(ps++[t]).length<=(aD M).length+18)/\(d≠0->18*(ps++[t]).length+(aD d).length=(aD M).length):=fun t h1 h2=>by
   rw [yo hm,h1] at Bn;refine ⟨by rw [Bn];simp,⟨by simp,by simp only [yG,yy,yO];omega⟩,fun h0=>?_⟩
   have h3:=congrArg List.length h1;rw [yo h0,yG,h2 h0] at h3;simp only [yG,yy,yO];omega
  have Cy:d<m:=by omega
  have C1:WN q d:=⟨lq,uq,gq,nq,vq⟩;have pQ:lr=[x]->kX 1 0 r=some (.aO (.int .u64 x::([]:List AV))):=fun e=>by
   subst e
   have:=ur.bi (i:=0) (by simp)
   simpa using this
  have f1:=avG (P:=P) (f:=D P L) Ep (n:=x) (by omega);have f2:=Uy (P:=P) (f:=D P L) AW (n:=18-(aD x).length) (by omega);have Wn:(18:Int)-((aD x).length:Int)=((18-(aD x).length:Nat):Int):=by omega
  have aEv:18*ps.length<=300000000000:=by omega
  have zl:(iC [48] (18-(aD x).length)++aD x).length=18:=by rw [yG,FB];omega
  obtain ⟨z,hz⟩:∃z,z=aD x:=⟨_,rfl⟩;have jX:x=0->z=[48]:=fun e=>by rw [hz,e];decide
  rw [<-hz] at f1 f2 Wn hxl hxp zl t1 t2;cases fl
  all_goals
   rcases ML with ⟨rfl,jc⟩ | ⟨RC,jc⟩
   ·obtain ⟨n1,n2,n3⟩:=new z (by rw [yA jc,xp];exact t2 jc) (fun h=>absurd jc h)
    rcases Mv with ⟨rfl,Bh⟩ | rfl
    ·have mR:=jX Bh;clear hz;subst mR;rcases hs with ⟨iY,rfl⟩ | ⟨iY,rfl⟩
     ·subst iY;simp only [go_sem,ya,yd,xj,yJ,yp,yh,qI,uw.len,uw.an,uq.len,uq.bZ,ur.len,ur.bZ,C0,e1,yO,yO,show ¬(0:Int)<((0:Nat):Int) by omega,fY];refine ⟨_,d,rfl,Cy,d,q,[]++[[48]],false,rfl,C1,by omega,n1,n2,n3,.inr ⟨by simp,?_⟩⟩;simp only [go_sem,ya,yd,aw,aq uq.pu,au _ uq.pu]<;>rfl
     ·simp only [go_sem,ya,yd,yJ,yp,yh,qI,uw.len,uw.an,uq.len,uq.bZ,ur.len,ur.bZ,C0,e1,yO,yO,show ¬(0:Int)<((0:Nat):Int) by omega]
      rw [fA (ex:=false) (pu:=true) (cs:=ps.map .str) (by simp only [go_sem,ya]) (by simp) (by omega) (by omega) (by decide) (by simp only [go_sem])];simp only [go_sem,ya,yd];refine ⟨_,d,rfl,Cy,d,q,ps++[[48]],false,rfl,C1,by omega,n1,n2,n3,.inr ⟨by simp,?_⟩⟩;rw [xg,yG];simp only [go_sem,ya,yd,aw,aq uq.pu,au _ uq.pu]<;>rfl
    ·rcases hs with ⟨iY,rfl⟩ | ⟨iY,rfl⟩
     ·subst iY;simp only [go_sem,ya,yd,xj,yJ,yp,yh,qI,uw.len,uw.an,uq.len,uq.bZ,ur.len,ur.bZ,C0,e1,yy,yO,yg,show (0:Int)<((1:Nat):Int) by omega,pQ rfl,f1,yO,show ¬(0:Int)<((0:Nat):Int) by omega,fY];refine ⟨_,d,rfl,Cy,d,q,[]++[z],false,rfl,C1,by omega,n1,n2,n3,.inr ⟨by simp,?_⟩⟩;simp only [go_sem,ya,yd,aw,aq uq.pu,au _ uq.pu]<;>rfl
     ·simp only [go_sem,ya,yd,yJ,yp,yh,qI,uw.len,uw.an,uq.len,uq.bZ,ur.len,ur.bZ,C0,e1,yy,yO,yg,show (0:Int)<((1:Nat):Int) by omega,pQ rfl,f1,yO,show ¬(0:Int)<((0:Nat):Int) by omega]
      rw [fA (ex:=false) (pu:=true) (cs:=ps.map .str) (by simp only [go_sem,ya]) (by simp) (by omega) (by omega) (by decide) (by simp only [go_sem])];simp only [go_sem,ya,yd];refine ⟨_,d,rfl,Cy,d,q,ps++[z],false,rfl,C1,by omega,n1,n2,n3,.inr ⟨by simp,?_⟩⟩;rw [xg,yG];simp only [go_sem,ya,yd,aw,aq uq.pu,au _ uq.pu]<;>rfl
   ·obtain ⟨n1,n2,n3⟩:=new (iC [48] (18-z.length)++z) (by rw [yo (by omega)];exact t1 jc) (fun _=>zl)
    rcases Mv with ⟨rfl,Bh⟩ | rfl
    ·have mR:=jX Bh;clear hz;subst mR;rcases hs with ⟨iY,rfl⟩ | ⟨iY,rfl⟩
     ·subst iY
      simp only [go_sem,ya,yd,xj,yJ,yp,yh,qI,uw.len,uw.an,uq.len,uq.bZ,ur.len,ur.bZ,C0,e1,yO,show ¬(0:Int)<((0:Nat):Int) by omega,show (0:Int)<(lq.length:Int) by omega,show (18:Int)-((1:Nat):Int)=((17:Nat):Int) from rfl,wrapN (n:=17) (by omega),Uy (P:=P) (f:=D P L) AW (n:=17) (by omega),ia (a:=iC [48] 17) (b:=[48]) (by rw [FB];decide),fY]
      refine ⟨_,d,rfl,Cy,d,q,[]++[iC [48] 17++[48]],false,rfl,C1,by omega,n1,n2,n3,.inr ⟨by simp,?_⟩⟩;simp only [go_sem,ya,yd,aw,aq uq.pu,au _ uq.pu]<;>rfl
     ·simp only [go_sem,ya,yd,yJ,yp,yh,qI,uw.len,uw.an,uq.len,uq.bZ,ur.len,ur.bZ,C0,e1,yO,show ¬(0:Int)<((0:Nat):Int) by omega,show (0:Int)<(lq.length:Int) by omega,show (18:Int)-((1:Nat):Int)=((17:Nat):Int) from rfl,wrapN (n:=17) (by omega),Uy (P:=P) (f:=D P L) AW (n:=17) (by omega),ia (a:=iC [48] 17) (b:=[48]) (by rw [FB];decide)]
      rw [fA (ex:=false) (pu:=true) (cs:=ps.map .str) (by simp only [go_sem,ya]) (by simp) (by omega) (by omega) (by decide) (by simp only [go_sem])];simp only [go_sem,ya,yd];refine ⟨_,d,rfl,Cy,d,q,ps++[iC [48] 17++[48]],false,rfl,C1,by omega,n1,n2,n3,.inr ⟨by simp,?_⟩⟩;rw [xg,yG];simp only [go_sem,ya,yd,aw,aq uq.pu,au _ uq.pu]<;>rfl
    ·rcases hs with ⟨iY,rfl⟩ | ⟨iY,rfl⟩
     ·subst iY
      simp only [go_sem,ya,yd,xj,yJ,yp,yh,qI,uw.len,uw.an,uq.len,uq.bZ,ur.len,ur.bZ,C0,e1,yy,yO,yg,show (0:Int)<((1:Nat):Int) by omega,pQ rfl,f1,show (0:Int)<(lq.length:Int) by omega,Wn,wrapN (n:=18-z.length) (by omega),f2,ia (a:=iC [48] (18-z.length)) (b:=z) (by rw [FB];omega),fY];refine ⟨_,d,rfl,Cy,d,q,[]++[iC [48] (18-z.length)++z],false,rfl,C1,by omega,n1,n2,n3,.inr ⟨by simp,?_⟩⟩;simp only [go_sem,ya,yd,aw,aq uq.pu,au _ uq.pu]<;>rfl
     ·simp only [go_sem,ya,yd,yJ,yp,yh,qI,uw.len,uw.an,uq.len,uq.bZ,ur.len,ur.bZ,C0,e1,yy,yO,yg,show (0:Int)<((1:Nat):Int) by omega,pQ rfl,f1,show (0:Int)<(lq.length:Int) by omega,Wn,wrapN (n:=18-z.length) (by omega),f2,ia (a:=iC [48] (18-z.length)) (b:=z) (by rw [FB];omega)]
      rw [fA (ex:=false) (pu:=true) (cs:=ps.map .str) (by simp only [go_sem,ya]) (by simp) (by omega) (by omega) (by decide) (by simp only [go_sem])];simp only [go_sem,ya,yd];refine ⟨_,d,rfl,Cy,d,q,ps++[iC [48] (18-z.length)++z],false,rfl,C1,by omega,n1,n2,n3,.inr ⟨by simp,?_⟩⟩;rw [xg,yG];simp only [go_sem,ya,yd,aw,aq uq.pu,au _ uq.pu]<;>rfl
end
def mM:Nat->VC->VC
 | 0,c=>bw c
 | n+1,c=> .seq (bw c) (mM n (aB c))
def qM:Nat->VC->VC
 | 0,c=>aB c
 | n+1,c=>qM n (aB c)
def aix:Nat->VC->Prop
 | 0,c=>c= .seq (bw c) (aB c)
 | n+1,c=>c= .seq (bw c) (aB c)/\aix n (aB c)
def JH {P:aM} {L:Lib}:∀(n:Nat) {c:VC},aix n c->∀s,D P L c s=kj P L (D P L (mM n c) s) (qM n c)
 | 0,c,h,s=>by
  conv=>lhs;rw [show c= .seq (bw c) (aB c) from h]
  rw [kZ];rfl
 | n+1,c,h,s=>by
  conv=>lhs;rw [show c= .seq (bw c) (aB c) from h.1]
  show _=kj P L (D P L (.seq (bw c) (mM n (aB c))) s) (qM n (aB c))
  rw [kZ,kZ]
  cases D P L (bw c) s with
  | none=>rfl
  | some q=>
   obtain ⟨ex,st⟩:=q
   cases ex with
   | normal=>rw [fN,fN];exact JH n h.2 st
   | ret=>rfl
   | exit id=>rfl
section
variable {P:aM} {L:Lib}
def amT (h:Nu P L) (Ep:L.pure 138=some Bw) (AW:L.pure 139=some BP) {s z:Int} {e:Bool} {l:List Nat} (hn:dF s (.aE e l.length (l.map uc)) z) {K:Nat} (mR:0<z.natAbs) (RD:z.natAbs<18446744073709551616^K) (hK:K<=4000000000) (hlen:(aD z.natAbs).length<=300000000000):
  ∃ps:List (List Nat),ps≠[]/\ps.length<=300000000000/\aD z.natAbs=ps.reverse.flatten/\D P L (mM 5 EL.body) ⟨[(0,.agg [aa s,.aE e l.length (l.map uc)])],[],0,0⟩=some (.normal,⟨[(3,.bool (decide (z<0))),(6,.ak 0 0 ps.length)],[(0,.cells true true false 1 (ps.map .str))],1,0⟩):=by
 obtain ⟨r,e1,hr⟩:=AU h hn;have bk:=hr;obtain ⟨lr,ur,gr,nr,vr⟩:=hr;simp only [go_sem,ya,yd,yp,yh,EL,mM,bw,aB,bc,b7,yg,dt,pk,eN,cz,cy,e1];generalize nL:D P L (.loop [3,4,5,6] qI) _=qq;obtain ⟨ex,st,rfl,tm,ps,fl,rfl,ck,RB,Bn,t3,t6,rfl⟩:=bD nL (avH (P:=P) (L:=L) h.toWd Ep AW (neg:=decide (z<0)) (M:=z.natAbs) (K:=K) mR hK hlen z.natAbs) ⟨z.natAbs,bZ r,[],true,rfl,bk,RD,by rw [yo (by omega)];simp,⟨fun _=>rfl,by simp⟩,fun _=>by simp,.inl ⟨rfl,by
  simp only [go_sem,ya,yd,aw,aq ur.pu,au _ ur.pu]<;>rfl⟩⟩
 refine ⟨ps,ck,RB,Bn,?_⟩;simp only [go_sem,yd,aw,t3,t6]
end
section
open Go
variable {O:bl}
def AG:Nat->vn->vn
 | 0,.seq _ b=>b
 | n+1,.seq _ b=>AG n b
 | _,c=>c
def Qp:Nat->vn->Prop
 | 0,.seq _ _=>True
 | n+1,.seq _ b=>Qp n b
 | _,_=>False
def abx (hO:eU O) {h:Nat} {c:vn} {l k:Nat} {s:St} {ex:Ex} {s':St} (hv:D O.prog O.aS (comp O.P (O.hint h) c l k).1 s=some (ex,s')):B9 O h c s ex s':=by
 obtain ⟨n,hn⟩:=VU hv
 cases n with
 | zero=>rw [Jz] at hn;cases hn
 | succ n=>
  exact ack hO n (fun k _=>YW hO k) h c l k n (yq _) s ex s' hn
def aeG (hO:eU O) {h:Nat} {ro:Option Nat} {lo:Nat} {Q:Exit->Act->ym->Prop}:∀(n:Nat) (c:vn) (l k:Nat),Qp n c->∀(s s1:St),D O.prog O.aS (mM n (comp O.P (O.hint h) c l k).1) s=some (.normal,s1)->
  ∀(m:Mp) (S:Nat->Prop) (w:ym) (a:Act),Aq ro w->cf O m S w s.tm a.tmps->aV O m S w s.hp s.ct->s.base<=s.ct->(O.hint h).n<=a.tmps.size->O.w0.heap.size<=lo->lo<=w.heap.size->Marks lo S w a.defers->
  (∀a' w',ff O m S w s .normal s1 a.tmps.size lo .normal a' w'->(AG n c).wpIn (WF ro) 0 O.P Q a' w')->c.wpIn (WF ro) 0 O.P Q a w
 | n,c,l,k,hc,s,s1,hv=>by
  intro m S w a cI ht hh hb hn bj fa cg hQ
  cases c with
  | seq x y=>
   cases n with
   | zero=>
    refine wpIn_seq (wpIn_mono (abx hO (show D O.prog O.aS (comp O.P (O.hint h) x l k).1 s=some (.normal,s1) from hv) ro lo m S w a cI ht hh hb hn bj fa cg) ?_);rintro e a' w' hp;have he:e= .normal:=hp.1;subst he;exact hQ a' w' hp
   | succ n=>
    have fh:D O.prog O.aS (.seq (comp O.P (O.hint h) x l k).1 (mM n (comp O.P (O.hint h) y (comp O.P (O.hint h) x l k).2.1 (comp O.P (O.hint h) x l k).2.2).1)) s=some (.normal,s1):=hv;rw [kZ] at fh
    cases hx:D O.prog O.aS (comp O.P (O.hint h) x l k).1 s with
    | none=>rw [hx] at fh;cases fh
    | some q=>
     obtain ⟨ex,st⟩:=q;rw [hx] at fh
     cases ex with
     | ret=>exact absurd fh (by intro h;cases h)
     | exit id=>exact absurd fh (by intro h;cases h)
     | normal=>
      refine wpIn_seq (wpIn_mono (abx hO hx ro lo m S w a cI ht hh hb hn bj fa cg) ?_);rintro e a' w' ⟨rfl,m',S',k1,k2,k3,k4,k5,k6,k7⟩;refine aeG hO n y _ _ hc st s1 fh m' S' w' a' (NN k5 cI) k1 k2 (by omega) (by omega) bj (xv fa k5.size) k7 ?_;rintro a2 w2 ⟨_,m2,S2,g1,g2,g3,g4,g5,g6,g7⟩;exact hQ a2 w2 ⟨rfl,m2,S2,g1,g2,by omega,by omega,k5.trans (by rw [<-k3];exact g5),by omega,g7⟩
  | _=>cases n<;>exact hc.elim
def avI (hO:eU O) {n:Nat} {F:av} (hF:O.prog n=some F) {fn:ybx} {c:vn} (ml:O.P.funcs[O.ae n]? =some fn) (jH:fn.body=some c) {hp:Hp} {ct:Nat} {ax:List AV} {s:St}
  (hc:(comp O.P (O.hint n) c 0 0).1=F.body->∀m S w a,cf O m S w (dN 0 ax) a.tmps->aV O m S w hp ct->(O.hint n).n<=a.tmps.size->a.tmps.size=max fn.ntmps ax.length->O.w0.heap.size<=w.heap.size->a.defers=[]->
   c.wpIn (WF none) 0 O.P (ff O m S w ⟨dN 0 ax,hp,ct,ct⟩ .ret s a.tmps.size w.heap.size) a w) {v:AV} (hr:jr s F.fm=some v):B8 O n hp ct ax v s.hp s.ct:=by
 intro m S w args hh gI;obtain ⟨fn',q1,q2,q3⟩:=hO.prog n F hF;rw [ml] at q1;cases q1;obtain ⟨c',q4,q5,q6,q7⟩:=R6 q2;rw [jH] at q4;cases q4;refine .inl ⟨N6 ml (by rw [jH];rfl) q3,?_⟩
 have hlen:ax.length=args.size:=by have:=(iw _ _ gI).symm;simpa using this
 have hw:=hc q5.symm m S w {tmps:=args++Array.replicate (fn.ntmps-args.size) undef,defers:=[]} (aad _ gI) hh (by simp;omega) (by simp;omega) hh.gH rfl
 refine callsIn_of_wp_marks (F:=yaW) ml jH trivial (wpIn_mono hw ?_);rintro e a' w' ⟨rfl,m',S',k1,k2,k3,k4,k5,k6,rs,k7,k8,k9⟩;show LeavesInM yaW 0 O.P fn a'.tmps (zY O m S w hp ct v s.hp s.ct) a'.defers .returning w'
 rw [k7];exact SB q6 hr k4 rs w' k8 k9 hh.gH k2 k1 k5
def aqx (hO:eU O) {n:Nat} {F:av} (hF:O.prog n=some F) {fn:ybx} {c:vn} (ml:O.P.funcs[O.ae n]? =some fn) (jH:fn.body=some c) {ax:List AV} {s:St}
  (hc:(comp O.P (O.hint n) c 0 0).1=F.body->∀m S w a,cf O m S w (dN 0 ax) a.tmps->aV O m S w [] 0->(O.hint n).n<=a.tmps.size->a.tmps.size=max fn.ntmps ax.length->O.w0.heap.size<=w.heap.size->a.defers=[]->
   c.wpIn (WF none) 0 O.P (ff O m S w ⟨dN 0 ax,[],0,0⟩ .ret s a.tmps.size w.heap.size) a w) {v r:AV} (hv:jr s F.fm=some v) (hr:result s.hp v=some r):fc O n ax r:=
 RZ (avI hO hF ml jH hc hv) hr
end
section
open Go
def ZG {ae:Nat->Nat} {m:Mp} {S:Nat->Prop} {w:ym} {b:Nat}:∀{ps:List (List Nat)} {o:Nat},bR ae m S w (ps.map .str) b o->
  ∃ts:List ByteArray,(ts.map fun t=>t.data.toList.map xf)=ps/\∀i (h:i<ts.length),w.cell? ⟨b,o+i,none⟩=some (.string ts[i])
 | [],o,_=>⟨[],rfl,fun i h=>absurd h (Nat.not_lt_zero i)⟩
 | p::ps,o,h=>by
  obtain ⟨⟨u,h1,h2⟩,h3⟩:=h;obtain ⟨t,rfl,ht⟩:=h2;obtain ⟨ts,k1,k2⟩:=ZG h3;refine ⟨t::ts,by rw [List.map_cons,ht,k1],fun i hi=>?_⟩
  cases i with
  | zero=>exact h1
  | succ i=>
   grind
def pC (ts:List ByteArray):List UInt8:=(ts.map fun t=>t.data.toList).flatten
def asC {ts:List ByteArray} {ps:List (List Nat)} (h:(ts.map fun t=>t.data.toList.map xf)=ps):(pC ts.reverse).map xf=ps.reverse.flatten:=by
 subst h;unfold pC;rw [List.map_flatten,wu,<-yad];rfl
def asD {ts:List ByteArray} {ps:List (List Nat)} (h:(ts.map fun t=>t.data.toList.map xf)=ps):(ts.map (·.size)).sum=ps.reverse.flatten.length:=by
 subst h;rw [List.length_flatten,yad,List.sum_reverse,wu]
 congr 1
 simp_all
def TQ (P:Program) (c:vn):Prop:=∀(Q:Exit->Act->ym->Prop) (a:Act) (w:ym) (neg:Bool) (ts:List ByteArray) (b o cc:Nat),a.tmps.size=69->a.tmps.getD 3 undef= .bool neg->a.tmps.getD 6 undef= .slice (some ⟨b,o,none⟩) ts.length cc->
  (∀i (h:i<ts.length),w.cell? ⟨b,o+i,none⟩=some (.string ts[i]))->(ts.map (·.size)).sum+1<=140737488355328->ts.length<=cc->ts.length<9223372036854775808->
  (∀a' w',Calm w w'->a'.tmps.size=69->a'.defers=a.defers->a'.tmps.getD 2 undef= .string ⟨((if neg then [45] else [])++pC ts.reverse).toArray⟩->Q .ret a' w')->
  (AG 5 c).wpIn Fence.wide 0 P Q a w
section
variable {O:bl}
def amU {n K:Nat} (h:n<18446744073709551616^K):(aD n).length<=20*K+1:=by
 refine sG (k:=20*K) (yV h ?_);have h1:(10:Nat)^(20*K)=(10^20)^K:=Nat.pow_mul ..;exact xv (by rw [h1];exact ue (by decide) K) (xh (by decide) (Nat.le_succ _))
def aqy (hO:eU O) (hN:Nu O.prog O.aS) (Ep:O.aS.pure 138=some Bw) (AW:O.aS.pure 139=some BP) (HM:O.prog 99=some EL) {fn:ybx} {c:vn} (ml:O.P.funcs[O.ae 99]? =some fn) (jH:fn.body=some c) (QF:fn.ntmps=69)
  (Wo:Qp 5 c) (ht:TQ O.P c) {s z:Int} {e:Bool} {l:List Nat} (hn:dF s (.aE e l.length (l.map uc)) z) (mR:0<z.natAbs) (hK:l.length<=4000000000) (RD:z.natAbs<18446744073709551616^l.length):
  fc O 99 [.agg [aa s,.aE e l.length (l.map uc)]] (.str (aY z)):=by
 have hlen:=amU RD;obtain ⟨ps,ck,RB,Bn,e1⟩:=amT (P:=O.prog) (L:=O.aS) hN Ep AW hn mR RD hK (by omega)
 refine aqx hO HM ml jH (s:=⟨[(2,.str (aY z))],[(0,.cells true true false 1 (ps.map .str))],1,0⟩) (v:= .str (aY z)) ?_ rfl rfl;intro axH m S w a htr hh mi fg hgs EY;refine aeG hO 5 c 0 0 Wo _ _ (by rw [axH];exact e1) m S w a (fun l hl=>by cases hl) htr hh (yq _) mi hgs (yq _) ⟨[],by rw [EY];rfl,by simp,by simp⟩ ?_
 rintro a' w' ⟨_,m',S',k1,k2,k3,k4,k5,k6,k7⟩;have r3:=k1 3;have r6:=k1 6;have g3:af [(3,AV.bool (decide (z<0))),(6,.ak 0 0 ps.length)] 3= .bool (decide (z<0)):=rfl;have g6:af [(3,AV.bool (decide (z<0))),(6,.ak 0 0 ps.length)] 6= .ak 0 0 ps.length:=rfl;rw [g3] at r3;rw [g6] at r6;simp only [ai] at r3 r6;obtain ⟨p,cc,hm,r6,hcc,_⟩:=r6;obtain ⟨p',arr,t,iG,_,_,_,_,_,gN,_⟩:=k2.obj 0 _ p rfl hm;rw [hm] at iG;cases iG;obtain ⟨ts,nG,D3⟩:=ZG gN;have mP:ts.length=ps.length:=by rw [<-nG,List.length_map]
 have Cz:=asD nG;rw [<-Bn] at Cz;have Wp:=asC nG;rw [<-Bn] at Wp;refine ht _ a' w' (decide (z<0)) ts p.b p.o cc ?_ r3 (by rw [mP];exact r6) D3 (by omega) (by omega) (by omega) ?_
 ·grind
 ·intro a2 w2 hc h1 h2 h3;have Mc:=Dl k2 hc (S':=S') (fun _ h=>h) (fun _ h=> .inl h) (fun b hb=>yV (k2.slt b hb) hc.size);refine ⟨rfl,m',S',?_,Mc,rfl,Nat.zero_le _,k5.trans (BF k2 hc (fun _ h=>h) (fun _ h=> .inl h)),?_,?_⟩
  ·intro i;by_cases hi:i=2
   ·subst hi;rw [h3];show ai O.ae m' S' w2 (.str (aY z)) _
    simp only [ai];refine ⟨_,rfl,?_⟩;by_cases h0:z<0
    ·rw [nV h0,xq h0];simp only [xE,xg];rw [Wp];rfl
    ·obtain ⟨n,rfl⟩:∃n:Nat,z=n:=⟨z.toNat,by omega⟩;rw [xb h0];simp only [yN,xn,xp];rw [Wp];rfl
   ·have:af [(2,AV.str (aY z))] i= .undef:=by
     have hb:yz 2 i=false:=by
      cases hq:yz 2 i with
      | false=>rfl
      | true=>exact absurd (Nat.eq_of_beq_eq_true hq).symm hi
     simp only [af,hb,yW]
    show ai O.ae m' S' w2 (af [(2,AV.str (aY z))] i) _
    rw [this];simp only [ai]
  ·rw [h1,fg,QF];simp
  ·rw [h2]
   exact BD k2 (BF (base:=0) k2 hc (fun _ h=>h) (fun _ h=> .inl h)) k7
end
end
end VE
