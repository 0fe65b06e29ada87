import Ieee.Arith
import Derived.Test.YtdibafmjplecaaaGreatDoorUan
import Derived.Test.YtdibafmjplecaaaGreatDoorUad
import Derived.Test.YtdibafmjplecaaaGreatDoorUam
import Derived.Test.YtdibafmjplecaaaGreatDoorUaf
set_option linter.all false
set_option maxRecDepth 100000
open Bool renaming and_eq_true→yf,and_self→uF,and_true→vO,false_and→wh,false_eq_true→yB,false_or→tc,not_false→yS,not_true→yN,toNat_false→ybc,true_and→wq,true_eq_false→yaK,true_or→ybW,xor_false→ybo
open Int renaming add_zero→ycb,gcd→wJ,le_of_lt→uY,le_refl→yco,lt_trichotomy→vU,mul_add→ycq,mul_le_mul→ybD,mul_le_mul_of_nonneg_left→vR,mul_nonneg→tr,natAbs_ediv_of_dvd→uy,natAbs_natCast→xn,natCast_add→ybn,natCast_mul→wY,natCast_nonneg→tZ,neg_neg→tW,ofNat_eq_natCast→yaF,ofNat_lt→uX,pow_pos→ycr,pow_succ→tH,sub_self→yce,tdiv_eq_ediv_of_nonneg→xE,tmod_eq_emod_of_nonneg→xD,toNat_natCast→wv,toNat_of_nonneg→yaJ
open Int.ofNat renaming inj→tQ
open List renaming append_assoc→xt,append_nil→xV,cons_append→xi,drop→vY,drop_drop→vN,drop_eq_getElem_cons→y8,drop_eq_nil_of_le→xu,drop_left→uf,drop_zero→yt,eq_nil_of_length_eq_zero→yD,getD_eq_getElem?_getD→xF,getElem?_eq_getElem→wA,getElem_cons_zero→uP,length_append→yY,length_cons→yM,length_drop→xN,length_map→xy,length_nil→yV,length_pos_iff→uz,length_take→yW,map_append→xH,map_cons→xm,map_nil→vW,mem_cons→wZ,nil_append→xW,replicate→yK,set_eq_of_length_le→yag,take_append_drop→xT,take_left→ue,take_length→xG,take_of_length_le→yQ,take_set→yah
open List.cons renaming injEq→tC
open Nat renaming add_assoc→ug,add_comm→ybl,add_mod_left→ybh,add_mul→xU,add_zero→yZ,beq→yp,ble→yy,ble_eq_true_of_le→yr,blt→yI,div_add_mod→xM,div_eq_of_lt→xL,div_lt_iff_lt_mul→xx,div_pos→ycp,eq_of_beq_eq_true→yj,eq_zero_or_pos→xh,gcd→wo,gcd_comm→tB,le_log2→ycn,le_mul_of_pos_left→uV,le_mul_of_pos_right→uL,le_of_ble_eq_true→yo,le_of_lt_succ→vv,le_of_not_lt→ybf,le_refl→yA,le_trans→xe,log2→ybC,log2_lt→yaE,lt_log2_self→ybi,lt_of_le_of_lt→xJ,lt_of_lt_of_le→yE,lt_or_ge→vh,lt_trans→vj,min_eq_left→xA,mod_add_div→vI,mod_eq_of_lt→yG,mod_lt→xv,mul_add→xr,mul_add_div→yaw,mul_add_mod→yax,mul_assoc→xb,mul_comm→xg,mul_div_cancel→ui,mul_le_mul→xZ,mul_le_mul_left→yP,mul_le_mul_right→yT,mul_lt_mul''→tz,mul_lt_mul_of_pos_right→xI,mul_mod_left→uK,mul_one→ym,mul_pos→vd,mul_zero→xp,ne_of_gt→uI,one_lt_two_pow→wU,one_shiftLeft→ybb,pow_add→xj,pow_le_pow_left→wX,pow_le_pow_right→yR,pow_lt_pow_iff_right→uE,pow_lt_pow_right→wL,pow_mul→tV,pow_pos→yao,pow_succ→yU,pow_zero→vL,reduceAdd→yd,reduceEqDiff→ya,reduceLT→yO,reduceLeDiff→yC,reduceMul→xQ,shiftLeft_eq→uJ,succ_mul→ycc,two_pow_pos→y7,zero_add→yh,zero_le→uU,zero_mul→wE
open Option.some renaming inj→tu,injEq→yb
open Rat renaming den_intCast→uC,den_pow→yct,divInt→wu,intCast_neg→vn,lt_irrefl→uj,mul_assoc→xB,mul_comm→ycd,mul_lt_mul_right→wm,mul_one→wj,natCast_mul→xd,num_intCast→uB,num_pow→ycs,zpow_natCast→uM,zpow_neg→ycf
namespace VE
open Go (IntKind)
def amH:∀(cs:List AV) (l:List Nat),qc cs=some l->cs=l.map uc/\lo 18446744073709551616 l:=by
 intro cs
 induction cs with
 | nil=>
  intro l h;simp only [qc,yb] at h;subst h;exact ⟨rfl,fun _ h=>by cases h⟩
 | cons c cs ih=>
  intro l h;unfold qc at h
  split at h
  ·grind
  ·rename_i d r nn;cases nn
   cases hb:yI d 18446744073709551616 with
   | false=>rw [hb] at h;cases h
   | true=>
    rw [hb] at h
    cases hw:qc cs with
    | none=>rw [hw] at h;cases h
    | some l'=>
     rw [hw] at h;cases h;obtain ⟨k1,k2⟩:=ih l' hw;refine ⟨by rw [k1];rfl,fun x hx=>?_⟩
     rcases wZ.1 hx with rfl | hx
     ·simp_all
     ·exact k2 x hx
  ·cases h
def Z4:∀{l:List Nat},zR l=true->fX l
 | [],h=>by cases h
 | [a],h=>by
  have h0:a≠0:=fun e=>by subst e;cases h
  exact CG h0 []
 | a::b::r,h=>by
  have h1:dI (b::r)=b::r:=Z4 (l:=b::r) h;show dI (a::(b::r))=_
  simp only [dI] at h1 ⊢;rw [h1]
section
variable {P:aM} {L:Lib}
def ast (h:Has P L 99 Cj) (Wm:L.pure 135=some G2) {s:Int} (hs:zN s=true):bM P L (D P L) 99 [.agg [ab s,.ae]]=some (.str (aU s)):=by
 have e1:bM P L (D P L) 135 [ab s]=some (.str (aU s)):=by
  rw [gN Wm];show (bif zN s then some (AV.str (aU s)) else none)=_
  rw [hs];rfl
 rw [aG h];simp only [go_sem,ya,yd,Cj,bf,bQ,yh,cO,fR,dR,e1]
end
section
open Go
variable {O:bh}
def aof (hO:er O) (hN:Nu O.prog O.az) (Wm:O.az.pure 135=some G2) (BZ:O.az.pure 138=some sX) (su:O.az.pure 139=some zq) (Et:Has O.prog O.az 99 Cj) {fn:Func} {c:Code} (jX:O.P.funcs[O.af 99]? =some fn) (iD:fn.body=some c) (Nj:fn.ntmps=69)
  (Wj:MW 5 c) (ht:PB O.P c):∀ao r,Kp ao=some r->dS O 99 ao r:=by
 intro ao r h;unfold Kp at h
 split at h
 ·rename_i s
  cases hs:zN s with
  | false=>rw [hs] at h;cases h
  | true=>
   rw [hs] at h;cases h;obtain ⟨k,hk⟩:=afh (ast (P:=O.prog) (L:=O.az) Et Wm hs);exact sound hO hk
 ·rename_i s e n cs
  cases hw:qc cs with
  | none=>rw [hw] at h;cases h
  | some l=>
   rw [hw] at h;simp only at h
   cases hb:(yp l.length n&&(yy n 4000000000&&(zR l&&yy 9223372036854775808 (qJ l)))) with
   | false=>rw [hb] at h;cases h
   | true=>
    rw [hb] at h;simp only [yf] at hb;obtain ⟨h1,h2,h3,h4⟩:=hb;obtain ⟨rfl,aY⟩:=amH cs l hw;have h1:=yj h1;subst h1;have h2:=yo h2;have h4:=yo h4;have h3:=Z4 h3;rw [Pz] at h4 h;have aF:=lk aY;have key:=fun (s z:Int) (hz:z.natAbs=bv 18446744073709551616 l) (hs:s=if z<0 then -1 else 1)=>
     aqf hO hN BZ su Et.code jX iD Nj Wj ht (s:=s) (z:=z) (e:=e) (l:=l) (.inr ⟨e,l,rfl,aY,h3,hz.symm,hs,by omega⟩) (by omega) h2 (by omega)
    split at h
    ·cases h
     have:=key 1 (bv 18446744073709551616 l:Nat) (by simp) (by rw [yu (by omega)])
     exact this
    ·cases h
     have:=key (-1) (-(bv 18446744073709551616 l:Nat):Int) (by simp) (by rw [yL (by omega)])
     rw [lR (by omega)] at this
     grind
    ·cases h
 ·cases h
end
section
open Go
def GQ (L:Lib) (n:Nat) (sp:List AV->Option AV):Lib:=⟨fun i=>bif yp i n then some sp else L.pure i,L.heap⟩
def OR {O:bh} (hO:er O) {n:Nat} {sp:List AV->Option AV} (h:∀ao r,sp ao=some r->dS O n ao r):er (O.nN (GQ O.az n sp)) where
 hint:=hO.hint
 mixed:=hO.mixed
 prog:=hO.prog
 az i Nv ao r hi hs:=by
  show dS O i ao r
  simp only [GQ] at hi
  cases hb:yp i n with
  | true=>
   simp_all
  | false=>
   rw [hb] at hi;exact hO.az i Nv ao r hi hs
 Dd i Nv hp ct ao v ap aV hi hs:=ZP (hO.Dd i Nv hp ct ao v ap aV hi hs)
end
def Gd (n:Nat):10^n<=2^(4*n):=by
 rw [tV];exact wX (by decide) n
def Z5 {b:Nat} {r:List Nat} (h:cQ (b::r)=true):48<=b/\b<=57:=by
 simp only [cQ,yf] at h
 simp_all
section
variable {P:aM} {L:Lib}
def afv (h:Tx P L) {ds:List Nat} {N:Nat} (hD:cC ds 0=some N) (hl:ds.length<=4000000000) {neg:Bool} {o1 o2:AV}:
  ∀m st,(∃(pre rest:List Nat) (a:Nat) (s:Int) (w:AV),aP [0,2,3,4] st=⟨[(0,.str rest),(2,.ptr 0 0),(3,.bool neg),(4,.ptr 1 0)],[(1,.cells true true true 2 [ab s,w]),(0,.cells true true true 2 [o1,o2])],2,0⟩/\ds=pre++rest/\cC pre 0=some a/\cY s w a/\rest.length=m)->
   ∃ex st',D P L (.loop [0,2,3,4] CU) st=some (ex,st')/\∃tm s w,st'=⟨tm,[(1,.cells true true true 2 [ab s,w]),(0,.cells true true true 2 [o1,o2])],2,0⟩/\ex= .exit 0/\aj tm 2= .ptr 0 0/\aj tm 3= .bool neg/\aj tm 4= .ptr 1 0/\cY s w N:=by
 intro dq sq;generalize bq:aP [0,2,3,4] sq=s0;revert bq s0 sq dq;apply dt;rintro m st ⟨pre,rest,a,s,w,rfl,Cu,eL,hn,rfl⟩;obtain ⟨l1,u1⟩:=hn.aJ;have lB:=hD;rw [Cu,FY,eL] at lB;have lB:cC rest a=some N:=lB;have hlen:pre.length+rest.length<=4000000000:=by rw [Cu,yY] at hl;exact hl
 by_cases h0:rest.length=0
 ·right
  have hr:rest=[]:=yD h0;subst hr
  have:a=N:=by simpa [cC] using lB
  subst this;simp only [go_sem,CU,yV,show ¬(0:Int)<((0:Nat):Int) by omega];exact ⟨_,_,rfl,by simp,_,s,w,rfl,rfl,by simp only [go_sem,ya],by simp only [go_sem,ya],by simp only [go_sem,ya],hn⟩
 ·left
  obtain ⟨n,qX⟩:∃n,n=min 18 rest.length:=⟨_,rfl⟩;have ag8:(if (rest.length:Int)<18 then (rest.length:Int) else 18)=(n:Int):=by split<;>omega
  have iC:rest.take n++rest.drop n=rest:=xT n rest;obtain ⟨a',Cb⟩:∃a',cC (rest.take n) a=some a':=by
   rw [<-iC,FY] at lB
   cases hq:cC (rest.take n) a with
   | none=>rw [hq] at lB;cases lB
   | some a'=>exact ⟨a',rfl⟩
  obtain ⟨v,hv⟩:∃v,cC (rest.take n) 0=some v:=by
   have:∀(l:List Nat) (x y b:Nat),cC l x=some y->∃z,cC l b=some z:=by
    intro l
    induction l with
    | nil=>intro x y b _;exact ⟨b,rfl⟩
    | cons c l ih=>
     intro x y b hh;simp only [cC] at hh ⊢
     cases hb:(yy 48 c&&yy c 57) with
     | false=>rw [hb] at hh;cases hh
     | true=>rw [hb] at hh;exact ih _ _ _ hh
   exact this _ _ _ 0 Cb
  have aiU:=aqd (a:=a) hv;have XV:(rest.take n).length=n:=by rw [yW];omega
  rw [XV,Cb,yb] at aiU;have Wn:=PA hv;rw [XV] at Wn;have aGc:v<1000000000000000000:=yE Wn (yR (n:=10) (by decide) (show n<=18 by omega));have e1:=asq (P:=P) h.Wf (f:=D P L) (s:=rest.take n) (by omega) (by omega) hv;obtain ⟨t1,t2⟩:=sr h.toNu (z:=10) (by decide) (by decide);obtain ⟨t3,t4⟩:=sr h.toNu (z:=(v:Int)) (by omega) (by omega);obtain ⟨p,e2,hp⟩:=Wh h.toNu h.mW t2 (K:=4) (k:=n) (by unfold Bd;decide) (by omega) (by omega)
  have halt:=PA eL;have ba:Bd (4*pre.length) (a:Int):=yE halt (Gd _);have bp:Bd (4*n+1) ((10:Int)^n):=Bd.pow (k:=4) (by unfold Bd;decide) n
  obtain ⟨q,e3,hq⟩:=qI h.toNu (v:= .agg [ab s,w]) ⟨s,w,rfl,hn⟩ hp (K:=4*pre.length+4*n+1) (ba.mono (by omega)) (bp.mono (by omega)) (by omega);have bv':Bd (4*n) (v:Int):=yE Wn (Gd _);obtain ⟨r,e4,hr⟩:=H6 h.toNu hq t4 (K:=4*pre.length+4*n+1) ((ba.mul bp).mono (by omega)) (bv'.mono (by omega)) (by omega);have aI:(a:Int)*10^n+(v:Int)=(a':Int):=by
   rw [aiU]
   simp
  rw [aI] at hr;obtain ⟨s2,w2,rfl,h2⟩:=hp;obtain ⟨s3,w3,rfl,h3⟩:=hq;obtain ⟨s4,w4,rfl,h4⟩:=hr;obtain ⟨l2,u2⟩:=h2.aJ;obtain ⟨l3,u3⟩:=h3.aJ;obtain ⟨l4,u4⟩:=h4.aJ;have un:=oX;have c1:gG rest (some 0) (some n)=some (.str (rest.take n)):=by rw [kB (by omega) (by omega),yt]
  have c2:gG rest (some n) (some rest.length)=some (.str (rest.drop n)):=by rw [kB (by omega) (by omega),xG]
  simp only [go_sem,ya,CU,show (0:Int)<(rest.length:Nat) by omega,afk,aaM,ag8,ef,eC,df,c1,c2,e1,cm,t1,t3,b8,u1.an,u2.an,u3.an,un.an,e2,e3,e4,bF,cm,yt,cT u4];refine ⟨_,(rest.drop n).length,rfl,by rw [xN];omega,pre++rest.take n,rest.drop n,a',s4,w4,by simp only [go_sem,ya,yd,aC],by rw [xt,iC];exact Cu,by rw [FY,eL];exact Cb,h4,rfl⟩
def Z6 {b:Nat} {r:List Nat} (h:48<=b):gQ [45] (b::r)=false:=by
 show (yp 45 b&&true)=false
 rw [gB (by omega)];rfl
def H8 (h:Tx P L) {z:Int} (hz:(aU z).length<=4000000000):∃r,ai P L 110 [.str (aU z)] r/\cw r z:=by
 have hN:=rC z.natAbs;have un:=oX;have pE:(aq z.natAbs).length<=4000000000:=by
  by_cases h0:z<0
  ·rw [lR h0] at hz;simp at hz;omega
  ·rw [<-mz,yu h0] at hz;simpa using hz
 have ba:Bd (4*(aq z.natAbs).length) (z.natAbs:Int):=yE (PA hN) (Gd _);by_cases h0:z<0
 ·have hs:aU z=45::aq z.natAbs:=lR h0;have e1:bM P L (D P L) 152 [.str (45::aq z.natAbs),.str [45]]=some (.bool true):=by rw [gN h.aiO];rfl
  have e2:bM P L (D P L) 153 [.str (45::aq z.natAbs),.str [45]]=some (.str (aq z.natAbs)):=by rw [gN h.aiP];rfl
  have iq:∃s w r,ai P L 110 [.str (aU z)] r/\cY s w (z.natAbs:Int)/\ai P L 147 [.agg [ab s,w]] r/\cw r (-(z.natAbs:Int)):=by
   rw [hs];unfold ai;rw [aG h.aiQ];simp only [go_sem,ya,yd,Ls,bf,e1,e2,un.pu,un.one,cT un];generalize hq:D P L (.loop [0,2,3,4] CU) _=q;obtain ⟨ex,st,rfl,tm,s,w,rfl,rfl,t2,t3,t4,h5⟩:=cr hq (afv (P:=P) (L:=L) h hN pE (neg:=true) (o1:= .int .i64 0) (o2:= .ae) (aq z.natAbs).length) ⟨[],aq z.natAbs,0,0,.ae,by simp only [go_sem,ya,yd,aC]<;>rfl,rfl,rfl,.inl ⟨rfl,rfl,by decide,by decide⟩,rfl⟩
   obtain ⟨l5,u5⟩:=h5.aJ;obtain ⟨r,e3,hr⟩:=DT h.toNu (v:= .agg [ab s,w]) ⟨s,w,rfl,h5⟩ (K:=4*(aq z.natAbs).length) ba (by omega);have bZ:=hr;obtain ⟨s6,w6,rfl,h6⟩:=hr;obtain ⟨l6,u6⟩:=h6.aJ;refine ⟨s,w,_,?_,h5,e3,bZ⟩;simp only [go_sem,ya,yd,aC,t2,t3,t4,cm,b8,u5.an,e3,bF,dV,dX,cm,yt,ll u6,cT u6]
  obtain ⟨s,w,r,g1,_,_,g2⟩:=iq;rw [show -((z.natAbs:Nat):Int)=z by omega] at g2;exact ⟨r,g1,g2⟩
 ·have hs:aU z=aq z.natAbs:=by rw [<-mz,yu h0];rfl
  obtain ⟨b,r0,hb,jU,NM⟩:=FP z.natAbs;have e1:bM P L (D P L) 152 [.str (aq z.natAbs),.str [45]]=some (.bool false):=by
   rw [gN h.aiO,hb];show some (AV.bool (gQ [45] (b::r0)))=_
   rw [Z6 jU]
  have e2:bM P L (D P L) 153 [.str (aq z.natAbs),.str [45]]=some (.str (aq z.natAbs)):=by
   rw [gN h.aiP,hb];show some (AV.str (bif gQ [45] (b::r0) then _ else _))=_
   rw [Z6 jU];rfl
  have iq:∃s w,ai P L 110 [.str (aU z)] (.agg [ab s,w])/\cY s w (z.natAbs:Int):=by
   rw [hs];unfold ai;rw [aG h.aiQ];simp only [go_sem,ya,yd,Ls,bf,e1,e2,un.pu,un.one,cT un];generalize hq:D P L (.loop [0,2,3,4] CU) _=q;obtain ⟨ex,st,rfl,tm,s,w,rfl,rfl,t2,t3,t4,h5⟩:=cr hq (afv (P:=P) (L:=L) h hN pE (neg:=false) (o1:= .int .i64 0) (o2:= .ae) (aq z.natAbs).length) ⟨[],aq z.natAbs,0,0,.ae,by simp only [go_sem,ya,yd,aC]<;>rfl,rfl,rfl,.inl ⟨rfl,rfl,by decide,by decide⟩,rfl⟩
   obtain ⟨l5,u5⟩:=h5.aJ;refine ⟨s,w,?_,h5⟩;simp only [go_sem,ya,yd,aC,t2,t3,t4,cm,dV,dX,cm,yt,ll u5,cT u5]
  obtain ⟨s,w,g1,g2⟩:=iq;rw [show ((z.natAbs:Nat):Int)=z by omega] at g2;exact ⟨_,g1,s,w,rfl,g2⟩
def FR (b:Nat) (r:List Nat) (c:Nat):gQ [c] (b::r)=yp c b:=by
 show (yp c b&&true)=_
 grind
def YI:∀(l r:List Nat) (k:Nat),(∀x,x∈l->x≠47)->lc [47] (l++47::r) k=some (k+l.length)
 | [],r,k,_=>by
  show (bif gQ [47] (47::r) then some k else _)=_
  rw [FR];rfl
 | b::l,r,k,h=>by
  show (bif gQ [47] (b::(l++47::r)) then some k else lc [47] (l++47::r) (k+1))=_
  rw [FR,gB (fun e=>h b (by simp) e.symm),yX,YI l r (k+1) (fun x hx=>h x (by simp [hx])),yM]
  grind
def index_none:∀(l:List Nat) (k:Nat),(∀x,x∈l->x≠47)->lc [47] l k=none
 | [],k,_=>rfl
 | b::l,k,h=>by
  show (bif gQ [47] (b::l) then some k else lc [47] l (k+1))=_
  rw [FR,gB (fun e=>h b (by simp) e.symm),yX,index_none l (k+1) (fun x hx=>h x (by simp [hx]))]
def aaY:∀{l:List Nat},cQ l=true->∀x,x∈l->48<=x/\x<=57
 | [],_,x,hx=>by simp at hx
 | b::l,h,x,hx=>by
  have h1:=Z5 h;simp only [cQ,yf] at h;rcases wZ.1 hx with rfl | hx
  ·grind
  ·exact aaY h.2 x hx
def alc (z:Int):∀x,x∈aU z->x≠47:=fun x hx=>by
 rw [<-mz] at hx;rcases List.mem_append.1 hx with h | h
 ·grind
 ·have:=aaY (ze _) x h;omega
def m62 (h:Tx P L) {a:Rat} (hl:(RT a).length<4000000000):∃r,ai P L 62 [.str (RT a)] r/\dG r a:=by
 have D6:=alc a.num;unfold RT at hl ⊢;by_cases hd:a.den=1
 ·rw [yL hd,xV] at hl ⊢;obtain ⟨p,e1,hp⟩:=H8 h (z:=a.num) (by omega);obtain ⟨r,e2,hr⟩:=MV h.toFr' hp;rw [<-Py a hd] at hr;have bZ:=hr;obtain ⟨s1,w1,rfl,h1⟩:=hp;obtain ⟨s2,w2,s3,w3,rfl,h2,h3⟩:=hr;obtain ⟨l1,u1⟩:=h1.aJ;obtain ⟨l2,u2⟩:=h2.aJ;obtain ⟨l3,u3⟩:=h3.aJ;have e0:bM P L (D P L) 109 [.str (aU a.num),.str [47]]=some (.aa [.str (aU a.num),.str [],.bool false]):=by
   rw [gN h.Wg];show (bif yI (aU a.num).length 4294967281 then (match lc [47] (aU a.num) 0 with | some i=>_ | none=>some (AV.aa [.str (aU a.num),.str [],.bool false])) else none)=_
   rw [jL (by omega),index_none _ _ D6];rfl
  refine ⟨_,?_,bZ⟩;unfold ai;rw [aG h.NY];simp only [go_sem,ya,yd,Ei,bf,e0,e1,bF,u1.an,b8,e2,jr u2 u3,dV,dX,yt,dT,js u2 u3]
 ·rw [yu hd] at hl ⊢;simp only [yY,yM] at hl;obtain ⟨p,e1,hp⟩:=H8 h (z:=a.num) (by omega);obtain ⟨q,e2,hq⟩:=H8 h (z:=(a.den:Int)) (by rw [km];omega);rw [km] at e2;obtain ⟨s1,w1,rfl,h1⟩:=hp;obtain ⟨s2,w2,rfl,h2⟩:=hq;obtain ⟨l1,u1⟩:=h1.aJ;obtain ⟨l2,u2⟩:=h2.aJ;have e0:bM P L (D P L) 109 [.str (aU a.num++47::aq a.den),.str [47]]=some (.aa [.str (aU a.num),.str (aq a.den),.bool true]):=by
   rw [gN h.Wg];show (bif yI (aU a.num++47::aq a.den).length 4294967281 then (match lc [47] (aU a.num++47::aq a.den) 0 with | some i=>some (AV.aa [.str ((aU a.num++47::aq a.den).take i),.str ((aU a.num++47::aq a.den).drop (i+1)),.bool true]) | none=>_) else none)=_
   rw [jL (by simp;omega),YI _ _ _ D6];simp only [yh,yz,ue];rw [show (aU a.num).length+1=(aU a.num++[47]).length by simp,show aU a.num++47::aq a.den=(aU a.num++[47])++aq a.den by simp,uf]
  refine ⟨.agg [ab s1,w1,ab s2,w2],?_,s1,w1,s2,w2,rfl,h1,h2⟩;unfold ai;rw [aG h.NY];simp only [go_sem,ya,yd,Ei,bf,e0,e1,e2,bF,u1.one,u2.one,zu,zx,jr u1 u2,dV,dX,yt,dT,js u1 u2]
end
def di (p:List Nat):Bool:=cQ p&&(match p with | []=>false | b::r=> !(yp b 48)||r.isEmpty)
def eW (p:List Nat):Nat:=(cC p 0).getD 0
def lI (neg:Bool) (t:List Nat):Int:=
 if di (t.take (bR t))=false\/(neg=true/\t.take (bR t)=[48]) then 1
 else if bR t<t.length/\(di (t.drop (bR t+1))=false\/t.drop (bR t+1)=[48]\/t.drop (bR t+1)=[49]) then 1
 else if 600<bR t\/600<t.length-bR t-1 then 4
 else if bR t<t.length/\wo (eW (t.take (bR t))) (eW (t.drop (bR t+1)))≠1 then 1
 else 0
def jE:List Nat->Int
 | []=>lI false []
 | b::t=>if b=45 then lI true t else lI false (b::t)
def aaZ:∀{p:List Nat} (a:Nat),cQ p=true->∃n,cC p a=some n
 | [],a,_=>⟨a,rfl⟩
 | b::r,a,h=>by
  have h':=h;simp only [cQ,yf] at h';obtain ⟨n,hn⟩:=aaZ (p:=r) (10*a+(b-48)) h'.2;exact ⟨n,by simp only [cC,h'.1.1,h'.1.2,uF,yz];exact hn⟩
def CJ:∀(k:Nat) {p:List Nat},p.length=k->di p=true->aq (eW p)=p:=by
 intro k
 induction k with
 | zero=>intro p hl h;rw [yD hl] at h;simp [di] at h
 | succ k ih=>
  intro p hl h;rcases snoc p with rfl | ⟨m,a,rfl⟩
  ·grind
  ·simp only [di,yf,Jm] at h;obtain ⟨⟨h1,h2⟩,h3⟩:=h;simp only [cQ,yf] at h2;have ha1:=yo h2.1.1;have ha2:=yo h2.1.2;obtain ⟨n,hn⟩:=aaZ 0 h1;have hv:eW (m++[a])=10*n+(a-48):=by
    unfold eW;rw [FY,hn];simp only [Option.bind_some,cC,h2.1.1,h2.1.2,uF,yz,Option.getD_some]
   cases m with
   | nil=>
    have:n=0:=by simpa [cC] using hn.symm
    rw [hv,my (by omega)]
    simp;omega
   | cons b r=>
    have hd:di (b::r)=true:=by
     simp only [di,h1,wq]
     cases r with
     | nil=>simp
     | cons c r=>simp at h3 ⊢;exact h3
    have hm:=ih (p:=b::r) (by simpa using hl) hd;have hnv:eW (b::r)=n:=by unfold eW;rw [hn];rfl
    rw [hnv] at hm;have oD:n≠0:=fun e=>by
     rw [my (by omega)] at hm
     simp_all
    rw [hv,nI (by omega),show (10*n+(a-48))/10=n by omega,show 48+(10*n+(a-48))%10=a by omega,hm]
def Yk (t:List Nat):bR t<t.length->t=t.take (bR t)++47::t.drop (bR t+1):=by
 induction t with
 | nil=>simp
 | cons b r ih=>
  intro h;simp only [bR] at h ⊢
  grind
def Z7 {n:Int} {d:Nat} (hd:0<d) (hg:wo n.natAbs d=1):∃r:Rat,r.num=n/\r.den=d:=⟨⟨n,d,by omega,hg⟩,rfl,rfl⟩
def awp {s:List Nat} (h:jE s=0):∃r:Rat,s=RT r/\(aq r.num.natAbs).length<=600/\(aq r.den).length<=600:=by
 have key:∀(neg:Bool) (t:List Nat),lI neg t=0->∃r:Rat,(if neg=true then [45] else [])++t=RT r/\(aq r.num.natAbs).length<=600/\(aq r.den).length<=600:=by
  intro neg t h;unfold lI at h
  split at h
  ·grind
  rename_i h1
  split at h
  ·grind
  rename_i h2
  split at h
  ·grind
  rename_i h3
  split at h
  ·grind
  rename_i h4;have hle:=FO t;have hp:di (t.take (bR t))=true:=by
   cases hb:di (t.take (bR t)) with
   | true=>rfl
   | false=>exact absurd (.inl hb) h1
  have pO:=CJ _ rfl hp;generalize hn:eW (t.take (bR t))=n at*
  have ayo:neg=true->n≠0:=fun hh e=>by
   subst e;exact h1 (.inr ⟨hh,by rw [<-pO];rfl⟩)
  have hint:(if neg=true then [45] else [])++aq n=aU (if neg=true then -(n:Int) else n):=by
   cases neg with
   | true=>
    have:=ayo rfl
    simp only [xR];rw [lR (by omega)]
    simp
   | false=>simp [km]
  have Wo:(if neg=true then -(n:Int) else n).natAbs=n:=by split<;>omega
  have hln:(aq n).length<=600:=by rw [pO,yW];omega
  by_cases hs:bR t<t.length
  ·have hq:di (t.drop (bR t+1))=true:=by
    cases hb:di (t.drop (bR t+1)) with
    | true=>rfl
    | false=>exact absurd ⟨hs,.inl hb⟩ h2
   have nC:=CJ _ rfl hq;have hg:wo n (eW (t.drop (bR t+1)))=1:=by
    grind
   have jn:=Yk t hs;have I7:(t.drop (bR t+1)).length<=600:=by rw [xN];omega
   rw [<-nC] at jn I7;have fE:eW (t.drop (bR t+1))≠0:=fun e=>by
    rw [e] at nC;exact h2 ⟨hs,.inr (.inl (by rw [<-nC];rfl))⟩
   have jy:eW (t.drop (bR t+1))≠1:=fun e=>by
    rw [e] at nC;exact h2 ⟨hs,.inr (.inr (by rw [<-nC];rfl))⟩
   generalize eW (t.drop (bR t+1))=d at*
   obtain ⟨r,dO,lK⟩:=Z7 (n:=if neg=true then -(n:Int) else n) (d:=d) (by omega) (by rw [Wo];exact hg)
   refine ⟨r,?_,by rw [dO,Wo];exact hln,by rw [lK];exact I7⟩
   unfold RT;rw [dO,lK,yu jy,<-hint,xt]
   congr 1
   rw [pO];exact jn
  ·have ht:t.take (bR t)=t:=yQ (by omega);rw [ht] at pO;obtain ⟨r,dO,lK⟩:=Z7 (n:=if neg=true then -(n:Int) else n) (d:=1) (by omega) (Nat.gcd_one_right _);refine ⟨r,?_,by rw [dO,Wo];exact hln,by rw [lK];decide⟩
   unfold RT;rw [dO,lK,yL rfl,<-hint,xV,pO]
 cases s with
 | nil=>exact absurd h (by decide)
 | cons b t=>
  simp only [jE] at h
  split at h
  ·rename_i hb;subst hb;exact key true t h
  ·exact key false (b::t) h
namespace Nd
structure Ord (n:Nat) (l:List Int):Prop where
 len:l.length=n
 oy:∀a,a<n->0<=l.getD a 0/\l.getD a 0<n
 inj:∀a b,a<n->b<n->l.getD a 0=l.getD b 0->a=b
end Nd
namespace Nd
open Go (IntKind)
section
variable {P:aM} {L:Lib}
abbrev ai (P:aM) (L:Lib) (f:Nat) (ao:List AV) (r:AV):Prop:=bM P L (D P L) f ao=some r
def sA (h:Has P L 124 Dh) (b:Bool) (n:Int):ai P L 124 [.bool b,ab n] (ab (if b=true then n else 0)):=by
 unfold ai;rw [aG h]
 cases b with
 | true=>simp only [go_sem,ya,Dh,xR]
 | false=>simp only [go_sem,ya,Dh];rfl
def azY (h:Has P L 125 Lu) {v:AV} {l:List Int} (hv:bw v l) (hl:l.length<=1000000):ai P L 125 [v] (ab (lV l)):=by
 unfold ai;rw [aG h];simp only [go_sem,ya,Lu,hv.len];have key:=aaJ (P:=P) (L:=L) (live:=[5,6,7]) (a:=Kx)
  (I:=fun k s=>∃tm ct i,s=⟨tm,[],ct,0⟩/\aj tm 5=v/\aj tm 6=ab l.length/\aj tm 7=ab (i:Nat)/\i+k=l.length/\lV (l.drop i)=lV l)
  (Q:=fun ex s=>∃tm,s=⟨tm,[],0,0⟩/\((ex= .ret/\aj tm 2=ab (lV l))\/(ex= .exit 0/\lV l=0))) ?_ l.length
 ·generalize hq:D P L (.loop [5,6,7] Kx) _=q;obtain ⟨ex,s,rfl,tm,rfl,h2⟩:=cr hq key ⟨_,_,0,rfl,rfl,rfl,rfl,by omega,rfl⟩;rcases h2 with ⟨rfl,h2⟩ | ⟨rfl,h2⟩
  ·simp only [go_sem,h2]
  ·rw [h2];simp only [go_sem]
 ·rintro k s ⟨tm,ct,i,rfl,h5,h6,h7,hk,hf⟩;rw [alm (by simp only [go_sem,h5,h6,h7,hv.pu])];simp only [go_sem,ya,h5,h6,h7,Kx];by_cases hi:i<l.length
  ·have jT:(i:Int)<l.length:=by omega
   rw [alJ hi] at hf;by_cases hz:l[i]=0
   ·left
    simp only [go_sem,ya,jT,hv.cB hi,hz];refine ⟨_,k-1,rfl,by omega,_,_,i+1,rfl,?_⟩;rw [wrap64 (by omega) (by omega)];rw [yL hz] at hf;simp only [go_sem,ya];exact ⟨trivial,trivial,rfl,by omega,hf⟩
   ·right
    simp only [go_sem,ya,jT,hv.cB hi,hz];rw [yu hz] at hf;refine ⟨_,_,rfl,by simp,_,rfl,.inl ⟨rfl,?_⟩⟩;simp only [go_sem,hf]
  ·right
   have jT:¬(i:Int)<l.length:=by omega
   simp only [go_sem,jT];refine ⟨_,_,rfl,by simp,_,rfl,.inr ⟨rfl,?_⟩⟩;rw [<-hf,xu (by omega)];rfl
end
end Nd
def aa0 (i:Nat):Dg i [48,49,50,51,52,53,54,55,56,57]=(yy 48 i&&yy i 57):=by
 by_cases h:48<=i/\i<=57
 ·obtain ⟨h1,h2⟩:=h;obtain ⟨k,rfl⟩:∃k,i=48+k:=⟨i-48,by omega⟩;rcases (show k=0\/k=1\/k=2\/k=3\/k=4\/k=5\/k=6\/k=7\/k=8\/k=9 by omega) with rfl | rfl | rfl | rfl | rfl | rfl | rfl | rfl | rfl | rfl<;>rfl
 ·have e:(yy 48 i&&yy i 57)=false:=by
   cases h1:yy 48 i with
   | false=>rfl
   | true=>
    cases h2:yy i 57 with
    | false=>rfl
    | true=>exact absurd ⟨yo h1,yo h2⟩ h
  rw [e];have ne:∀c,48<=c->c<=57->yp c i=false:=fun c h1 h2=>gB (by omega)
  simp only [Dg,ne 48 (by decide) (by decide),ne 49 (by decide) (by decide),ne 50 (by decide) (by decide),ne 51 (by decide) (by decide),ne 52 (by decide) (by decide),ne 53 (by decide) (by decide),ne 54 (by decide) (by decide),ne 55 (by decide) (by decide),ne 56 (by decide) (by decide),ne 57 (by decide) (by decide),yX]
def OS:∀l:List Nat,jK [48,49,50,51,52,53,54,55,56,57] l=[]↔cQ l=true
 | []=>by simp [jK,cQ]
 | b::r=>by
  simp only [jK,cQ,aa0]
  cases hb:(yy 48 b&&yy b 57) with
  | true=>simp only [yz,wq];exact OS r
  | false=>simp
def J6:∀l:List Nat,cQ l.reverse=cQ l
 | []=>rfl
 | b::r=>by rw [List.reverse_cons,Jm,J6 r];simp [cQ,Bool.and_comm]
def Yo:∀l:List Nat,cQ l=false->cQ (jK [48,49,50,51,52,53,54,55,56,57] l)=false
 | [],h=>by simp [cQ] at h
 | b::r,h=>by
  simp only [jK,aa0]
  cases hb:(yy 48 b&&yy b 57) with
  | true=>
   simp only [cQ,hb,wq] at h;exact Yo r h
  | false=>simp only [yX];exact h
def aqj (p:List Nat):cM (jK [48,49,50,51,52,53,54,55,56,57] (jK [48,49,50,51,52,53,54,55,56,57] p.reverse).reverse) []=cQ p:=by
 cases hd:cQ p with
 | true=>
  have h1:=(OS p.reverse).2 (by rw [J6];exact hd)
  rw [h1];rfl
 | false=>
  have h1:=Yo p.reverse (by rw [J6];exact hd)
  have h2:cQ (jK [48,49,50,51,52,53,54,55,56,57] p.reverse).reverse=false:=by rw [J6];exact h1
  cases hq:jK [48,49,50,51,52,53,54,55,56,57] (jK [48,49,50,51,52,53,54,55,56,57] p.reverse).reverse with
  | nil=>have:=(OS _).1 hq;rw [h2] at this;exact absurd this (by decide)
  | cons b r=>rfl
def Yp:∀(t:List Nat) (k:Nat),lc [47] t k=if bR t<t.length then some (k+bR t) else none
 | [],k=>by simp [lc,gQ,bR]
 | b::r,k=>by
  by_cases hb:b=47
  ·subst hb;have e:bR (47::r)=0:=by simp [bR]
   rw [e,yL (by simp)];rfl
  ·have e:bR (b::r)=bR r+1:=by simp [bR,hb]
   have hp:gQ [47] (b::r)=false:=by rw [FR];exact gB (fun e=>hb e.symm)
   rw [e,lc,hp,yX,Yp r (k+1)]
   grind
def Ba (a b:List Nat):binOp .neq (.str a) (.str b)=some (.bool (!(cM a b))):=rfl
structure Ck (P:aM) (L:Lib):Prop extends Tx P L where
 azZ:L.pure 128=some Jv
 az0:L.pure 162=some trimS
 h86:Has P L 86 dA
 B0:Has P L 124 Dh
 az1:Has P L 125 Lu
 az2:Has P L 129 Di
section
variable {P:aM} {L:Lib}
def sA (h:Has P L 124 Dh) (b:Bool) (n:Int):ai P L 124 [.bool b,ab n] (ab (if b=true then n else 0)):=Nd.sA h b n
def aiV (h:Ck P L) {p:List Nat} (hl:p.length<=4000000000):ai P L 129 [.str p] (.bool (di p)):=by
 have e1:bM P L (D P L) 162 [.str p,.str [48,49,50,51,52,53,54,55,56,57]]=some (.str (jK [48,49,50,51,52,53,54,55,56,57] (jK [48,49,50,51,52,53,54,55,56,57] p.reverse).reverse)):=by
  rw [gN h.az0];show (bif CT [48,49,50,51,52,53,54,55,56,57]&&(yI p.length 4294967281&&yI 10 4294967281) then _ else none)=_
  rw [jL (by omega)];rfl
 have e2:=aqj p;unfold ai;rw [aG h.az2]
 match p,e1,e2 with
 | [],_,_=>
  simp only [go_sem,ya,Di,Ba,show cM [] []=true from rfl,yN];rfl
 | b::r,e1,e2=>
  have hI:lY 0 (.str (b::r))=some (.int .u8 (b:Nat)):=rfl;have h0:cM (b::r) []=false:=rfl;have hd:di (b::r)=(cQ (b::r)&&(!(yp b 48)||r.isEmpty)):=rfl;rw [hd]
  cases j8:cQ (b::r) with
  | false=>
   rw [j8] at e2;simp only [go_sem,ya,Di,Ba,h0,yS,e1,kX,e2,wh]
  | true=>
   rw [j8] at e2;by_cases hb:b=48
   ·subst hb;have e3:cM (48::r) [48]=r.isEmpty:=by
     cases r with
     | nil=>rfl
     | cons c r=>rfl
    have W5:lY 0 (.str (48::r))=some (.int .u8 48):=rfl;simp only [go_sem,ya,Di,Ba,h0,yS,e1,kX,e2,W5,yq,yN,e3];rfl
   ·have:yp b 48=false:=gB hb
    rw [this];simp only [go_sem,ya,Di,Ba,h0,yS,e1,kX,e2,hI,show ¬((b:Nat):Int)=48 by omega,yv,yS];rfl
def az3 (h:Ck P L) (s:List Nat):bM P L (D P L) 128 [.str s,.str [45]]=some (if s.head? =some 45 then .aa [.str s.tail,.bool true] else .aa [.str s,.bool false]):=by
 rw [gN h.azZ];show some (bif gQ [45] s then AV.aa [.str (s.drop 1),.bool true] else .aa [.str s,.bool false])=_
 cases s with
 | nil=>rfl
 | cons b r=>
  by_cases hb:b=45
  ·subst hb;rfl
  ·have:gQ [45] (b::r)=false:=by rw [FR];exact gB (fun e=>hb e.symm)
   grind
def az4 (h:Ck P L) {t:List Nat} (hl:t.length<=4000000000):bM P L (D P L) 109 [.str t,.str [47]]=some (.aa [.str (t.take (bR t)),.str (t.drop (bR t+1)),.bool (decide (bR t<t.length))]):=by
 rw [gN h.Wg];show (bif yI t.length 4294967281 then (match lc [47] t 0 with | some i=>some (AV.aa [.str (t.take i),.str (t.drop (i+1)),.bool true]) | none=>some (AV.aa [.str t,.str [],.bool false])) else none)=_
 rw [jL (by omega),Yp];by_cases hs:bR t<t.length
 ·grind
 ·rw [yu hs,yF hs,yQ (by omega),xu (by omega)];rfl
def amI {P:aM} {L:Lib} (a b c d:VC) (s:St):D P L (.seq a (.seq b (.seq c d))) s=kF P L (D P L (.seq a (.seq b c)) s) d:=by
 have e:=A4 (P:=P) (L:=L) b c d;rw [jo,jo]
 cases D P L a s with
 | none=>rfl
 | some q=>
  obtain ⟨ex,st⟩:=q
  cases ex with
  | normal=>rw [fa,fa];exact e st
  | ret=>rfl
  | exit id=>rfl
def aog {P:aM} {L:Lib} (a b c d f:VC) (s:St):D P L (.seq a (.seq b (.seq c (.seq d f)))) s=kF P L (D P L (.seq a (.seq b (.seq c d))) s) f:=by
 have e:=amI (P:=P) (L:=L) b c d f;rw [jo,jo]
 cases D P L a s with
 | none=>rfl
 | some q=>
  obtain ⟨ex,st⟩:=q
  cases ex with
  | normal=>rw [fa,fa];exact e st
  | ret=>rfl
  | exit id=>rfl
def PC {a b:List Nat} (h:a=b):cM a b=true:=by
 subst h
 induction a with
 | nil=>rfl
 | cons x a ih=>simp [cM,ih]
def PD {a b:List Nat} (h:a≠b):cM a b=false:=by
 cases hb:cM a b with
 | false=>rfl
 | true=>
  exact absurd (by
   clear h;revert b
   induction a with
   | nil=>intro b hb;cases b with | nil=>rfl | cons y b=>simp [cM] at hb
   | cons x a ih=>
    intro b hb
    cases b with
    | nil=>simp [cM] at hb
    | cons y b=>
     simp only [cM,yf] at hb
     rw [yj hb.1,ih hb.2]) h
def ayp (h:Ck P L) {p q:List Nat} {ok found:Bool} (lp:p.length<=1000000000) (lq:q.length<=1000000000) (iH:ok=true->di p=true/\(found=true->di q=true)) {tm:Env} (t5:aj tm 5= .str p) (t6:aj tm 6= .str q) (t7:aj tm 7= .bool found) (t8:aj tm 8= .bool ok):
  db [.t 2] (D P L (au (au (au (au (au dA.body))))) ⟨tm,[],0,0⟩)=some (ab (
   if ok=false then 1
   else if 600<p.length\/600<q.length then 4
   else if found=true/\wo (eW p) (eW q)≠1 then 1
   else 0)):=by
 have w1:=sA h.B0 (!ok) 1;have N4:∀a b:Int,ai P L 125 [.aB true 2 [ab a,ab b]] (ab (lV [a,b])):=fun a b=>Nd.azY h.az1 (mD true [a,b]) (by simp)
 cases ok with
 | false=>
  have f1:=N4 1 0;have f2:=N4 1 4;have w2:=sA h.B0 false 4;have w3:=sA h.B0 true 4;simp only [yS,xR,yB,xk] at w1 w2 w3;rw [show lV [1,0]=1 by decide] at f1;rw [show lV [1,4]=1 by decide] at f2;unfold ai at w1 w2 w3 f1 f2;by_cases h1:600<p.length
  ·simp only [go_sem,ya,yd,yO,yC,ym,dA,au,show ¬(1:Int)=0 by decide,yS,t5,t8,yS,w1,show (600:Int)<(p.length:Int) by omega,yq,w3,f2,yv]
   simp
  ·by_cases h2:600<q.length
   ·simp only [go_sem,ya,yd,yO,yC,ym,dA,au,show ¬(1:Int)=0 by decide,yS,t5,t6,t8,yS,w1,show ¬(600:Int)<(p.length:Int) by omega,show (600:Int)<(q.length:Int) by omega,yq,yv,w3,f2]
    simp
   ·simp only [go_sem,ya,yd,yO,yC,ym,dA,au,show ¬(1:Int)=0 by decide,yS,t5,t6,t8,yS,w1,show ¬(600:Int)<(p.length:Int) by omega,show ¬(600:Int)<(q.length:Int) by omega,yv,w2,f1]
    simp
 | true=>
  obtain ⟨hp,hq⟩:=iH rfl;have f1:=N4 0 0;have f2:=N4 0 4;have w2:=sA h.B0 false 4;have w3:=sA h.B0 true 4;have w4:=sA h.B0 false 1;have w5:=sA h.B0 true 1;simp only [yN,xR,yB,xk] at w1 w2 w3 w4 w5;rw [show lV [0,0]=0 by decide] at f1;rw [show lV [0,4]=4 by decide] at f2;unfold ai at w1 w2 w3 w4 w5 f1 f2;rw [yu (by decide)];by_cases h1:600<p.length
  ·rw [yL (.inl h1)];simp only [go_sem,ya,yd,yO,yC,ym,dA,au,show ¬(4:Int)=0 by decide,yS,t5,t8,yN,w1,show (600:Int)<(p.length:Int) by omega,yq,w3,f2,yv]
  ·by_cases h2:600<q.length
   ·rw [yL (.inr h2)];simp only [go_sem,ya,yd,yO,yC,ym,dA,au,show ¬(4:Int)=0 by decide,yS,t5,t6,t8,yN,w1,show ¬(600:Int)<(p.length:Int) by omega,show (600:Int)<(q.length:Int) by omega,yq,yv,w3,f2]
   ·rw [yu (by omega)]
    cases found with
    | false=>
     rw [yu (by simp)];simp only [go_sem,ya,yd,yO,yC,ym,dA,au,t5,t6,t7,t8,yN,w1,show ¬(600:Int)<(p.length:Int) by omega,show ¬(600:Int)<(q.length:Int) by omega,yq,yv,w2,f1]
    | true=>
     have pO:=CJ _ rfl hp;have nC:=CJ _ rfl (hq rfl);generalize eW p=n at*
     generalize eW q=d at*
     subst pO;subst nC;obtain ⟨M,hM⟩:∃M:Nat,M=2400:=⟨_,rfl⟩;have bd:∀{m:Nat},(aq m).length<=600->Bd M (m:Int):=fun {m} hm=>by
      have h1:=Gb m;have h2:=Gd (aq m).length;have h3:(2:Nat)^(4*(aq m).length)<=2^M:=yR (by decide) (by omega);unfold Bd;rw [xn];exact yE h1 (xe h2 h3)
     obtain ⟨x,e1,hx⟩:=H8 h.toTx (z:=(n:Int)) (by rw [km];omega);obtain ⟨y,e2,hy⟩:=H8 h.toTx (z:=(d:Int)) (by rw [km];omega);rw [km] at e1 e2;have kn:=bd (m:=n) (by omega);have kd:=bd (m:=d) (by omega);obtain ⟨g,e3,hg⟩:=aiM h.toNu hx hy kn kd (by omega);obtain ⟨e4,WM⟩:=sr h.toNu (z:=1) (by decide) (by decide);have kg:Bd M ((wJ (n:Int) (d:Int):Nat):Int):=by
      rcases xh d with h0 | h0
      ·subst h0;simpa using kn
      ·exact kd.le (by have:=Nat.gcd_le_right n h0;simpa using this)
     have e5:=aiI h.toNu hg WM (K:=M) kg (by unfold Bd;exact wU (by omega)) (by omega)
     have az5:wJ (n:Int) (d:Int)=wo n d:=rfl;rw [az5] at e5;obtain ⟨xs,xw,rfl,rq⟩:=hx;obtain ⟨ys,yw,rfl,I8⟩:=hy;obtain ⟨gs,gw,rfl,XW⟩:=hg;obtain ⟨l1,u1⟩:=rq.aJ;obtain ⟨l2,u2⟩:=I8.aJ;obtain ⟨l3,u3⟩:=XW.aJ;by_cases gK:wo n d=1
     ·rw [yu (by simp [gK])];have hs:bV (((wo n d:Nat):Int)-1)=0:=by rw [gK];rfl
      rw [hs] at e5;simp only [go_sem,ya,yd,yO,yC,ym,dA,au,t5,t6,t7,t8,yN,w1,show ¬(600:Int)<((aq n).length:Int) by omega,show ¬(600:Int)<((aq d).length:Int) by omega,yq,yv,w2,f1,e1,e2,u1.an,u2.an,u3.an,bF,b8,e3,e4,e5]
     ·rw [yL ⟨rfl,gK⟩];obtain ⟨c,hc,jV⟩:∃c,bV (((wo n d:Nat):Int)-1)=c/\c≠0:=⟨_,rfl,fun e=>gK (by
       unfold bV at e
       split at e
       ·exact absurd e (by decide)
       ·split at e
        ·omega
        ·exact absurd e (by decide))⟩
      rw [hc] at e5;simp only [go_sem,ya,yd,yO,yC,ym,dA,au,yS,t5,t6,t7,t8,yN,w1,show ¬(600:Int)<((aq n).length:Int) by omega,show ¬(600:Int)<((aq d).length:Int) by omega,yq,yv,w2,f1,e1,e2,u1.an,u2.an,u3.an,bF,b8,e3,e4,e5,jV,yS,w5]
def m86 (h:Ck P L) {s:List Nat} (hl:s.length<=1000000000):ai P L 86 [.str s] (ab (jE s)):=by
 have key:∀(neg:Bool) (t:List Nat),t.length<=1000000000->bM P L (D P L) 128 [.str s,.str [45]]=some (.aa [.str t,.bool neg])->ai P L 86 [.str s] (ab (lI neg t)):=by
  intro neg t hl e0;have e1:=az4 h (t:=t) (by omega);obtain ⟨k,hk⟩:∃k,k=bR t:=⟨_,rfl⟩;have XX:k<=t.length:=by rw [hk];exact FO t
  have e2:=aiV h (p:=t.take k) (by rw [yW];omega);have e3:=aiV h (p:=t.drop (k+1)) (by rw [xN];omega);have lp:(t.take k).length=k:=by rw [yW];omega
  have lq:(t.drop (k+1)).length=t.length-k-1:=by rw [xN];omega
  unfold lI;rw [<-hk] at e1 ⊢;generalize hp:t.take k=p at*
  generalize hq:t.drop (k+1)=q at*
  obtain ⟨AN,qK⟩:∃ok:Bool,ok=(di p&&(!neg|| !(cM p [48]))):=⟨_,rfl⟩;obtain ⟨ok,iH⟩:∃ok:Bool,ok=(AN&&(!(decide (k<t.length))||(di q&&(!(cM q [48])&& !(cM q [49]))))):=⟨_,rfl⟩
  have MM:(if di p=false\/(neg=true/\p=[48]) then 1
    else if k<t.length/\(di q=false\/q=[48]\/q=[49]) then 1
    else if 600<k\/600<t.length-k-1 then 4
    else if k<t.length/\wo (eW p) (eW q)≠1 then 1 else 0:Int)=(if ok=false then 1
    else if 600<p.length\/600<q.length then 4
    else if decide (k<t.length)=true/\wo (eW p) (eW q)≠1 then 1
    else 0):=by
   rw [lp,lq];have a1:(di p=false\/(neg=true/\p=[48]))↔AN=false:=by
    rw [qK];cases di p<;>cases neg<;>simp
    by_cases e:p=[48]
    ·simp [e,PC]
    ·simp [e,PD e]
   have a2:ok=false↔(AN=false\/(k<t.length/\(di q=false\/q=[48]\/q=[49]))):=by
    rw [iH];by_cases hs:k<t.length
    ·simp only [hs,yq,yN,tc,tL];cases AN<;>cases di q<;>simp
     by_cases e:q=[48]
     ·simp [e,PC]
     ·by_cases e':q=[49]
      ·simp [e',PC]
      ·simp [e,e',PD e,PD e']
    ·simp [hs]
   by_cases h1:AN=false
   ·rw [yL (a1.2 h1),yL (a2.2 (.inl h1))]
   ·rw [yu (fun e=>h1 (a1.1 e))];by_cases h2:k<t.length/\(di q=false\/q=[48]\/q=[49])
    ·rw [yL h2,yL (a2.2 (.inr h2))]
    ·rw [yu h2,yu (fun e=>(a2.1 e).elim h1 h2)];simp only [th]
  rw [MM];have az6:ok=true->di p=true/\(decide (k<t.length)=true->di q=true):=fun e=>by
   rw [iH,yf] at e;obtain ⟨e1,e2⟩:=e;rw [qK,yf] at e1;refine ⟨e1.1,fun hs=>?_⟩;rw [hs,yN,tc,yf] at e2;exact e2.1
  have tail:∀tm,aj tm 5= .str p->aj tm 6= .str q->aj tm 7= .bool (decide (k<t.length))->aj tm 8= .bool ok->db [.t 2] (D P L (au (au (au (au (au dA.body))))) ⟨tm,[],0,0⟩)=_:=fun tm t5 t6 t7 t8=>
   ayp h (by omega) (by omega) az6 t5 t6 t7 t8
  have mid:∀tm,aj tm 5= .str p->aj tm 6= .str q->aj tm 7= .bool (decide (k<t.length))->aj tm 8= .bool AN->
    ∃bG,D P L (aW (au (au (au (au dA.body))))) ⟨tm,[],0,0⟩=some (.normal,⟨bG,[],0,0⟩)/\aj bG 5= .str p/\aj bG 6= .str q/\aj bG 7= .bool (decide (k<t.length))/\aj bG 8= .bool ok:=fun tm t5 t6 t7 t8=>by
   unfold ai at e3;by_cases hs:k<t.length
   ·rw [y5 hs] at t7 iH ⊢;simp only [yN,tc] at iH
    cases AN with
    | false=>
     rw [wh] at iH;subst iH;refine ⟨_,by simp only [go_sem,ya,dA,aW,au,t7,t8]<;>rfl,?_⟩
     simp only [go_sem,ya,t5,t6,t7,tL]
    | true=>
     rw [wq] at iH
     cases hd:di q with
     | false=>
      rw [hd] at e3 iH;rw [wh] at iH;subst iH;refine ⟨_,by simp only [go_sem,ya,dA,aW,au,t6,t7,t8,e3]<;>rfl,?_⟩
      simp only [go_sem,ya,t5,t6,t7,tL]
     | true=>
      rw [hd] at e3 iH;rw [wq] at iH
      cases iT:cM q [48] with
      | true=>
       rw [iT,yN,wh] at iH;subst iH;refine ⟨_,by simp only [go_sem,ya,dA,aW,au,t6,t7,t8,e3,Ba,iT,yN]<;>rfl,?_⟩
       simp only [go_sem,ya,t5,t6,t7,tL]
      | false=>
       rw [iT,yS,wq] at iH;subst iH;refine ⟨_,by simp only [go_sem,ya,dA,aW,au,t6,t7,t8,e3,Ba,iT,yS]<;>rfl,?_⟩
       simp only [go_sem,ya,t5,t6,t7,tL]
   ·rw [yF hs] at t7 iH ⊢;simp only [yS,ybW,vO] at iH;subst iH;refine ⟨_,by simp only [go_sem,dA,aW,au,t7]<;>rfl,?_⟩
    simp only [go_sem,ya,t5,t6,t7,t8,tL]
  have fin:∀tm,aj tm 5= .str p->aj tm 6= .str q->aj tm 7= .bool (decide (k<t.length))->aj tm 8= .bool AN->
    D P L (.seq (aW dA.body) (.seq (aW (au dA.body)) (.seq (aW (au (au dA.body))) (aW (au (au (au dA.body))))))) ⟨[(0,.str s)],[],0,0⟩=some (.normal,⟨tm,[],0,0⟩)->ai P L 86 [.str s] _:=fun tm t5 t6 t7 t8 e=>by
   obtain ⟨bG,e',f5,f6,f7,f8⟩:=mid tm t5 t6 t7 t8;unfold ai;rw [aG h.h86];show db [.t 2] (D P L (.seq (aW dA.body) (.seq (aW (au dA.body)) (.seq (aW (au (au dA.body))) (.seq (aW (au (au (au dA.body)))) (.seq (aW (au (au (au (au dA.body))))) (au (au (au (au (au dA.body)))))))))) ⟨[(0,.str s)],[],0,0⟩)=_
   rw [aog,e,fa,jo,e',fa];exact tail bG f5 f6 f7 f8
  unfold ai at e2
  cases hd:di p with
  | false=>
   rw [hd] at e2 qK;rw [wh] at qK;subst qK;refine fin _ ?_ ?_ ?_ ?_ (by simp only [go_sem,ya,dA,aW,au,e0,e1,e2]<;>rfl)<;>simp only [go_sem,ya]
  | true=>
   rw [hd] at e2 qK
   cases neg with
   | false=>
    simp only [yS,ybW] at qK;subst qK;refine fin _ ?_ ?_ ?_ ?_ (by simp only [go_sem,ya,dA,aW,au,e0,e1,e2,yS]<;>rfl)<;>simp only [go_sem,ya]
   | true=>
    simp only [yN,tc] at qK;subst qK;refine fin _ ?_ ?_ ?_ ?_ (by simp only [go_sem,ya,dA,aW,au,e0,e1,e2,yN,Ba]<;>rfl)<;>simp only [go_sem,ya]
 unfold jE;have e0:=az3 h s
 cases s with
 | nil=>exact key false [] (by simp) e0
 | cons b r=>
  by_cases hb:b=45
  ·subst hb;exact key true r (by simp at hl;omega) e0
  ·simp only [hb,xk];rw [yu (by simpa using hb)] at e0;exact key false (b::r) hl e0
end
def Zk {m B k:Nat} (hB:B<=3*k) (hk:0<k) (h:m<2^B):(aq m).length<=k:=by
 obtain ⟨j,rfl⟩:∃j,k=j+1:=⟨k-1,by omega⟩;refine pW (yE h (xe (yR (by decide) hB) ?_));rw [tV];exact wX (by decide) _
def PE:∀f n:Nat,dK f n<=f
 | 0,_=>yA _
 | f+1,n=>by
  unfold dK
  cases yp n 0 with
  | true=>exact uU _
  | false=>have:=PE f (n/2);simp only [yX];omega
def awq {P:aM} {L:Lib} {f:cx} (h:L.pure 175=some Gk) {x:Nat} (hx:x<18446744073709551616):bM P L f 175 [uc x]=some (ab (dK 64 x:Nat)):=by
 rw [gN h];show (bif yI x 18446744073709551616 then _ else none)=_
 rw [jL hx];rfl
def asu {V n top low:Nat} (hn:0<n) (h0:0<top) (ht:top<18446744073709551616) (hV:V=low+18446744073709551616^(n-1)*top) (hl:low<18446744073709551616^(n-1)):V<2^(64*(n-1)+dK 64 top):=by
 obtain ⟨l1,l2,l3⟩:=Pf h0 ht;have hle:=PE 64 top;have h1:top<2^dK 64 top:=by
  have e:(18446744073709551616:Nat)=2^dK 64 top*2^(64-dK 64 top):=by rw [<-xj,show dK 64 top+(64-dK 64 top)=64 by omega]
  rw [e] at l3;exact Nat.lt_of_mul_lt_mul_right l3
 have h3:=yP (18446744073709551616^(n-1)) (show top+1<=2^dK 64 top from h1);rw [xj,tV]
 grind
section
variable {P:aM} {L:Lib}
def aqk (K:Nat):2^K<=18446744073709551616^(K/64+1):=by
 rw [show (18446744073709551616:Nat)=2^64 from rfl,<-tV];exact yR (by decide) (by omega)
end
section
def aiW (a b:Nat) (h:a<b):2^a<2^b:=wL (by decide) h
def aiX (a b:Nat) (h:2^a<2^b):a<b:=(uE (by decide)).1 h
def P4 (m a b c:Nat) (h:m<2^a) (hc:a+b=c):m*2^b<2^c:=by
 subst hc;rw [xj];exact xI h (y7 _)
def asv (a b k:Nat) (h:a<b):a<b*2^k:=yE h (uL _ (y7 _))
def awr (m a b c:Nat) (h:2^a<=m) (hc:c<=a+b):2^c<=m*2^b:=
 xe (yR (by decide) hc) (by rw [xj];exact yT _ h)
open Ieee
def p2 (e:Int):Rat:=(2:Rat)^e
def du (a b:Int):p2 (a+b)=p2 a*p2 b:=Rat.zpow_add (by decide) a b
def iU (e:Int):0<p2 e:=Rat.zpow_pos (by decide)
def K7 (e:Int):p2 e≠0:=fun h=>by have:=iU e;rw [h] at this;exact absurd this (by decide)
def eJ (n:Nat):p2 n=((2^n:Nat):Rat):=by
 unfold p2;rw [uM,Rat.natCast_pow];rfl
def aws (n:Nat) (h:n≠0):1<p2 n:=by
 rw [eJ n]
 have:((1:Nat):Rat)<((2^n:Nat):Rat):=by rw [Rat.natCast_lt_natCast];exact wU h
 exact this
def me:p2 0=1:=by have:=eJ 0;simpa using this
def oh:p2 1=2:=by have:=eJ 1;simpa using this
def KF (e:Int):p2 (-e)*p2 e=1:=by rw [<-du,show -e+e=0 by omega,me]
structure Can (f:Format) (m:Nat) (e:Int):Prop where
 lp:f.leastPlace<=e
 lt:m<2^(f.fractionBits+1)
 ge:2^f.fractionBits<=m\/e=f.leastPlace
def eX (f:Format) (m:Nat) (e:Int):Nat:=(e-f.leastPlace).toNat*2^f.fractionBits+m
def afw (f:Format):f.infRung<f.signWeight:=by
 have h:0<2^f.exponentBits:=y7 _;have hb:0<2^f.fractionBits:=y7 _;unfold Format.infRung Format.signWeight Format.binade;rw [xj];exact xI (by omega) hb
def aoh {f:Format} {m:Nat} {e:Int} (h:Can f m e) (s:Bool) (hr:eX f m e<f.infRung):f.read (f.word s (eX f m e))= .number s m e:=by
 have jZ:=afw f;have hb:0<2^f.fractionBits:=y7 _;have lp:=h.lp;have lt:=h.lt;have ge:=h.ge;rw [yU] at lt;have eQ:(f.word s (eX f m e)/f.signWeight%2==1)=s:=by
  unfold Format.word
  cases s with
  | true=>rw [yL rfl,Nat.add_div_left _ (by omega),xL (by omega)];rfl
  | false=>rw [yu (by decide),xL (by omega)];rfl
 have kO:f.word s (eX f m e)%f.signWeight=eX f m e:=by
  unfold Format.word
  cases s with
  | true=>rw [yL rfl,ybh,yG (by omega)]
  | false=>rw [yu (by decide),yG (by omega)]
 unfold Format.read;simp only [eQ,kO];obtain ⟨d,hd⟩:∃d:Nat,e=f.leastPlace+d:=⟨(e-f.leastPlace).toNat,by omega⟩;have fV:eX f m e=d*2^f.fractionBits+m:=by unfold eX;rw [hd,show (f.leastPlace+(d:Int)-f.leastPlace).toNat=d by omega]
 unfold Format.binade;by_cases c:eX f m e<2^f.fractionBits
 ·rw [yL c];have fE:d=0:=by
   rcases ge with ge | ge
   ·exfalso
    have:=uU (d*2^f.fractionBits)
    omega
   ·omega
  subst fE;rw [wE,yh] at fV;rw [fV,hd,Int.natCast_zero,ycb]
 ·rw [yu c,yL hr];have hm:2^f.fractionBits<=m:=by
   rcases ge with ge | ge
   ·exact ge
   ·have:d=0:=by omega
    subst this;rw [wE,yh] at fV;omega
  obtain ⟨x,hx⟩:∃x,m=2^f.fractionBits+x:=⟨m-2^f.fractionBits,by omega⟩;have hdiv:eX f m e/2^f.fractionBits=d+1:=by
   rw [fV,hx,<-ug,<-ycc,xg,yaw hb,xL (by omega)]
  have B5:eX f m e%2^f.fractionBits=x:=by
   rw [fV,hx,<-ug,<-ycc,xg,yax,yG (by omega)]
  rw [hdiv,B5,hx,hd,show d+1-1=d by omega]
def Z8 {n d:Nat} {neg:Bool}:Toward.even.cut neg (n*2^d) d=n:=by
 unfold Toward.cut;by_cases h0:n=0
 ·subst h0
  simp
 ·have hl:d<=(n*2^d).log2:=(ycn (uI (vd (by omega) (y7 _)))).2 (uV _ (by omega));have hp:0<2^d:=y7 _;rw [xA (by omega),ybb];simp only [uK,ui _ hp,xp];have h1:decide (2^d<0)=false:=by simp
  have h2:((2^d==0):Bool)=false:=by simpa using uI hp
  simp [h2]
def Oc {n:Nat} (h:n≠0):∀d,(n*2^d).log2=n.log2+d
 | 0=>by simp
 | d+1=>by
  rw [yU,<-xb,xg (n*2^d) 2,Nat.log2_two_mul (uI (vd (by omega) (y7 _))),Oc h d];omega
def Can.last {f:Format} {m:Nat} {e:Int} (h:Can f m e) (h0:m≠0):max (e+m.log2-f.fractionBits) f.leastPlace=e:=by
 have lp:=h.lp;have h1:m.log2<f.fractionBits+1:=(yaE h0).2 h.lt;rcases h.ge with g | g
 ·have:=(ycn h0).2 g
  omega
 ·omega
def aa1 {f:Format} {m:Nat} {e:Int} (h:Can f m e) (h0:m≠0) {m0:Nat} {e0:Int} (s:Bool) (hv:(m0:Rat)*p2 e0=(m:Rat)*p2 e):f.nearest s m0 e0=f.word s (min (eX f m e) f.infRung):=by
 have hl:=h.last h0;have lp:=h.lp;by_cases c:e0<=e
 ·obtain ⟨d,hd⟩:∃d:Nat,e=e0+d:=⟨(e-e0).toNat,by omega⟩;have hm:m0=m*2^d:=by
   rw [hd,du,eJ] at hv;have h1:(m0:Rat)=((m*2^d:Nat):Rat):=by
    rw [xd];have h2:p2 e0*p2 (-e0)=1:=by rw [ycd];exact KF e0
    have h3:(m0:Rat)*p2 e0*p2 (-e0)=(m:Rat)*(p2 e0*((2^d:Nat):Rat))*p2 (-e0):=congrArg (·*p2 (-e0)) hv;rw [xB,h2,wj] at h3;rw [h3]
    have:(m:Rat)*(p2 e0*((2^d:Nat):Rat))*p2 (-e0)=(m:Rat)*((2^d:Nat):Rat)*(p2 e0*p2 (-e0)):=by grind
    rw [this,h2,wj]
   exact_mod_cast h1
  have pN:m0≠0:=by rw [hm];exact uI (vd (by omega) (y7 _))
  unfold Format.nearest;rw [yu pN];have mM:max (e0+m0.log2-f.fractionBits) f.leastPlace=e:=by
   rw [hm,Oc h0,<-hl];omega
  dsimp only
  rw [mM];rw [show (e0-e).toNat=0 by omega,Nat.shiftLeft_zero,show (e-e0).toNat=d by omega,hm,Z8];rfl
 ·obtain ⟨d,hd⟩:∃d:Nat,e0=e+d:=⟨(e0-e).toNat,by omega⟩;have hm:m=m0*2^d:=by
   rw [hd,du,eJ] at hv;have h1:(m:Rat)=((m0*2^d:Nat):Rat):=by
    rw [xd];have h2:p2 e*p2 (-e)=1:=by rw [ycd];exact KF e
    have h3:(m0:Rat)*(p2 e*((2^d:Nat):Rat))*p2 (-e)=(m:Rat)*p2 e*p2 (-e):=congrArg (·*p2 (-e)) hv;have h4:(m:Rat)*p2 e*p2 (-e)=m:=by rw [xB,h2,wj]
    rw [h4] at h3;rw [<-h3]
    have:(m0:Rat)*(p2 e*((2^d:Nat):Rat))*p2 (-e)=(m0:Rat)*((2^d:Nat):Rat)*(p2 e*p2 (-e)):=by grind
    rw [this,h2,wj]
   exact_mod_cast h1
  have pN:m0≠0:=fun q=>by rw [q,wE] at hm;exact h0 hm
  unfold Format.nearest;rw [yu pN];have mM:max (e0+m0.log2-f.fractionBits) f.leastPlace=e:=by
   rw [hm,Oc pN] at hl;rw [<-hl];omega
  dsimp only
  rw [mM];rw [show (e0-e).toNat=d by omega,show (e-e0).toNat=0 by omega,uJ,<-hm]
  have:=Z8 (n:=m) (d:=0) (neg:=s)
  rw [vL,ym] at this;rw [this];rfl
end
section
open Ieee
structure lP (f:Format) (b:Nat) (s:Bool) (m:Nat) (e:Int):Prop where
 can:Can f m e
 lt:eX f m e<f.infRung
 eq:b=f.word s (eX f m e)
def lP.read {f:Format} {b:Nat} {s:Bool} {m:Nat} {e:Int} (h:lP f b s m e):f.read b= .number s m e:=by
 rw [h.eq];exact aoh h.can s h.lt
def sg (s:Bool):Rat:=if s then -1 else 1
def fv (s:Bool) (m:Nat) (e:Int):Rat:=sg s*((m:Rat)*p2 e)
def aej {f:Format} {m:Nat} {e:Int} (h:Can f m e) (he:(e-f.leastPlace).toNat+2<=2^f.exponentBits-1):eX f m e<f.infRung:=by
 have aF:=h.lt;rw [yU] at aF;unfold eX Format.infRung Format.binade
 have:=yT (2^f.fractionBits) he
 rw [xU] at this;omega
def awt {f:Format} {n:Nat} {k:Int} (h0:n≠0) (hn:n<2^(f.fractionBits+1)) (hk:f.leastPlace<=k):∃m e,Can f m e/\m≠0/\e<=k/\(m:Rat)*p2 e=(n:Rat)*p2 k:=by
 have hl:=(yaE h0).2 hn;obtain ⟨j,hj⟩:∃j:Nat,j=min (f.fractionBits-n.log2) (k-f.leastPlace).toNat:=⟨_,rfl⟩;have h1:2^n.log2<=n:=Nat.log2_self_le h0;have h2:n<2^(n.log2+1):=ybi;refine ⟨n*2^j,k-j,⟨by omega,?_,?_⟩,uI (vd (by omega) (y7 _)),by omega,?_⟩
 ·have:n*2^j<2^(n.log2+1)*2^j:=xI h2 (y7 _)
  rw [<-xj] at this;exact yE this (yR (by decide) (by omega))
 ·by_cases c:f.fractionBits-n.log2<=(k-f.leastPlace).toNat
  ·left
   have:=yT (2^j) h1
   rw [<-xj,show n.log2+j=f.fractionBits by omega] at this;exact this
  ·right;omega
 ·rw [xd,<-eJ,xB,<-du,show (j:Int)+(k-j)=k by omega]
def wr {f:Format} {n:Nat} {k:Int} (h0:n≠0) (hn:n<2^(f.fractionBits+1)) (hk:f.leastPlace<=k) (iy:(k-f.leastPlace).toNat+2<=2^f.exponentBits-1) {m0:Nat} {e0:Int} (s:Bool) (hv:(m0:Rat)*p2 e0=(n:Rat)*p2 k):∃m e,lP f (f.write (.number s m0 e0)) s m e/\m≠0/\(m:Rat)*p2 e=(n:Rat)*p2 k:=by
 obtain ⟨m,e,hc,hm,he,hq⟩:=awt h0 hn hk;have hr:=aej hc (by have:=hc.lp;omega);refine ⟨m,e,⟨hc,hr,?_⟩,hm,hq⟩;show f.nearest s m0 e0=_
 rw [aa1 hc hm s (hv.trans hq.symm),xA (by omega)]
def agI (f:Format):Can f 0 f.leastPlace:=⟨yco _,y7 _,.inr rfl⟩
def wr0 {f:Format} (s:Bool) (e0:Int) (hi:0<f.infRung):lP f (f.write (.number s 0 e0)) s 0 f.leastPlace:=by
 have hr:eX f 0 f.leastPlace=0:=by unfold eX;rw [yce];simp
 refine ⟨agI f,by rw [hr];exact hi,?_⟩
 rw [hr];show f.nearest s 0 e0=_
 unfold Format.nearest;rw [yL rfl]
def awu {f:Format} {b:Nat} (hb:b<2*f.signWeight) (pH:f.binade<=f.infRung):(∃s m e,lP f b s m e)\/(∀s m e,f.read b≠.number s m e):=by
 have jZ:=afw f;have hp:0<2^f.fractionBits:=y7 _;obtain ⟨s,r,hr,rfl⟩:∃(s:Bool) (r:Nat),r<f.signWeight/\b=f.word s r:=by
  by_cases c:b<f.signWeight
  ·exact ⟨false,b,c,by unfold Format.word;rw [yu (by decide)]⟩
  ·exact ⟨true,b-f.signWeight,by omega,by unfold Format.word;rw [yL rfl];omega⟩
 by_cases c:r<f.infRung
 ·left
  by_cases c1:r<2^f.fractionBits
  ·have e:eX f r f.leastPlace=r:=by unfold eX;rw [yce];simp
   exact ⟨s,r,f.leastPlace,⟨yco _,by rw [yU];omega,.inr rfl⟩,by rw [e];exact c,by rw [e]⟩
  ·obtain ⟨d,hd⟩:∃d,r/2^f.fractionBits=d+1:=⟨r/2^f.fractionBits-1,by have:=ycp (ybf c1) hp;omega⟩;have hm:=xv r hp;have hq:=xM r (2^f.fractionBits);rw [hd,xr,ym,xg] at hq;have e:eX f (2^f.fractionBits+r%2^f.fractionBits) (f.leastPlace+d)=r:=by
    unfold eX;rw [show (f.leastPlace+(d:Int)-f.leastPlace).toNat=d by omega];omega
   exact ⟨s,2^f.fractionBits+r%2^f.fractionBits,f.leastPlace+d,⟨by omega,by rw [yU];omega,.inl (by omega)⟩,by rw [e];exact c,by rw [e]⟩
 ·right
  intro s' m e h;unfold Format.read at h;have kO:f.word s r%f.signWeight=r:=by
   unfold Format.word
   cases s with
   | true=>rw [yL rfl,ybh,yG hr]
   | false=>rw [yu (by decide),yG hr]
  simp only [kO] at h;rw [yu (by omega),yu c] at h
  split at h<;>cases h
end
section
open Ieee
abbrev lQ (b:Nat) (s:Bool) (m:Nat) (e:Int):Prop:=lP single b s m e
def Fv:single.leastPlace= -149:=by decide
def lQ.b {b m:Nat} {s:Bool} {e:Int} (h:lQ b s m e): -149<=e/\m<16777216/\(8388608<=m\/e= -149)/\e<=104:=by
 have h1:=h.can.lp;have h2:=h.can.lt;have h3:=h.can.ge;have h4:=h.lt;rw [Fv] at h1 h3;have h4:(e-single.leastPlace).toNat*8388608+m<2139095040:=h4;rw [Fv] at h4;have h2:m<16777216:=h2;have h3:8388608<=m\/e= -149:=h3;exact ⟨h1,h2,h3,by omega⟩
def AO {n:Nat} {k:Int} (h0:n≠0) (hn:n<16777216) (hk: -149<=k) (iy:k<=104) {m0:Nat} {e0:Int} (s:Bool) (hv:(m0:Rat)*p2 e0=(n:Rat)*p2 k):∃m e,lQ (single.write (.number s m0 e0)) s m e/\m≠0/\(m:Rat)*p2 e=(n:Rat)*p2 k:=
 wr (f:=single) h0 hn (by rw [Fv];exact hk) (by rw [Fv];show _<=255;omega) s hv
def MZ (s:Bool) (e0:Int):lQ (single.write (.number s 0 e0)) s 0 (-149):=by
 have:=wr0 (f:=single) s e0 (by decide)
 rwa [Fv] at this
def agJ:single.read 1073741824= .number false 8388608 (-22):=by decide
def Wp {b m:Nat} {s:Bool} {e:Int} (h:lQ b s m e) (he:e<=103\/m=0):∃b' m' e',single.mul b 1073741824=some b'/\lQ b' s m' e'/\(m':Rat)*p2 e'=2*((m:Rat)*p2 e):=by
 obtain ⟨b1,b2,b3,b4⟩:=h.b;have hr:=h.read;unfold Format.mul;rw [hr,agJ];show ∃b' m' e',some (single.write (.number (s^^false) (m*8388608) (e+ -22)))=some b'/\_
 rw [ybo];by_cases h0:m=0
 ·subst h0;rw [wE];exact ⟨_,_,_,rfl,MZ s _,by simp⟩
 ·obtain ⟨m',e',k1,k2,k3⟩:=AO (n:=m) (k:=e+1) h0 b2 (by omega) (by omega) (m0:=m*8388608) (e0:=e+ -22) s (by
   have:((8388608:Nat):Rat)=p2 23:=(eJ 23).symm
   rw [xd,this,xB,<-du,show (23:Int)+(e+ -22)=e+1 by omega])
  exact ⟨_,m',e',rfl,k1,by rw [k3,du,oh];grind⟩
def Wq {b m:Nat} {s:Bool} {e:Int} (h:lQ b s m e) (he: -148<=e\/m%2=0):∃b' m' e',single.div b 1073741824=some b'/\lQ b' s m' e'/\2*((m':Rat)*p2 e')=(m:Rat)*p2 e:=by
 obtain ⟨b1,b2,b3,b4⟩:=h.b;have hr:=h.read;unfold Format.div;rw [hr,agJ];have hl:(8388608:Nat).log2=23:=by decide
 have e0:Datum.quotient (single.fractionBits+2) (.number s m e) (.number false 8388608 (-22))=some (.number (s^^false) (2*((m<<<(25+23-m.log2))/8388608)+((m<<<(25+23-m.log2))%8388608 !=0).toNat) (e - -22-(25+23-m.log2:Nat)-1)):=by
  show (if (8388608:Nat)=0 then (if m=0 then none else some (Datum.infinity (s^^false))) else some (Datum.number (s^^false) (2*((m<<<(25+ybC 8388608-m.log2))/8388608)+((m<<<(25+ybC 8388608-m.log2))%8388608 !=0).toNat) (e - -22-((25+ybC 8388608-m.log2:Nat):Int)-1)))=_
  rw [yu (by decide),hl]
 rw [e0,ybo];show ∃b' m' e',some (single.write (.number s _ _))=some b'/\_
 by_cases h0:m=0
 ·subst h0;simp only [Nat.zero_shiftLeft,Nat.zero_div,Nat.zero_mod,xp];exact ⟨_,_,_,rfl,MZ s _,by simp⟩
 ·have Ap:m.log2<24:=(yaE h0).2 b2;obtain ⟨t,ht⟩:∃t,25+23-m.log2=t+23:=⟨25-m.log2,by omega⟩;have iF:m<<<(t+23)=(m*2^t)*8388608:=by rw [uJ,xj,<-xb]
  rw [ht,iF,ui _ (by decide),uK];simp only [bne_self_eq_false,ybc,yZ];have aI:((2*(m*2^t):Nat):Rat)*p2 (e - -22-(t+23:Nat)-1)=(m:Rat)*p2 (e-1):=by
   have:((2:Nat):Rat)=p2 1:=(eJ 1).symm
   rw [xd,xd,<-eJ,this];have h2:p2 1*((m:Rat)*p2 t)*p2 (e - -22-(t+23:Nat)-1)=(m:Rat)*(p2 1*p2 t*p2 (e - -22-(t+23:Nat)-1)):=by grind
   rw [h2,<-du,<-du,show (1:Int)+t+(e - -22-(t+23:Nat)-1)=e-1 by omega]
  have fin:∀{m':Nat} {e':Int},(m':Rat)*p2 e'=(m:Rat)*p2 (e-1)->2*((m':Rat)*p2 e')=(m:Rat)*p2 e:=fun {m' e'} q=>by
   rw [q]
   have:p2 e=p2 1*p2 (e-1):=by rw [<-du,show 1+(e-1)=e by omega]
   rw [this,oh];grind
  by_cases c: -148<=e
  ·obtain ⟨m',e',k1,k2,k3⟩:=AO (n:=m) (k:=e-1) h0 b2 (by omega) (by omega) s aI;exact ⟨_,m',e',rfl,k1,fin k3⟩
  ·have IC:m%2=0:=by omega
   have hm:((m:Nat):Rat)=((m/2:Nat):Rat)*2:=by
    have:m=m/2*2:=by omega
    conv=>lhs;rw [this,xd]
    rfl
   have hq:(m:Rat)*p2 (e-1)=((m/2:Nat):Rat)*p2 e:=by
    have:p2 e=p2 1*p2 (e-1):=by rw [<-du,show 1+(e-1)=e by omega]
    rw [hm,this,oh];grind
   obtain ⟨m',e',k1,k2,k3⟩:=AO (n:=m/2) (k:=e) (by omega) (by omega) (by omega) (by omega) s (aI.trans hq);exact ⟨_,m',e',rfl,k1,fin (k3.trans hq.symm)⟩
def ofInt {n:Int} (h:n.natAbs<=16777216):∃m e,lQ (single.write (.number (n<0) n.natAbs 0)) (n<0) m e/\(m:Rat)*p2 e=(n.natAbs:Rat):=by
 by_cases h0:n.natAbs=0
 ·rw [h0];exact ⟨0,-149,MZ _ _,by simp⟩
 ·by_cases h1:n.natAbs<16777216
  ·obtain ⟨m,e,k1,k2,k3⟩:=AO (n:=n.natAbs) (k:=0) h0 h1 (by omega) (by omega) (m0:=n.natAbs) (e0:=0) (n<0) rfl;exact ⟨m,e,k1,by rw [k3,me,wj]⟩
  ·have h2:n.natAbs=16777216:=by omega
   obtain ⟨m,e,k1,k2,k3⟩:=AO (n:=8388608) (k:=1) (by decide) (by decide) (by omega) (by omega) (m0:=n.natAbs) (e0:=0) (n<0) (by rw [h2,me,oh];decide+kernel)
   exact ⟨m,e,k1,by rw [k3,h2,oh];decide+kernel⟩
def aql (n d:Nat) (s:Bool):Toward.zero.cut s n d=n/2^d:=by
 unfold Toward.cut;simp only [ybb,ybc,yZ];by_cases c:d<=n.log2+2
 ·rw [xA c]
 ·have h1:n<2^(n.log2+1):=ybi;rw [Nat.min_eq_right (by omega),xL (vj h1 (wL (by decide) (by omega))),xL (vj h1 (wL (by decide) (by omega)))]
def lQ.toInt {b m:Nat} {s:Bool} {e:Int} (h:lQ b s m e):(single.read b).toInt .zero=some (if s=true then -((m*2^e.toNat/2^(-e).toNat:Nat):Int) else ((m*2^e.toNat/2^(-e).toNat:Nat):Int)):=by
 rw [h.read];unfold Datum.toInt Datum.integral;simp only [aql,uJ,signed,vL,ym]
def Kq {m:Nat} {s:Bool} {e base:Int} (h:base<=e):((signed s m (e-base).toNat:Int):Rat)*p2 base=fv s m e:=by
 have:p2 e=p2 ((e-base).toNat:Nat)*p2 base:=by rw [<-du,show ((e-base).toNat:Int)+base=e by omega]
 unfold signed fv sg;rw [this,uJ,eJ]
 cases s with
 | true=>
  rw [yL rfl,yL rfl,vn]
  have:(((m*2^(e-base).toNat:Nat):Int):Rat)=(m:Rat)*((2^(e-base).toNat:Nat):Rat):=by rw [<-xd];rfl
  rw [this];grind
 | false=>
  rw [yu (by decide),yu (by decide)]
  have:(((m*2^(e-base).toNat:Nat):Int):Rat)=(m:Rat)*((2^(e-base).toNat:Nat):Rat):=by rw [<-xd];rfl
  rw [this];grind
def asw {x y m n:Nat} {s t:Bool} {e j:Int} (hx:lQ x s m e) (hy:lQ y t n j):single.order x y=some (if fv s m e<fv t n j then .lt else if fv s m e=fv t n j then .eq else .gt):=by
 unfold Format.order;rw [hx.read,hy.read];unfold Datum.order;have h1:=Kq (m:=m) (s:=s) (show min e j<=e by omega);have h2:=Kq (m:=n) (s:=t) (show min e j<=j by omega);have hp:=iU (min e j)
 dsimp only
 generalize signed s m (e-min e j).toNat=a at*
 generalize signed t n (j-min e j).toNat=b at*
 rw [<-h1,<-h2]
 congr 1
 have lt_iff:(a:Rat)*p2 (min e j)<(b:Rat)*p2 (min e j)↔a<b:=by
  constructor
  ·intro q
   have:=(wm hp).1 q
   exact_mod_cast this
  ·intro q;exact (wm hp).2 (by exact_mod_cast q)
 have eq_iff:(a:Rat)*p2 (min e j)=(b:Rat)*p2 (min e j)↔a=b:=by
  constructor
  ·intro q;rcases vU a b with c | c | c
   ·have:=lt_iff.2 c;rw [q] at this;exact absurd this (uj)
   ·exact c
   ·have:=(wm hp).2 (show (b:Rat)<a by exact_mod_cast c);rw [q] at this;exact absurd this (uj)
  ·intro q;rw [q]
 rcases vU a b with c | c | c
 ·rw [yL (lt_iff.2 c)];exact Int.compare_eq_lt.2 c
 ·rw [yu (fun q=>by have:=lt_iff.1 q;omega),yL (eq_iff.2 c)];exact Int.compare_eq_eq.2 c
 ·rw [yu (fun q=>by have:=lt_iff.1 q;omega),yu (fun q=>by have:=eq_iff.1 q;omega)];exact Int.compare_eq_gt.2 c
end
section
open Ieee
def cZ (m:Nat) (e:Int):Nat:=m*2^(e+149).toNat
structure Fl (b:Nat) (s:Bool) (M:Nat):Prop where
 ex:∃m e,lQ b s m e/\M=cZ m e
def pZ {m:Nat} {e:Int} (h: -149<=e):((cZ m e:Nat):Rat)=(m:Rat)*p2 e*p2 149:=by
 unfold cZ;rw [xd,<-eJ,xB,<-du,show ((e+149).toNat:Int)=e+149 by omega]
def awv:p2 149≠0:=K7 149
def aek {m n:Nat} {e j:Int} (h1: -149<=e) (h2: -149<=j) (h:(m:Rat)*p2 e=(n:Rat)*p2 j):cZ m e=cZ n j:=by
 have:((cZ m e:Nat):Rat)=((cZ n j:Nat):Rat):=by rw [pZ h1,pZ h2,h]
 exact_mod_cast this
def Fl.lt {b:Nat} {s:Bool} {M:Nat} (h:Fl b s M):M<2^277:=by
 obtain ⟨m,e,h1,rfl⟩:=h.ex;obtain ⟨b1,b2,b3,b4⟩:=h1.b;unfold cZ;have h3:2^(e+149).toNat<=2^253:=yR (by decide) (by omega);have h4:=xZ (vv (show m<16777215+1 from b2)) h3;exact xJ h4 (P4 16777215 24 253 277 (by decide) rfl)
def Fl.Wp {b:Nat} {s:Bool} {M:Nat} (h:Fl b s M) (hM:M<2^276):∃b',single.mul b 1073741824=some b'/\Fl b' s (2*M):=by
 obtain ⟨m,e,h1,rfl⟩:=h.ex;obtain ⟨b1,b2,b3,b4⟩:=h1.b;have he:e<=103\/m=0:=by
  by_cases c:e<=103
  ·exact .inl c
  ·exfalso
   have hm:8388608<=m:=by omega
   unfold cZ at hM;have h3:2^253<=2^(e+149).toNat:=yR (by decide) (by omega);have h4:=xZ hm h3;have h5:(2:Nat)^275<=8388608*2^253:=awr 8388608 23 253 275 (by decide) (by decide);omega
 obtain ⟨b',m',e',k1,k2,k3⟩:=VE.Wp h1 he;have XY:=k2.b.1;refine ⟨b',k1,m',e',k2,?_⟩
 have:((2*cZ m e:Nat):Rat)=((cZ m' e':Nat):Rat):=by
  rw [xd,pZ b1,pZ XY,k3];show (2:Rat)*_=_
  grind
 exact_mod_cast this
def Fl.Wq {b:Nat} {s:Bool} {M:Nat} (h:Fl b s M) (hM:M%2=0):∃b',single.div b 1073741824=some b'/\Fl b' s (M/2):=by
 obtain ⟨m,e,h1,rfl⟩:=h.ex;obtain ⟨b1,b2,b3,b4⟩:=h1.b;have he: -148<=e\/m%2=0:=by
  by_cases c: -148<=e
  ·exact .inl c
  ·have:e= -149:=by omega
   subst this;unfold cZ at hM;right
   simpa using hM
 obtain ⟨b',m',e',k1,k2,k3⟩:=VE.Wq h1 he;have XY:=k2.b.1;refine ⟨b',k1,m',e',k2,?_⟩
 have:((cZ m e:Nat):Rat)=((2*cZ m' e':Nat):Rat):=by
  rw [xd,pZ b1,pZ XY,<-k3];show _=(2:Rat)*_
  grind
 have:cZ m e=2*cZ m' e':=by exact_mod_cast this
 omega
def aZ (s:Bool) (M:Nat):Int:=if s then -(M:Int) else M
def agK {s:Bool} {m:Nat} {e:Int} (h: -149<=e):fv s m e*p2 149=((aZ s (cZ m e):Int):Rat):=by
 unfold fv sg aZ
 cases s with
 | true=>
  rw [yL rfl,yL rfl,vn]
  have:=pZ (m:=m) h
  have h2:(((cZ m e:Nat):Int):Rat)=((cZ m e:Nat):Rat):=rfl;rw [h2,this];grind
 | false=>
  rw [yu (by decide),yu (by decide)]
  have:=pZ (m:=m) h
  have h2:(((cZ m e:Nat):Int):Rat)=((cZ m e:Nat):Rat):=rfl;rw [h2,this];grind
def Fl.ord {x y:Nat} {s t:Bool} {M N:Nat} (hx:Fl x s M) (hy:Fl y t N):single.order x y=some (if aZ s M<aZ t N then .lt else if aZ s M=aZ t N then .eq else .gt):=by
 obtain ⟨m,e,h1,rfl⟩:=hx.ex;obtain ⟨n,j,h2,rfl⟩:=hy.ex;rw [asw h1 h2];have q1:=agK (s:=s) (m:=m) h1.b.1;have q2:=agK (s:=t) (m:=n) h2.b.1;have hp:=iU 149;have lt_iff:fv s m e<fv t n j↔aZ s (cZ m e)<aZ t (cZ n j):=by
  rw [<-wm hp,q1,q2];exact Rat.intCast_lt_intCast
 have eq_iff:fv s m e=fv t n j↔aZ s (cZ m e)=aZ t (cZ n j):=by
  constructor
  ·intro q;rw [q,q2] at q1;exact (Rat.intCast_inj.1 q1).symm
  ·intro q
   have:fv s m e*p2 149=fv t n j*p2 149:=by rw [q1,q2,q]
   have h3:=congrArg (·*(p2 149)⁻¹) this;simpa only [xB,Rat.mul_inv_cancel _ awv,wj] using h3
 congr 1
 by_cases c1:aZ s (cZ m e)<aZ t (cZ n j)
 ·rw [yL c1,yL (lt_iff.2 c1)]
 ·rw [yu c1,yu (fun q=>c1 (lt_iff.1 q))];by_cases c2:aZ s (cZ m e)=aZ t (cZ n j)
  ·rw [yL c2,yL (eq_iff.2 c2)]
  ·rw [yu c2,yu (fun q=>c2 (eq_iff.1 q))]
def Fl.ofInt {n:Int} (h:n.natAbs<=16777216):Fl (single.write (.number (n<0) n.natAbs 0)) (n<0) (n.natAbs*2^149):=by
 obtain ⟨m,e,k1,k2⟩:=VE.ofInt h;refine ⟨m,e,k1,?_⟩;have b1:=k1.b.1
 have:((n.natAbs*2^149:Nat):Rat)=((cZ m e:Nat):Rat):=by
  rw [pZ b1,k2,xd,<-eJ];rfl
 exact_mod_cast this
def Fl.toInt {b:Nat} {s:Bool} {M:Nat} (h:Fl b s M):(single.read b).toInt .zero=some (aZ s (M/2^149)):=by
 obtain ⟨m,e,h1,rfl⟩:=h.ex;have b1:=h1.b.1;rw [h1.toInt]
 have:m*2^e.toNat/2^(-e).toNat=cZ m e/2^149:=by
  unfold cZ;by_cases c:0<=e
  ·rw [show (-e).toNat=0 by omega,vL,Nat.div_one,show (e+149).toNat=e.toNat+149 by omega,xj,<-xb,ui _ (y7 _)]
  ·obtain ⟨d,hd⟩:∃d:Nat,e= -(d:Int):=⟨(-e).toNat,by omega⟩;have fN:(e+149).toNat+d=149:=by omega
   rw [show e.toNat=0 by omega,vL,ym,show (-e).toNat=d by omega];have hp:0<2^(e+149).toNat:=y7 _;rw [<-fN,xj,xg m,Nat.mul_div_mul_left _ _ hp]
 rw [this];unfold aZ;cases s<;>rfl
def Fl.zero:Fl 0 false 0:=⟨0,-149,⟨by rw [<-Fv];exact agI single,by decide,by decide⟩,by decide⟩
def Fl.neg {b:Nat} {s:Bool} {M:Nat} (h:Fl b s M):Fl (b^^^2147483648) (!s) M:=by
 obtain ⟨m,e,h1,rfl⟩:=h.ex;refine ⟨m,e,⟨h1.can,h1.lt,?_⟩,rfl⟩;have hr:eX single m e<2^31:=vj h1.lt (by decide);have sw:single.signWeight=2^31:=by decide
 rw [h1.eq];unfold Format.word;rw [sw];have hx:eX single m e^^^2147483648=2^31+eX single m e:=by
  rw [show (2147483648:Nat)=2^31*1 by decide,Nat.xor_comm]
  have:=Nat.two_pow_add_eq_or_of_lt hr 1
  have h2:=Nat.xor_mod_two_pow (a:=eX single m e) (b:=2^31*1) (n:=31);refine Nat.eq_of_testBit_eq fun i=>?_
  rw [Nat.testBit_xor,show 2^31+eX single m e=2^31*1+eX single m e by omega,Nat.testBit_two_pow_mul_add _ hr,Nat.testBit_two_pow_mul];by_cases c:i<31
  ·simp [c,show ¬31<=i by omega]
  ·have:Nat.testBit (eX single m e) i=false:=Nat.testBit_lt_two_pow (yE hr (yR (by decide) (by omega)))
   simp [c,this,show 31<=i by omega]
 cases s with
 | false=>rw [yu (by decide),hx];rfl
 | true=>
  rw [yL rfl]
  have:(2^31+eX single m e)^^^2147483648=eX single m e:=by rw [<-hx,Nat.xor_assoc,Nat.xor_self,Nat.xor_zero]
  rw [this];rfl
end
section
open Go (IntKind)
open Ieee
def Fl.even {b:Nat} {s:Bool} {M:Nat} (h:Fl b s M) (hM:2^173<=M):M%2=0:=by
 obtain ⟨m,e,h1,rfl⟩:=h.ex;obtain ⟨b1,b2,b3,b4⟩:=h1.b;by_cases c:e<=0
 ·exfalso
  unfold cZ at hM;have h3:2^(e+149).toNat<=2^149:=yR (by decide) (by omega);have h4:=xZ (vv (show m<16777215+1 from b2)) h3;have h5:16777215*(2:Nat)^149<2^173:=by decide
  omega
 ·obtain ⟨d,hd⟩:∃d,(e+149).toNat=d+1:=⟨(e+148).toNat,by omega⟩;unfold cZ;rw [hd,yU,<-xb,uK]
def Fl.whole {b:Nat} {s:Bool} {M:Nat} (h:Fl b s M) (hM:2^172<=M):M%2^149=0:=by
 obtain ⟨m,e,h1,rfl⟩:=h.ex;obtain ⟨b1,b2,b3,b4⟩:=h1.b;by_cases c:e<0
 ·exfalso
  unfold cZ at hM;have h3:2^(e+149).toNat<=2^148:=yR (by decide) (by omega);have h4:=xZ (vv (show m<16777215+1 from b2)) h3;have h5:16777215*(2:Nat)^148<2^172:=by decide
  omega
 ·obtain ⟨d,hd⟩:∃d,(e+149).toNat=d+149:=⟨e.toNat,by omega⟩;unfold cZ;rw [hd,xj,<-xb,uK]
def P5 {b:Nat} {s:Bool} {M:Nat} (h:Fl b s M) (hM:M<2^276):∃b',binOp .mul (.aw .f32 b) (.aw .f32 1073741824)=some (.aw .f32 b')/\Fl b' s (2*M):=by
 obtain ⟨b',k1,k2⟩:=h.Wp hM;refine ⟨b',?_,k2⟩;show (match single.mul b 1073741824 with | some b=>some (AV.aw .f32 b) | none=>none)=_
 rw [k1]
def P6 {b:Nat} {s:Bool} {M:Nat} (h:Fl b s M) (hM:M%2=0):∃b',binOp .quo (.aw .f32 b) (.aw .f32 1073741824)=some (.aw .f32 b')/\Fl b' s (M/2):=by
 obtain ⟨b',k1,k2⟩:=h.Wq hM;refine ⟨b',?_,k2⟩;show (match single.div b 1073741824 with | some b=>some (AV.aw .f32 b) | none=>none)=_
 rw [k1]
section
variable {x y M N:Nat} {s t:Bool} (hx:Fl x s M) (hy:Fl y t N)
include hx hy
theorem K8:binOp .lss (.aw .f32 x) (.aw .f32 y)=some (.bool (decide (aZ s M<aZ t N))):=by
 show some (AV.bool (single.order x y==some .lt))=_
 rw [hx.ord hy];by_cases c:aZ s M<aZ t N
 ·rw [yL c,y5 c];rfl
 ·rw [yu c,yF c];split<;>rfl
theorem ayq:binOp .gtr (.aw .f32 x) (.aw .f32 y)=some (.bool (decide (aZ t N<aZ s M))):=by
 show some (AV.bool (single.order x y==some .gt))=_
 rw [hx.ord hy];by_cases c:aZ s M<aZ t N
 ·rw [yL c,yF (by omega)];rfl
 ·rw [yu c];by_cases d:aZ s M=aZ t N
  ·rw [yL d,yF (by omega)];rfl
  ·rw [yu d,y5 (by omega)];rfl
theorem agL:binOp .geq (.aw .f32 x) (.aw .f32 y)=some (.bool (decide (aZ t N<=aZ s M))):=by
 show some (AV.bool (single.order x y==some .gt||single.order x y==some .eq))=_
 rw [hx.ord hy];by_cases c:aZ s M<aZ t N
 ·rw [yL c,yF (by omega)];rfl
 ·rw [yu c,y5 (by omega)];split<;>rfl
theorem K9:binOp .neq (.aw .f32 x) (.aw .f32 y)=some (.bool (!decide (aZ s M=aZ t N))):=by
 show some (AV.bool (single.order x y !=some .eq))=_
 rw [hx.ord hy];by_cases c:aZ s M<aZ t N
 ·rw [yL c,yF (by omega)];rfl
 ·rw [yu c];by_cases d:aZ s M=aZ t N
  ·rw [yL d,y5 d];rfl
  ·rw [yu d,yF d];rfl
end
def G8 (b:Nat):unOp .neg (.aw .f32 b)=some (.aw .f32 (b^^^2147483648)):=rfl
def ayr {b:Nat} {s:Bool} {M:Nat} (h:Fl b s M):∃a,max2 (.aw .f32 b) (.aw .f32 (b^^^2147483648))=some (.aw .f32 a)/\Fl a false M:=by
 have hn:=h.neg;have ho:=h.ord hn
 have e:max2 (.aw .f32 b) (.aw .f32 (b^^^2147483648))=(match single.order b (b^^^2147483648) with
  | none=>none
  | some .lt=>some (.aw .f32 (b^^^2147483648))
  | some .gt=>some (.aw .f32 b)
  | some .eq=>some (.aw .f32 (if (single.read b).neg then (b^^^2147483648) else b))):=rfl
 rw [e,ho];obtain ⟨m,j,h1,hM⟩:=h.ex;have hr:(single.read b).neg=s:=by rw [h1.read];rfl
 cases s with
 | true=>
  by_cases c:aZ true M<aZ (!true) M
  ·rw [yL c];exact ⟨_,rfl,hn⟩
  ·have:aZ true M=aZ (!true) M:=by
    unfold aZ at c ⊢;simp at c ⊢;omega
   rw [yu c,yL this]
   dsimp only
   rw [hr,yL rfl];exact ⟨_,rfl,hn⟩
 | false=>
  have c:¬aZ false M<aZ (!false) M:=by
   show ¬(M:Int)< -(M:Int)
   omega
  rw [yu c];by_cases d:aZ false M=aZ (!false) M
  ·rw [yL d]
   dsimp only
   rw [hr,yu (by decide)];exact ⟨_,rfl,h⟩
  ·rw [yu d];exact ⟨_,rfl,h⟩
def Kr {b:Nat} {s:Bool} {M:Nat} (h:Fl b s M) (hM:M<2^200):gj (.toInt .i64) (.aw .f32 b)=some (.int .i64 (aZ s (M/2^149))):=by
 have e:gj (.toInt .i64) (.aw .f32 b)=(match (single.read b).toInt .zero with
  | some n=>if IntKind.min .i64<=n/\n<=IntKind.max .i64 then some (.int .i64 n) else none
  | none=>none):=rfl
 rw [e,h.toInt];have h1:M/2^149<2^51:=by rw [xx (y7 _),<-xj];exact hM
 generalize M/2^149=n at h1
 have:IntKind.min .i64<=aZ s n/\aZ s n<=IntKind.max .i64:=by
  rw [show IntKind.min .i64= -9223372036854775808 from rfl,show IntKind.max .i64=9223372036854775807 from rfl];unfold aZ
  split<;>omega
 exact yL this
def PF {n:Int} (h:n.natAbs<=16777216):∃b,gj (.toFlt .f32) (.int .i64 n)=some (.aw .f32 b)/\Fl b (n<0) (n.natAbs*2^149):=
 ⟨_,rfl,Fl.ofInt h⟩
def agM:Fl 1266679808 false (2^173):=⟨8388608,1,⟨⟨by decide,by decide,.inl (by decide)⟩,by decide,by decide⟩,by decide⟩
end
def aoi (p s:Nat):p*(s%1000000000)+p*1000000000*(s/1000000000)=p*s:=by
 rw [xb,<-xr,vI]
def FZ {l:List Int} {i:Nat} (h:l.length<=i):l.getD i 0=0:=by simp_all
def aqm {a b out:List Int} {i c:Nat} {x y:Int} (hx:x=a.getD i 0) (hy:y=b.getD i 0) (h1:0<=x) (h2:0<=y) (hl:out.length=i) (hv:dv out+1000000000^i*c=dv (a.take i)+dv (b.take i)):
  dv (out++[(((x.toNat+y.toNat+c)%1000000000:Nat):Int)])+1000000000^(i+1)*((x.toNat+y.toNat+c)/1000000000)=dv (a.take (i+1))+dv (b.take (i+1)):=by
 rw [nO,nO,kT,hl,<-hx,<-hy];simp only [dv,wv,xp,yZ,yU]
 have:=aoi (1000000000^i) (x.toNat+y.toNat+c)
 grind
section
variable {P:aM} {L:Lib}
def aww (mf:Has P L 302 qD) {v w:AV} {a b:List Int} (hv:bw v a) (hw:bw w b) (ha:dg a) (hb:dg b) {N:Nat} (la:a.length<=N) (lb:b.length<=N) (lN:N<=20000000000):
  ∀k s,(∃(i c:Nat) (out:List Int),2*(N-i)+c=k/\out.length=i/\c<=1/\dg out/\dv out+1000000000^i*c=dv (a.take i)+dv (b.take i)/\i<=N+1/\(i<=N\/c=0)/\
    ((i=0/\aP [0,1,5,6,7] s=⟨[(0,v),(1,w),(5,.ae),(6,ab c),(7,ab i)],[],0,0⟩)\/
    (0<i/\aP [0,1,5,6,7] s=⟨[(0,v),(1,w),(5,.aD 0 0 i),(6,ab c),(7,ab i)],[(0,.cells true true false 1 (out.map ab))],1,0⟩)))->
   ∃ex s',D P L (.loop [0,1,5,6,7] nT) s=some (ex,s')/\∃tm out,ex= .exit 0/\dg out/\dv out=dv a+dv b/\out.length<=N+1/\((out=[]/\aj tm 5= .ae/\s'=⟨tm,[],0,0⟩)\/(0<out.length/\aj tm 5= .aD 0 0 out.length/\s'=⟨tm,[(0,.cells true true false 1 (out.map ab))],1,0⟩)):=by
 intro dq sq;generalize bq:aP [0,1,5,6,7] sq=s0;revert bq s0 sq dq;apply dt;rintro k s ⟨i,c,out,hk,hlen,hc,j8,aI,hi,D4,hs⟩;have e1:=VY mf hv i;have e2:=VY mf hw i;unfold ai at e1 e2;have ga:=gC ha i;have gb:=gC hb i;by_cases rb:i<a.length\/i<b.length\/0<c
 ·left
  obtain ⟨x,hx⟩:∃x,x=a.getD i 0:=⟨_,rfl⟩;obtain ⟨y,hy⟩:∃y,y=b.getD i 0:=⟨_,rfl⟩;rw [<-hx] at e1 ga;rw [<-hy] at e2 gb;have jM:=aqm (c:=c) hx hy ga.1 gb.1 hlen aI;obtain ⟨s0,sE⟩:∃s0,s0=x.toNat+y.toNat+c:=⟨_,rfl⟩;rw [<-sE] at jM;have Ah:x+y+(c:Int)=(s0:Int):=by omega
  have hs9:s0<2000000000:=by omega
  have hr:((s0:Nat):Int).tmod 1000000000=((s0%1000000000:Nat):Int):=by rw [xD (by omega)];rfl
  have hq:((s0:Nat):Int).tdiv 1000000000=((s0/1000000000:Nat):Int):=by rw [xE (by omega)];rfl
  have mr:s0/1000000000<=1:=by omega
  have ays:2*(N-(i+1))+s0/1000000000<k:=by
   by_cases hm:i<N
   ·omega
   ·have:c=1:=by omega
    have sP:x=0:=by rw [hx];exact FZ (by omega)
    have gA:y=0:=by rw [hy];exact FZ (by omega)
    subst sP;subst gA
    have:s0=1:=by rw [sE,this];rfl
    subst this;omega
  have pv:dg (out++[((s0%1000000000:Nat):Int)]):=gg.2 ⟨j8,jF.2 (by omega)⟩;have Qz:(out++[((s0%1000000000:Nat):Int)]).length=i+1:=by simp [hlen]
  have az7:i+1<=N\/s0/1000000000=0:=by
   by_cases hm:i<N
   ·exact .inl hm
   ·right
    have:c=1:=by omega
    have sP:x=0:=by rw [hx];exact FZ (by omega)
    have gA:y=0:=by rw [hy];exact FZ (by omega)
    subst sP;subst gA
    have:s0=1:=by rw [sE,this];rfl
    subst this;rfl
  have fin:∃s',D P L nT s=some (.normal,s')/\aP [0,1,5,6,7] s'=⟨[(0,v),(1,w),(5,.aD 0 0 (i+1)),(6,ab (s0/1000000000:Nat)),(7,ab (i+1:Nat))],[(0,.cells true true false 1 ((out++[((s0%1000000000:Nat):Int)]).map ab))],1,0⟩:=by
   have three:((i:Int)<a.length)\/(¬(i:Int)<a.length/\(i:Int)<b.length)\/(¬(i:Int)<a.length/\¬(i:Int)<b.length/\(0:Int)<c):=by omega
   rcases three with t1 | ⟨t1,t2⟩ | ⟨t1,t2,t3⟩
   ·rcases hs with ⟨h0,rfl⟩ | ⟨h0,rfl⟩
    ·subst h0;have ir:out=[]:=yD hlen;subst ir
     simp only [go_sem,ya,yd,xQ,yO,yC,ym,nT,hv.len,hv.an,hw.an,t1,e1,e2,wrap64 (n:=x+y) (by omega) (by omega),Ah,wrap64 (n:=(s0:Int)) (by omega) (by omega),fo _ _ _ (show (1000000000:Int)≠0 by decide),eI _ _ _ (show (1000000000:Int)≠0 by decide),hr,hq,wrap64 (n:=((s0/1000000000:Nat):Int)) (by omega) (by omega),kU];refine ⟨_,rfl,?_⟩;rw [wrap64 (by omega) (by omega)];simp only [go_sem,ya,yd,aC,aR hv.pu,bc _ hv.pu,aR hw.pu,bc _ hw.pu]<;>rfl
    ·simp only [go_sem,ya,yd,yC,ym,nT,hv.len,hv.an,hw.an,t1,e1,e2,wrap64 (n:=x+y) (by omega) (by omega),Ah,wrap64 (n:=(s0:Int)) (by omega) (by omega),fo _ _ _ (show (1000000000:Int)≠0 by decide),hr]
     rw [kw (ex:=false) (pu:=true) (cs:=out.map ab) (by simp only [go_sem,ya]) (by rw [xy,hlen,ym]) (by omega) (by omega) (by decide) (by simp only [go_sem])]
     simp only [go_sem,ya,yd,eI _ _ _ (show (1000000000:Int)≠0 by decide),hq,wrap64 (n:=((s0/1000000000:Nat):Int)) (by omega) (by omega)];refine ⟨_,rfl,?_⟩;rw [wrap64 (by omega) (by omega),xH];simp only [go_sem,ya,yd,aC,aR hv.pu,bc _ hv.pu,aR hw.pu,bc _ hw.pu]<;>rfl
   ·rcases hs with ⟨h0,rfl⟩ | ⟨h0,rfl⟩
    ·subst h0;have ir:out=[]:=yD hlen;subst ir
     simp only [go_sem,ya,yd,xQ,yO,yC,ym,nT,hv.len,hv.an,hw.len,hw.an,t1,t2,e1,e2,wrap64 (n:=x+y) (by omega) (by omega),Ah,wrap64 (n:=(s0:Int)) (by omega) (by omega),fo _ _ _ (show (1000000000:Int)≠0 by decide),eI _ _ _ (show (1000000000:Int)≠0 by decide),hr,hq,wrap64 (n:=((s0/1000000000:Nat):Int)) (by omega) (by omega),kU];refine ⟨_,rfl,?_⟩;rw [wrap64 (by omega) (by omega)];simp only [go_sem,ya,yd,aC,aR hv.pu,bc _ hv.pu,aR hw.pu,bc _ hw.pu]<;>rfl
    ·simp only [go_sem,ya,yd,yC,ym,nT,hv.len,hv.an,hw.len,hw.an,t1,t2,e1,e2,wrap64 (n:=x+y) (by omega) (by omega),Ah,wrap64 (n:=(s0:Int)) (by omega) (by omega),fo _ _ _ (show (1000000000:Int)≠0 by decide),hr]
     rw [kw (ex:=false) (pu:=true) (cs:=out.map ab) (by simp only [go_sem,ya]) (by rw [xy,hlen,ym]) (by omega) (by omega) (by decide) (by simp only [go_sem])]
     simp only [go_sem,ya,yd,eI _ _ _ (show (1000000000:Int)≠0 by decide),hq,wrap64 (n:=((s0/1000000000:Nat):Int)) (by omega) (by omega)];refine ⟨_,rfl,?_⟩;rw [wrap64 (by omega) (by omega),xH];simp only [go_sem,ya,yd,aC,aR hv.pu,bc _ hv.pu,aR hw.pu,bc _ hw.pu]<;>rfl
   ·rcases hs with ⟨h0,rfl⟩ | ⟨h0,rfl⟩
    ·subst h0;have ir:out=[]:=yD hlen;subst ir
     simp only [go_sem,ya,yd,xQ,yO,yC,ym,nT,hv.len,hv.an,hw.len,hw.an,t1,t2,t3,e1,e2,wrap64 (n:=x+y) (by omega) (by omega),Ah,wrap64 (n:=(s0:Int)) (by omega) (by omega),fo _ _ _ (show (1000000000:Int)≠0 by decide),eI _ _ _ (show (1000000000:Int)≠0 by decide),hr,hq,wrap64 (n:=((s0/1000000000:Nat):Int)) (by omega) (by omega),kU];refine ⟨_,rfl,?_⟩;rw [wrap64 (by omega) (by omega)];simp only [go_sem,ya,yd,aC,aR hv.pu,bc _ hv.pu,aR hw.pu,bc _ hw.pu]<;>rfl
    ·simp only [go_sem,ya,yd,yC,ym,nT,hv.len,hv.an,hw.len,hw.an,t1,t2,t3,e1,e2,wrap64 (n:=x+y) (by omega) (by omega),Ah,wrap64 (n:=(s0:Int)) (by omega) (by omega),fo _ _ _ (show (1000000000:Int)≠0 by decide),hr]
     rw [kw (ex:=false) (pu:=true) (cs:=out.map ab) (by simp only [go_sem,ya]) (by rw [xy,hlen,ym]) (by omega) (by omega) (by decide) (by simp only [go_sem])]
     simp only [go_sem,ya,yd,eI _ _ _ (show (1000000000:Int)≠0 by decide),hq,wrap64 (n:=((s0/1000000000:Nat):Int)) (by omega) (by omega)];refine ⟨_,rfl,?_⟩;rw [wrap64 (by omega) (by omega),xH];simp only [go_sem,ya,yd,aC,aR hv.pu,bc _ hv.pu,aR hw.pu,bc _ hw.pu]<;>rfl
  obtain ⟨s',f1,f2⟩:=fin;exact ⟨s',_,f1,ays,i+1,s0/1000000000,_,rfl,Qz,mr,pv,jM,by omega,az7,.inr ⟨by omega,f2⟩⟩
 ·right
  have jV:c=0:=by omega
  subst jV;rw [xp,yZ,yQ (by omega),yQ (by omega)] at aI;rcases hs with ⟨h0,rfl⟩ | ⟨h0,rfl⟩
  ·simp only [go_sem,ya,nT,hv.len,hw.len,show ¬(i:Int)<a.length by omega,show ¬(i:Int)<b.length by omega,show ¬(0:Int)<((0:Nat):Int) by omega];exact ⟨_,_,rfl,by simp,_,out,rfl,j8,aI,by omega,.inl ⟨yD (by omega),by simp only [go_sem,ya],rfl⟩⟩
  ·simp only [go_sem,ya,nT,hv.len,hw.len,show ¬(i:Int)<a.length by omega,show ¬(i:Int)<b.length by omega,show ¬(0:Int)<((0:Nat):Int) by omega];exact ⟨_,_,rfl,by simp,_,out,rfl,j8,aI,by omega,.inr ⟨by omega,by rw [hlen];simp only [go_sem,ya],rfl⟩⟩
def az8 (h:Has P L 295 HB) (mf:Has P L 302 qD) {v w:AV} {a b:List Int} (hv:bw v a) (hw:bw w b) (ha:dg a) (hb:dg b) (la:a.length<=20000000000) (lb:b.length<=20000000000):
  ∃r out,ai P L 295 [v,w] r/\bw (shut r) out/\dg out/\dv out=dv a+dv b/\out.length<=max a.length b.length+1:=by
 have iq:∃out,ai P L 295 [v,w] (if out=[] then .ae else .bI false 1 out.length (out.map ab))/\dg out/\dv out=dv a+dv b/\out.length<=max a.length b.length+1:=by
  unfold ai;rw [aG h];simp only [go_sem,HB];generalize hq:D P L (.loop [0,1,5,6,7] nT) _=q;obtain ⟨ex,s,rfl,tm,out,rfl,hd,aI,hl,hs⟩:=cr hq (aww (P:=P) (L:=L) mf hv hw ha hb (N:=max a.length b.length) (by omega) (by omega) (by omega) (2*(max a.length b.length))) ⟨0,0,[],by omega,rfl,by omega,rfl,by simp [dv],by omega,.inr rfl,.inl ⟨rfl,by simp only [go_sem,ya,aC,aR hv.pu,bc _ hv.pu,aR hw.pu,bc _ hw.pu]<;>rfl⟩⟩
  refine ⟨out,?_,hd,aI,hl⟩;rcases hs with ⟨h0,h5,rfl⟩ | ⟨h0,h5,rfl⟩
  ·rw [yL h0];simp only [go_sem,aC,h5]
  ·rw [yu (by intro e;subst e;simp at h0)];simp only [go_sem,yd,aC,h5];exact Za (Pc _ _ _) (by simp) (by decide)
 obtain ⟨out,g1,g2,g3,g4⟩:=iq;refine ⟨_,out,g1,?_,g2,g3,g4⟩
 split
 ·rename_i e;subst e;exact zn
 ·exact mD false out
def Wr (h:Has P L 296 qC) {v w:AV} {a b:List Int} (hv:bw v a) (hw:bw w b) (ha:dg a) (hb:dg b) (na:nz a) (nb:nz b) (la:a.length<=20000000000) (lb:b.length<=20000000000):
  ai P L 296 [v,w] (ab (dF (dv a) (dv b))):=by
 unfold ai;rw [aG h];by_cases hlen:a.length=b.length
 ·have key:=nG (P:=P) (L:=L) (live:=[0,1,5]) (a:=Bn)
   (I:=fun k st=>∃j:Nat,st=⟨[(0,v),(1,w),(5,ab ((j:Int)-1))],[],0,0⟩/\j<=a.length/\j=k/\a.drop j=b.drop j)
   (Q:=fun ex st=>∃tm ct,st=⟨tm,[],ct,0⟩/\((ex= .ret/\aj tm 4=ab (dF (dv a) (dv b)))\/(ex= .exit 0/\a=b))) ?_
  ·simp only [go_sem,ya,qC,hv.len,hw.len,show (a.length:Int)=b.length by omega];generalize hq:D P L (.loop [0,1,5] Bn) _=q;obtain ⟨ex,st,rfl,tm,ct,rfl,h2⟩:=cr hq (key a.length) ⟨a.length,by
    rw [wrap64 (by omega) (by omega)];rw [hlen]
    simp only [go_sem,ya,aC,aR hv.pu,bc _ hv.pu,aR hw.pu,bc _ hw.pu]<;>rfl,yA _,rfl,by rw [xu (yA _),xu (by omega)]⟩
   rcases h2 with ⟨rfl,h2⟩ | ⟨rfl,h2⟩
   ·simp only [go_sem,h2]
   ·simp only [go_sem,aC];subst h2;simp [dF]
  ·rintro k st ⟨j,rfl,hj,rfl,he⟩
   cases j with
   | zero=>
    right
    simp only [go_sem,ya,Bn,show ¬(0:Int)<=((0:Nat):Int)-1 by omega];exact ⟨_,_,rfl,by simp,_,_,rfl,.inr ⟨rfl,by simpa using he⟩⟩
   | succ i=>
    have h1:i<a.length:=by omega
    have h2:i<b.length:=by omega
    have Eb:=ad5 ha hb h1 h2 he;have aF:=ad5 hb ha h2 h1 he.symm;by_cases c1:a[i]<b[i]
    ·right
     simp only [go_sem,ya,Bn,show ((i+1:Nat):Int)-1=(i:Int) by omega,show (0:Int)<=(i:Int) by omega,hv.cB h1,hw.cB h2,c1];refine ⟨_,_,rfl,by simp,_,_,rfl,.inl ⟨rfl,?_⟩⟩;simp only [go_sem];unfold dF;rw [yL (Eb c1)]
    ·by_cases c2:b[i]<a[i]
     ·right
      simp only [go_sem,ya,Bn,show ((i+1:Nat):Int)-1=(i:Int) by omega,show (0:Int)<=(i:Int) by omega,hv.cB h1,hw.cB h2,c1,c2];refine ⟨_,_,rfl,by simp,_,_,rfl,.inl ⟨rfl,?_⟩⟩;simp only [go_sem];unfold dF;rw [yu (by omega),yL (by omega)]
     ·left
      simp only [go_sem,ya,Bn,show ((i+1:Nat):Int)-1=(i:Int) by omega,show (0:Int)<=(i:Int) by omega,hv.cB h1,hw.cB h2,c1,c2];refine ⟨_,i,rfl,by omega,i,?_,by omega,rfl,?_⟩
      ·rw [wrap64 (by omega) (by omega)];simp only [go_sem,ya,aC,aR hv.pu,bc _ hv.pu,aR hw.pu,bc _ hw.pu]<;>rfl
      ·rw [y8 h1,y8 h2,he,show a[i]=b[i] by omega]
 ·by_cases c1:a.length<b.length
  ·have:=PR ha nb hb c1
   simp only [go_sem,ya,qC,hv.len,hw.len,show ¬(a.length:Int)=b.length by omega,show (a.length:Int)<b.length by omega];unfold dF;rw [yL this]
  ·have:=PR hb na ha (show b.length<a.length by omega)
   simp only [go_sem,ya,qC,hv.len,hw.len,show ¬(a.length:Int)=b.length by omega,show ¬(a.length:Int)<b.length by omega];unfold dF;rw [yu (by omega),yL this]
def aqn {a b out:List Int} {i c:Nat} {x y z:Int} {c':Nat} (hx:x=a.getD i 0) (hy:y=b.getD i 0) (h1:0<=x) (h2:0<=y) (h3:0<=z) (hz:z=x-y-c+1000000000*c') (hl:out.length=i) (hv:dv out+dv (b.take i)=dv (a.take i)+1000000000^i*c):
  dv (out++[z])+dv (b.take (i+1))=dv (a.take (i+1))+1000000000^(i+1)*c':=by
 rw [nO,nO,kT,hl,<-hx,<-hy];simp only [dv,xp,yZ,yU];have e:z.toNat+y.toNat+c=x.toNat+1000000000*c':=by omega
 grind
def awx (mf:Has P L 302 qD) {v w:AV} {a b:List Int} (hv:bw v a) (hw:bw w b) (ha:dg a) (hb:dg b) (la:a.length<=20000000000) (hle:dv b<=dv a) (Cw:b.length<=a.length):
  ∀k s,(∃(i c:Nat) (out:List Int),i+k=a.length/\out.length=i/\c<=1/\dg out/\dv out+dv (b.take i)=dv (a.take i)+1000000000^i*c/\
    ((i=0/\aP [0,1,5,6,7] s=⟨[(0,v),(1,w),(5,.ae),(6,ab c),(7,ab i)],[],0,0⟩)\/
    (0<i/\aP [0,1,5,6,7] s=⟨[(0,v),(1,w),(5,.aD 0 0 i),(6,ab c),(7,ab i)],[(0,.cells true true false 1 (out.map ab))],1,0⟩)))->
   ∃ex s',D P L (.loop [0,1,5,6,7] p8) s=some (ex,s')/\∃tm out,ex= .exit 0/\dg out/\dv out+dv b=dv a/\out.length<=20000000000/\((out=[]/\aj tm 5= .ae/\s'=⟨tm,[],0,0⟩)\/(0<out.length/\aj tm 5= .aD 0 0 out.length/\s'=⟨tm,[(0,.cells true true false 1 (out.map ab))],1,0⟩)):=by
 intro dq sq;generalize bq:aP [0,1,5,6,7] sq=s0;revert bq s0 sq dq;apply dt;rintro k s ⟨i,c,out,hk,hlen,hc,j8,aI,hs⟩;have e2:=VY mf hw i;unfold ai at e2;have ga:=gC ha i;have gb:=gC hb i;by_cases rb:i<a.length
 ·left
  obtain ⟨x,hx⟩:∃x,x=a.getD i 0:=⟨_,rfl⟩;obtain ⟨y,hy⟩:∃y,y=b.getD i 0:=⟨_,rfl⟩;have rq:a[i]=x:=by rw [hx];simp [xF,wA rb]
  have e1:=hv.cB rb;rw [rq] at e1;rw [<-hx] at ga;rw [<-hy] at e2 gb;obtain ⟨z,c',hz,mr,lM,kQ,BE⟩:∃(z:Int) (c':Nat),z=x-y-c+1000000000*c'/\c'<=1/\0<=z/\z<1000000000/\((x-y-c<0/\c'=1)\/(¬x-y-c<0/\c'=0)):=by
   by_cases h:x-y-c<0
   ·exact ⟨x-y-c+1000000000,1,by omega,by omega,by omega,by omega,.inl ⟨h,rfl⟩⟩
   ·exact ⟨x-y-c,0,by omega,by omega,by omega,by omega,.inr ⟨h,rfl⟩⟩
  have jM:=aqn hx hy ga.1 gb.1 lM hz hlen aI;have pv:dg (out++[z]):=gg.2 ⟨j8,jF.2 ⟨lM,kQ⟩⟩;have Qz:(out++[z]).length=i+1:=by simp [hlen]
  have fin:∃s',D P L p8 s=some (.normal,s')/\aP [0,1,5,6,7] s'=⟨[(0,v),(1,w),(5,.aD 0 0 (i+1)),(6,ab c'),(7,ab (i+1:Nat))],[(0,.cells true true false 1 ((out++[z]).map ab))],1,0⟩:=by
   rcases BE with ⟨eQ,rfl⟩ | ⟨eQ,rfl⟩
   ·have gX:x-y-c+1000000000=z:=by omega
    rcases hs with ⟨h0,rfl⟩ | ⟨h0,rfl⟩
    ·subst h0;have ir:out=[]:=yD hlen;subst ir
     simp only [go_sem,ya,yd,xQ,yO,yC,ym,p8,hv.len,hw.an,show ((0:Nat):Int)<a.length by omega,e1,e2,wrap64 (n:=x-y) (by omega) (by omega),wrap64 (n:=x-y-(c:Int)) (by omega) (by omega),eQ,gX,wrap64 (n:=z) (by omega) (by omega),kU];refine ⟨_,rfl,?_⟩;rw [wrap64 (by omega) (by omega)];simp only [go_sem,ya,yd,aC,aR hv.pu,bc _ hv.pu,aR hw.pu,bc _ hw.pu]<;>rfl
    ·simp only [go_sem,ya,yd,yC,ym,p8,hv.len,hw.an,show (i:Int)<a.length by omega,e1,e2,wrap64 (n:=x-y) (by omega) (by omega),wrap64 (n:=x-y-(c:Int)) (by omega) (by omega),eQ,gX,wrap64 (n:=z) (by omega) (by omega)]
     rw [kw (ex:=false) (pu:=true) (cs:=out.map ab) (by simp only [go_sem,ya]) (by rw [xy,hlen,ym]) (by omega) (by omega) (by decide) (by simp only [go_sem])];simp only [go_sem,ya,yd];refine ⟨_,rfl,?_⟩;rw [wrap64 (by omega) (by omega),xH];simp only [go_sem,ya,yd,aC,aR hv.pu,bc _ hv.pu,aR hw.pu,bc _ hw.pu]<;>rfl
   ·have gX:x-y-c=z:=by omega
    have eQ:¬z<0:=by omega
    rcases hs with ⟨h0,rfl⟩ | ⟨h0,rfl⟩
    ·subst h0;have ir:out=[]:=yD hlen;subst ir
     simp only [go_sem,ya,yd,xQ,yO,yC,ym,p8,hv.len,hw.an,show ((0:Nat):Int)<a.length by omega,e1,e2,wrap64 (n:=x-y) (by omega) (by omega),gX,wrap64 (n:=z) (by omega) (by omega),eQ,kU];refine ⟨_,rfl,?_⟩;rw [wrap64 (by omega) (by omega)];simp only [go_sem,ya,yd,aC,aR hv.pu,bc _ hv.pu,aR hw.pu,bc _ hw.pu]<;>rfl
    ·simp only [go_sem,ya,yd,yC,ym,p8,hv.len,hw.an,show (i:Int)<a.length by omega,e1,e2,wrap64 (n:=x-y) (by omega) (by omega),gX,wrap64 (n:=z) (by omega) (by omega),eQ]
     rw [kw (ex:=false) (pu:=true) (cs:=out.map ab) (by simp only [go_sem,ya]) (by rw [xy,hlen,ym]) (by omega) (by omega) (by decide) (by simp only [go_sem])];simp only [go_sem,ya,yd];refine ⟨_,rfl,?_⟩;rw [wrap64 (by omega) (by omega),xH];simp only [go_sem,ya,yd,aC,aR hv.pu,bc _ hv.pu,aR hw.pu,bc _ hw.pu]<;>rfl
  obtain ⟨s',f1,f2⟩:=fin;exact ⟨s',k-1,f1,by omega,i+1,c',_,by omega,Qz,mr,pv,jM,.inr ⟨by omega,f2⟩⟩
 ·right
  have agN:dv out+dv b=dv a:=by
   rw [yQ (by omega),yQ (by omega)] at aI;have aF:=iX j8;rw [hlen] at aF;rcases (show c=0\/c=1 by omega) with rfl | rfl
   ·omega
   ·omega
  rcases hs with ⟨h0,rfl⟩ | ⟨h0,rfl⟩
  ·simp only [go_sem,ya,p8,hv.len,show ¬(i:Int)<a.length by omega];exact ⟨_,_,rfl,by simp,_,out,rfl,j8,agN,by omega,.inl ⟨yD (by omega),by simp only [go_sem,ya],rfl⟩⟩
  ·simp only [go_sem,ya,p8,hv.len,show ¬(i:Int)<a.length by omega];exact ⟨_,_,rfl,by simp,_,out,rfl,j8,agN,by omega,.inr ⟨by omega,by rw [hlen];simp only [go_sem,ya],rfl⟩⟩
def aiY (h:Has P L 297 HC) (mf:Has P L 302 qD) (cD:Has P L 300 kK) {v w:AV} {a b:List Int} (hv:bw v a) (hw:bw w b) (ha:dg a) (hb:dg b) (na:nz a) (nb:nz b) (la:a.length<=20000000000) (hle:dv b<=dv a):
  ∃r out,ai P L 297 [v,w] r/\bw r out/\shut r=r/\dg out/\nz out/\dv out+dv b=dv a:=by
 have Cw:b.length<=a.length:=by
  by_cases h:a.length<b.length
  ·have:=PR ha nb hb h;omega
  ·omega
 unfold ai;rw [aG h];simp only [go_sem,HC];generalize hq:D P L (.loop [0,1,5,6,7] p8) _=q;obtain ⟨ex,s,rfl,tm,out,rfl,hd,aI,hl,hs⟩:=cr hq (awx (P:=P) (L:=L) mf hv hw ha hb la hle Cw a.length) ⟨0,0,[],by omega,rfl,by omega,rfl,by simp [dv],.inl ⟨rfl,by simp only [go_sem,ya,aC,aR hv.pu,bc _ hv.pu,aR hw.pu,bc _ hw.pu]<;>rfl⟩⟩
 have nh:=mD false out;rcases hs with ⟨h0,h5,rfl⟩ | ⟨h0,h5,rfl⟩
 ·subst h0;obtain ⟨r,e1,hr,iF⟩:=Ad cD (v:= .ae) (l:=[]) zn (by simp);refine ⟨r,dH [],?_,hr,iF,rfl,rfl,by rw [rE];exact aI⟩
  simp only [go_sem,aC,h5,e1,iF,hr.dj]
 ·obtain ⟨r,e1,hr,iF⟩:=Ad cD nh hl;refine ⟨r,dH out,?_,hr,iF,zi hd,CQ out,by rw [rE];exact aI⟩
  have iE:∀hp:Hp,kM 0 out.length (some (false,1,out.map ab,hp))=some (.aB false out.length (out.map ab),hp):=fun hp=>rF false (by simp) (by decide)
  simp only [go_sem,yd,aC,h5,iE,e1,iF,hr.dj]
end
def AP {hp:Hp} {ct id o:Nat} {v:Int} {ex:Bool} {l:List Int} (h:o<l.length):jY hp ct id o 1 [.int .i64 v] (some (.cells true true ex 1 (l.map ab)))=some (.aa [],bi hp id (.cells true true ex 1 ((l.set o v).map ab)),ct):=by
 rw [KZ (by rfl) (by simp;omega) (by rfl)]
 have:over o [AV.int .i64 v] (l.map ab)=(l.set o v).map ab:=by
  simp only [over,yM,yV,yh];rw [List.map_set,List.set_eq_take_append_cons_drop,yL (by simpa using h)]
  simp
 rw [this];rfl
def qt {l:List Int} {o:Nat} (h:o<l.length):vY o (l.map ab)=AV.int .i64 (l.getD o 0)::vY (o+1) (l.map ab):=by
 rw [y8 (by simpa using h)]
 grind
def ph {v:AV} {l:List Int} (hv:bw v l) {i:Nat} (h:i<l.length):lj 1 i v=some (.cg (.int .i64 (l.getD i 0)::(l.map ab).drop (i+1))):=by
 rw [hv.cB h]
 grind
def aqo {o x y c:Int} (ho:0<=o/\o<1000000000) (hx:0<=x/\x<1000000000) (hy:0<=y/\y<1000000000) (hc:0<=c/\c<1000000000):
  (0<=x*y/\x*y<=999999998000000001)/\0<=o+x*y+c/\o+x*y+c<1000000000000000000:=by
 have h1:=tr hx.1 hy.1;have h2:=ybD (show x<=999999999 by omega) (show y<=999999999 by omega) hy.1 (by decide);omega
section
variable {P:aM} {L:Lib}
def awy {v w:AV} {a b:List Int} (hv:bw v a) (hw:bw w b) (ha:dg a) (hb:dg b) (la:a.length<=20000000000) (lb:b.length<=20000000000) {n i:Nat} (hn:n=a.length+b.length) (hi:i<a.length) {out0:List Int}:
  ∀k s,(∃(j:Nat) (c:Int) (out:List Int),aP [0,1,5,6,7,8] s=⟨[(0,v),(1,w),(5,.aD 0 0 n),(6,ab i),(7,ab c),(8,ab j)],[(0,.cells true true true 1 (out.map ab))],1,0⟩/\j+k=b.length/\out.length=n/\dg out/\(0<=c/\c<1000000000)/\
    dv out+1000000000^i*1000000000^j*c.toNat=dv out0+1000000000^i*((a.getD i 0).toNat*dv (b.take j))/\(∀m,i+b.length<=m->out.getD m 0=out0.getD m 0))->
   ∃ex s',D P L (.loop [0,1,5,6,7,8] GF) s=some (ex,s')/\∃tm c out,s'=⟨tm,[(0,.cells true true true 1 (out.map ab))],1,0⟩/\ex= .exit 2/\aj tm 0=v/\aj tm 1=w/\aj tm 5= .aD 0 0 n/\aj tm 6=ab i/\aj tm 7=ab c/\out.length=n/\dg out/\(0<=c/\c<1000000000)/\
    dv out+1000000000^i*1000000000^b.length*c.toNat=dv out0+1000000000^i*((a.getD i 0).toNat*dv b)/\(∀m,i+b.length<=m->out.getD m 0=out0.getD m 0):=by
 intro dq sq;generalize bq:aP [0,1,5,6,7,8] sq=s0;revert bq s0 sq dq;apply dt;rintro k s ⟨j,c,out,rfl,hk,hlen,hd,hc,aI,fA⟩;by_cases hj:j<b.length
 ·left
  obtain ⟨x,hx⟩:∃x,x=a.getD i 0:=⟨_,rfl⟩;obtain ⟨y,hy⟩:∃y,y=b.getD j 0:=⟨_,rfl⟩;obtain ⟨o,ho⟩:∃o,o=out.getD (i+j) 0:=⟨_,rfl⟩;have gx:=gC ha i;have gy:=gC hb j;have mu:=gC hd (i+j);rw [<-hx] at gx;rw [<-hy] at gy;rw [<-ho] at mu;obtain ⟨p1,p2,p3⟩:=aqo mu gx gy hc;obtain ⟨t,ht⟩:∃t:Nat,o+x*y+c=t:=⟨(o+x*y+c).toNat,by omega⟩;have hr:((t:Nat):Int).tmod 1000000000=((t%1000000000:Nat):Int):=by rw [xD (by omega)];rfl
  have hq:((t:Nat):Int).tdiv 1000000000=((t/1000000000:Nat):Int):=by rw [xE (by omega)];rfl
  have e1:=ph hv hi;have e2:=ph hw hj;rw [<-hx] at e1;rw [<-hy] at e2;have e3:=qt (l:=out) (o:=i+j) (by omega);rw [<-ho] at e3;have sK:t=o.toNat+x.toNat*y.toNat+c.toNat:=by
   have:((x.toNat*y.toNat:Nat):Int)=x*y:=by rw [wY,yaJ gx.1,yaJ gy.1]
   omega
  have bi:=PS (l:=out) (j:=i+j) (x:=((t%1000000000:Nat):Int)) (by omega);rw [<-ho,wv,xj] at bi;have jM:=ape (Y:=dv (b.take j)) sK bi (by rw [hx];exact aI)
  simp only [go_sem,ya,ym,GF,hw.len,show (j:Int)<b.length by omega,wrapN (n:=i+j) (by omega),show (i:Int)+(j:Int)=((i+j:Nat):Int) from rfl,cS 0 0 (show i+j<n by omega),yh,e3,e1,e2,wrap64 (n:=x*y) (by omega) (by omega),wrap64 (n:=o+x*y) (by omega) (by omega),ht,wrapN (n:=t) (by omega),fo _ _ _ (show (1000000000:Int)≠0 by decide),eI _ _ _ (show (1000000000:Int)≠0 by decide),hr,hq,wrapN (n:=t/1000000000) (by omega),AP (l:=out) (o:=i+j) (by omega)];refine ⟨_,k-1,rfl,by omega,j+1,((t/1000000000:Nat):Int),out.set (i+j) ((t%1000000000:Nat):Int),?_,by omega,by simp [hlen],Ky hd (by omega),by omega,?_,fun m hm=>?_⟩
  ·rw [wrap64 (by omega) (by omega)];simp only [go_sem,ya,yd,aC,aR hv.pu,bc _ hv.pu,aR hw.pu,bc _ hw.pu]<;>rfl
  ·rw [wv,nO,yU,<-hx,<-hy];exact jM
  ·rw [aaG (by omega)];exact fA m hm
 ·right
  have:j=b.length:=by omega
  subst this;rw [xG] at aI;simp only [go_sem,ya,GF,hw.len,show ¬(b.length:Int)<b.length by omega];exact ⟨_,_,rfl,by simp,_,c,out,rfl,rfl,by simp only [go_sem,ya],by simp only [go_sem,ya],by simp only [go_sem,ya],by simp only [go_sem,ya],by simp only [go_sem,ya],hlen,hd,hc,aI,fA⟩
end
def Oz (n:Nat):(yK n [AV.int .i64 0]).flatten=(yK n (0:Int)).map ab:=by simp_all
def asx (b:Bool):HU true (some b)=some (.bool (!b)):=by cases b<;>rfl
def Zl (n m:Nat):(yK n (0:Int)).getD m 0=0:=by grind
section
variable {P:aM} {L:Lib}
def awz {v w:AV} {a b:List Int} (hv:bw v a) (hw:bw w b) (ha:dg a) (hb:dg b) (la:a.length<=20000000000) (lb:b.length<=20000000000) {n:Nat} (hn:n=a.length+b.length):
  ∀k s,(∃(i:Nat) (out:List Int),aP [0,1,5,6] s=⟨[(0,v),(1,w),(5,.aD 0 0 n),(6,ab i)],[(0,.cells true true true 1 (out.map ab))],1,0⟩/\i+k=a.length/\out.length=n/\dg out/\dv out=dv (a.take i)*dv b/\(∀m,i+b.length<=m->out.getD m 0=0))->
   ∃ex s',D P L (.loop [0,1,5,6] GG) s=some (ex,s')/\∃tm out,s'=⟨tm,[(0,.cells true true true 1 (out.map ab))],1,0⟩/\ex= .exit 0/\aj tm 5= .aD 0 0 n/\out.length=n/\dg out/\dv out=dv a*dv b:=by
 intro dq sq;generalize bq:aP [0,1,5,6] sq=s0;revert bq s0 sq dq;apply dt;rintro k s ⟨i,out,rfl,hk,hlen,hd,aI,fA⟩;by_cases hi:i<a.length
 ·left
  simp only [go_sem,ya,GG,hv.len,show (i:Int)<a.length by omega];generalize hq:D P L (.loop [0,1,5,6,7,8] GF) _=q;obtain ⟨ex,s,rfl,tm,c,qH,rfl,rfl,t0,t1,t5,t6,t7,Qw,jy,hc,Qx,HX⟩:=cr hq (awy (P:=P) (L:=L) hv hw ha hb la lb hn hi (out0:=out) b.length) ⟨0,0,out,by simp only [go_sem,ya,yd,aC,aR hv.pu,bc _ hv.pu,aR hw.pu,bc _ hw.pu]<;>rfl,by omega,hlen,hd,by omega,by simp [dv],fun m _=>rfl⟩
  have hz:qH.getD (i+b.length) 0=0:=by rw [HX _ (yA _),fA _ (yA _)]
  have e3:=qt (l:=qH) (o:=i+b.length) (by omega);rw [hz] at e3;have bi:=PS (l:=qH) (j:=i+b.length) (x:=c) (by omega);rw [hz,xj] at bi
  simp only [go_sem,ya,ym,aC,t0,t1,t5,t6,t7,hw.len,aR hv.pu,bc _ hv.pu,aR hw.pu,bc _ hw.pu,wrapN (n:=i+b.length) (by omega),show (i:Int)+(b.length:Int)=((i+b.length:Nat):Int) from rfl,cS 0 0 (show i+b.length<n by omega),yh,e3,Int.zero_add,wrap64 (n:=c) (by omega) (by omega),AP (l:=qH) (o:=i+b.length) (by omega)];refine ⟨_,k-1,rfl,by omega,i+1,qH.set (i+b.length) c,?_,by omega,by simp [Qw],Ky jy hc,?_,fun m hm=>?_⟩
  ·rw [wrap64 (by omega) (by omega)];simp only [go_sem,ya,yd,aC,aR hv.pu,bc _ hv.pu,aR hw.pu,bc _ hw.pu]<;>rfl
  ·rw [nO,xU,<-aI,xb];simp only [Int.toNat_zero,xp,yZ] at bi;rw [bi];exact Qx
  ·rw [aaG (by omega),HX m (by omega),fA m (by omega)]
 ·right
  have:i=a.length:=by omega
  subst this;rw [xG] at aI;simp only [go_sem,ya,GG,hv.len,show ¬(a.length:Int)<a.length by omega];exact ⟨_,_,rfl,by simp,_,out,rfl,rfl,by simp only [go_sem,ya],hlen,hd,aI⟩
def Ws (h:Has P L 293 zV) (cD:Has P L 300 kK) {v w:AV} {a b:List Int} (hv:bw v a) (hw:bw w b) (ha:dg a) (hb:dg b) (la:a.length<=8000000000) (lb:b.length<=8000000000):
  ∃r out,ai P L 293 [v,w] r/\bw r out/\shut r=r/\dg out/\nz out/\dv out=dv a*dv b:=by
 obtain ⟨n,hn⟩:∃n,n=a.length+b.length:=⟨_,rfl⟩;have cz:∀ct:Nat,Ab ct 1 8 [.int .i64 0] (some n) (some n)=some (.aD ct 0 n,.cells true true true 1 ((yK n (0:Int)).map ab)):=fun ct=>by
  rw [KB (sz:=1) (by omega) (by omega) (by rfl) (by rfl),Oz];rfl
 unfold ai;rw [aG h]
 simp only [go_sem,ya,yd,zV,hv.len,hw.len,wrapN (n:=n) (by omega),show (a.length:Int)+(b.length:Int)=((a.length+b.length:Nat):Int) from rfl,<-hn,cz];generalize hq:D P L (.loop [0,1,5,6] GG) _=q;obtain ⟨ex,s,rfl,tm,out,rfl,rfl,t5,hlen,hd,aI⟩:=cr hq (awz (P:=P) (L:=L) hv hw ha hb (by omega) (by omega) hn a.length) ⟨0,yK n 0,by simp only [go_sem,ya,yd,aC,aR hv.pu,bc _ hv.pu,aR hw.pu,bc _ hw.pu]<;>rfl,by omega,by simp,aaI n,by rw [aaH];simp [dv],fun m _=>Zl n m⟩
 have nh:=mD true out;rw [hlen] at nh;obtain ⟨r,e1,hr,iF⟩:=Ad cD nh (by omega);refine ⟨r,dH out,?_,hr,iF,zi hd,CQ out,by rw [rE];exact aI⟩
 have iE:∀hp:Hp,kM 0 n (some (true,1,out.map ab,hp))=some (.aB true n (out.map ab),hp):=fun hp=>rF true (by simp [hlen]) (by decide)
 simp only [go_sem,yd,aC,t5,iE,e1,iF,hr.dj]
def H9 (h:Has P L 278 LH) (jR:Has P L 293 zV) (gT:Has P L 294 zW) (cD:Has P L 300 kK) {v w:AV} {n m:Int} {K:Nat} (hK:K<=8000000000) (hv:je v n) (hw:je w m) (hn:n.natAbs<1000000000^K) (hm:m.natAbs<1000000000^K):
  ∃r,ai P L 278 [v,w] r/\je r (n*m):=by
 obtain ⟨x,a,rfl,hx,ha,na,va⟩:=hv;obtain ⟨y,b,rfl,hy,hb,nb,vb⟩:=hw;have la:=xe (iM ha na (by rw [va];exact hn)) hK
 have lb:=xe (iM hb nb (by rw [vb];exact hm)) hK
 obtain ⟨z,out,e1,hz,iF,hd,AH,aI⟩:=Ws jR cD hx hy ha hb la lb;have lo:out.length<=20000000000:=by
  refine iM hd AH ?_;rw [aI];have h1:=iX ha;have h2:=iX hb;have h3:dv a*dv b<1000000000^a.length*1000000000^b.length:=tz h1 h2;rw [<-xj] at h3;have hk:∀K,a.length+b.length<=K->dv a*dv b<1000000000^K:=fun K h=>yE h3 (yR (by decide) h)
  exact hk 20000000000 (by omega)
 obtain ⟨r,e2,hr⟩:=pq gT cD (!(decide (n<0)==decide (m<0))) hz hd lo;have e:cp (!(decide (n<0)==decide (m<0))) (dv out)=n*m:=by
  rw [aI,va,vb];have hnm:((n.natAbs*m.natAbs:Nat):Int)=(n.natAbs:Int)*m.natAbs:=wY _ _;unfold cp;by_cases h0:n<0<;>by_cases h1:m<0<;>simp only [h0,h1,yq,yv,yam,yN,yB,xk,hnm]
  ·rw [show (n.natAbs:Int)= -n by omega,show (m.natAbs:Int)= -m by omega,Int.neg_mul_neg]
  ·rw [show (true==false)=false from rfl,yS,yL rfl,show (n.natAbs:Int)= -n by omega,show (m.natAbs:Int)=m by omega,Int.neg_mul,tW]
  ·rw [show (false==true)=false from rfl,yS,yL rfl,show (n.natAbs:Int)=n by omega,show (m.natAbs:Int)= -m by omega,Int.mul_neg,tW]
  ·rw [show (n.natAbs:Int)=n by omega,show (m.natAbs:Int)=m by omega]
 rw [e] at hr;obtain ⟨w2,l2,rfl,fY,fN,jc,so⟩:=hr;refine ⟨_,?_,w2,l2,rfl,fY,fN,jc,so⟩;unfold ai at e1 e2 ⊢;rw [aG h];simp only [go_sem,ya,yd,LH,bf,hx.pu,hx.an,hx.one,hy.pu,hy.an,hy.one,hz.an,hz.shut,fY.pu,fY.one,bQ,yh,cO,e1,nZ,asx,e2,fD,bF];rcases fY with ⟨rfl,_⟩ | ⟨e,rfl⟩<;>rfl
end
def asy (i:Nat) (q:List Int) (x:Int):(yK (i+1) (0:Int)++q).set i x=yK i 0++x::q:=by
 rw [List.replicate_succ',xt,List.set_append_right _ _ (by simp)]
 simp
section
variable {P:aM} {L:Lib}
def awA {v:AV} {a:List Int} (hv:bw v a) (ha:dg a) (la:a.length<=20000000000) {d:Nat} (h0:0<d) (h1:d<1000000000):
  ∀k s,(∃(j r:Nat) (q:List Int),aP [0,1,6,7,8] s=⟨[(0,v),(1,ab d),(6,.aD 0 0 a.length),(7,ab r),(8,ab ((j:Int)-1))],[(0,.cells true true true 1 ((yK j (0:Int)++q).map ab))],1,0⟩/\j=k/\j+q.length=a.length/\r<d/\dg q/\dv (a.drop j)=d*dv q+r)->
   ∃ex s',D P L (.loop [0,1,6,7,8] GH) s=some (ex,s')/\∃tm r q,s'=⟨tm,[(0,.cells true true true 1 (q.map ab))],1,0⟩/\ex= .exit 0/\aj tm 6= .aD 0 0 a.length/\aj tm 7=ab (r:Nat)/\q.length=a.length/\r<d/\dg q/\dv a=d*dv q+r:=by
 intro dq sq;generalize bq:aP [0,1,6,7,8] sq=s0;revert bq s0 sq dq;apply dt;rintro k s ⟨j,r,q,rfl,rfl,hl,hr,hd,aI⟩
 cases j with
 | zero=>
  right
  simp only [go_sem,ya,GH,show ¬(0:Int)<=((0:Nat):Int)-1 by omega];exact ⟨_,_,rfl,by simp,_,r,q,rfl,rfl,by simp only [go_sem,ya],by simp only [go_sem,ya],by omega,hr,hd,aI⟩
 | succ i=>
  left
  have hi:i<a.length:=by omega
  obtain ⟨x,hx⟩:∃x,x=a.getD i 0:=⟨_,rfl⟩;have e1:=ph hv hi;have gx:=gC ha i;rw [<-hx] at e1 gx;obtain ⟨t,ht⟩:∃t:Nat,t=r*1000000000+x.toNat:=⟨_,rfl⟩;have sK:(r:Int)*1000000000+x=(t:Int):=by omega
  have jC:t<d*1000000000:=by
   omega
  have fk:t/d<1000000000:=(xx h0).2 (by rw [xg];exact jC)
  have dO:t%d<d:=xv _ h0;have e2:((t:Nat):Int).tdiv d=((t/d:Nat):Int):=by rw [xE (by omega)];rfl
  have e3:((t:Nat):Int).tmod d=((t%d:Nat):Int):=by rw [xD (by omega)];rfl
  have IS:(yK (i+1) (0:Int)++q).length=a.length:=by simp;omega
  have aT:=fun (hp:Hp) (ct id:Nat) (ex:Bool)=>AP (hp:=hp) (ct:=ct) (id:=id) (ex:=ex) (v:=((t/d:Nat):Int)) (l:=yK (i+1) (0:Int)++q) (o:=i) (by rw [IS];exact hi)
  simp only [asy] at aT
  simp only [go_sem,ya,ym,GH,show ((i+1:Nat):Int)-1=(i:Int) by omega,show (0:Int)<=(i:Int) by omega,wrap64 (n:=(r:Int)*1000000000) (by omega) (by omega),e1,sK,wrapN (n:=t) (by omega),eI _ _ _ (show (d:Int)≠0 by omega),fo _ _ _ (show (d:Int)≠0 by omega),e2,e3,wrapN (n:=t/d) (by omega),cS 0 0 (show i<a.length from hi),yh,aT]
  refine ⟨_,i,rfl,by omega,i,t%d,((t/d:Nat):Int)::q,?_,rfl,by simp;omega,dO,(gg (a:=[((t/d:Nat):Int)]) (b:=q)).2 ⟨jF.2 ⟨tZ _,uX.2 fk⟩,hd⟩,?_⟩
  ·rw [wrap64 (by omega) (by omega)];simp only [go_sem,ya,yd,aC,aR hv.pu,bc _ hv.pu]<;>rfl
  ·have gM:a.drop i=x::a.drop (i+1):=by
    rw [y8 hi,hx];simp [xF,wA hi]
   rw [gM];simp only [dv,aI,wv];have e:=xM t d;rw [xr,xr d,Nat.mul_left_comm 1000000000 d];omega
def aiZ (h:Has P L 299 zX) (cD:Has P L 300 kK) {v:AV} {a:List Int} (hv:bw v a) (ha:dg a) (la:a.length<=20000000000) {d:Nat} (h0:0<d) (h1:d<1000000000):
  ∃r q,ai P L 299 [v,ab d] (.aa [r,ab (dv a%d:Nat)])/\bw r q/\shut r=r/\b9 r=r/\dg q/\nz q/\dv q=dv a/d:=by
 obtain ⟨n,hn⟩:∃n,n=a.length:=⟨_,rfl⟩;have cz:∀ct:Nat,Ab ct 1 8 [.int .i64 0] (some n) (some n)=some (.aD ct 0 n,.cells true true true 1 ((yK n (0:Int)).map ab)):=fun ct=>by
  rw [KB (sz:=1) (by omega) (by omega) (by rfl) (by rfl),Oz];rfl
 unfold ai;rw [aG h];simp only [go_sem,ya,yd,zX,hv.len,<-hn,cz];generalize hq:D P L (.loop [0,1,6,7,8] GH) _=q;obtain ⟨ex,s,rfl,tm,r,qs,rfl,rfl,t6,t7,hlen,hr,hd,aI⟩:=cr hq (awA (P:=P) (L:=L) hv ha la h0 h1 a.length) ⟨a.length,0,[],by
  rw [wrap64 (by omega) (by omega),xV,<-hn]
  simp only [go_sem,ya,yd,aC,aR hv.pu,bc _ hv.pu]<;>rfl,rfl,by simp,h0,rfl,by rw [xu (yA _)];simp [dv]⟩
 have nh:=mD true qs;rw [hlen] at nh;obtain ⟨w,e1,hw,iF⟩:=Ad cD nh (by omega);have eB:dv a/d=dv qs/\dv a%d=r:=(Nat.div_mod_unique h0).2 ⟨by omega,hr⟩;refine ⟨w,dH qs,?_,hw,iF,hw.b9,zi hd,CQ qs,by rw [rE,eB.1]⟩;have iE:∀hp:Hp,kM 0 a.length (some (true,1,qs.map ab,hp))=some (.aB true a.length (qs.map ab),hp):=fun hp=>rF true (by simp [hlen]) (by decide)
 rw [eB.2];simp only [go_sem,ya,yd,aC,t6,t7,iE,e1,iF];rcases hw with ⟨rfl,_⟩ | ⟨e,rfl⟩<;>rfl
def az9 (h:Has P L 279 Dp) (Wt:Has P L 295 HB) (mY:Has P L 296 qC) (M0:Has P L 297 HC) (mf:Has P L 302 qD) (gT:Has P L 294 zW) (cD:Has P L 300 kK) {v w:AV} {n m:Int} {K:Nat} (hK:K<=8000000000) (hv:je v n) (hw:je w m) (hn:n.natAbs<1000000000^K) (hm:m.natAbs<1000000000^K):
  ∃r,ai P L 279 [v,w] r/\je r (n+m):=by
 obtain ⟨x,a,rfl,hx,ha,na,va⟩:=hv;obtain ⟨y,b,rfl,hy,hb,nb,vb⟩:=hw;have la:=xe (iM ha na (by rw [va];exact hn)) hK
 have lb:=xe (iM hb nb (by rw [vb];exact hm)) hK
 by_cases hs:(decide (n<0)==decide (m<0))=true
 ·obtain ⟨z,out,e1,hz,hd,aI,hl⟩:=az8 Wt mf hx hy ha hb (by omega) (by omega);have lo:out.length<=20000000000:=by omega
  obtain ⟨r,e2,hr⟩:=pq gT cD (decide (n<0)) hz hd lo;have e:cp (decide (n<0)) (dv out)=n+m:=by
   have nD:(n<0)=(m<0):=by simpa using eq_of_beq hs
   rw [aI,va,vb];unfold cp;by_cases h0:n<0
   ·have h1:m<0:=nD▸h0;simp only [h0,yq,xR];omega
   ·have h1:¬m<0:=nD▸h0;simp only [h0,yv,yB,xk];omega
  rw [e] at hr;obtain ⟨w2,l2,rfl,fY,fN,jc,so⟩:=hr;refine ⟨_,?_,w2,l2,rfl,fY,fN,jc,so⟩;unfold ai at e1 e2 ⊢;rw [aG h];simp only [go_sem,ya,yd,Dp,bf,hx.pu,hx.an,hx.one,hy.pu,hy.an,hy.one,hz.an,fY.pu,fY.one,bQ,yh,cO,e1,nZ,dR,hs,e2,fD,bF];rcases fY with ⟨rfl,_⟩ | ⟨e,rfl⟩<;>rfl
 ·have hs:(decide (n<0)==decide (m<0))=false:=by simpa using hs
  have nD:¬((n<0)=(m<0)):=fun e=>by simp [e] at hs
  have ec:=Wr mY hx hy ha hb na nb (by omega) (by omega);by_cases hc:dv a<dv b
  ·have dU:dF (dv a) (dv b)= -1:=by unfold dF;rw [yL hc]
   rw [dU] at ec;obtain ⟨z,out,e1,hz,iF,hd,AH,aI⟩:=aiY M0 mf cD hy hx hb ha nb na (by omega) (by omega);have lo:out.length<=20000000000:=by
    refine iM hd AH ?_
    have:=iX hb
    have hk:∀K,b.length<=K->dv out<1000000000^K:=fun K h=>yE (show dv out<1000000000^b.length by omega) (yR (by decide) h)
    exact hk 20000000000 (by omega)
   obtain ⟨r,e2,hr⟩:=pq gT cD (decide (m<0)) hz hd lo;have e:cp (decide (m<0)) (dv out)=n+m:=by
    rw [va,vb] at aI;unfold cp;by_cases h0:m<0
    ·have h1:¬n<0:=fun h1=>nD (by simp [h0,h1])
     simp only [h0,yq,xR];omega
    ·have h1:n<0:=by
      by_cases h1:n<0
      ·exact h1
      ·exact absurd (by simp [h0,h1]) nD
     simp only [h0,yv,yB,xk];omega
   rw [e] at hr;obtain ⟨w2,l2,rfl,fY,fN,jc,so⟩:=hr;refine ⟨_,?_,w2,l2,rfl,fY,fN,jc,so⟩;unfold ai at e1 e2 ec ⊢;rw [aG h];simp only [go_sem,ya,yd,Dp,bf,hx.pu,hx.an,hx.one,hy.pu,hy.an,hy.one,hz.an,hz.shut,fY.pu,fY.one,bQ,yh,cO,e1,nZ,dR,hs,ec,show ¬(0:Int)<=-1 by decide,e2,fD,bF];rcases fY with ⟨rfl,_⟩ | ⟨e,rfl⟩<;>rfl
  ·have dU:(0:Int)<=dF (dv a) (dv b):=by unfold dF;rw [yu hc];split<;>decide
   obtain ⟨z,out,e1,hz,iF,hd,AH,aI⟩:=aiY M0 mf cD hx hy ha hb na nb (by omega) (by omega);have lo:out.length<=20000000000:=by
    refine iM hd AH ?_
    have:=iX ha
    have hk:∀K,a.length<=K->dv out<1000000000^K:=fun K h=>yE (show dv out<1000000000^a.length by omega) (yR (by decide) h)
    exact hk 20000000000 (by omega)
   obtain ⟨r,e2,hr⟩:=pq gT cD (decide (n<0)) hz hd lo;have e:cp (decide (n<0)) (dv out)=n+m:=by
    rw [va,vb] at aI;unfold cp;by_cases h0:n<0
    ·have h1:¬m<0:=fun h1=>nD (by simp [h0,h1])
     simp only [h0,yq,xR];omega
    ·have h1:m<0:=by
      by_cases h1:m<0
      ·exact h1
      ·exact absurd (by simp [h0,h1]) nD
     simp only [h0,yv,yB,xk];omega
   rw [e] at hr;obtain ⟨w2,l2,rfl,fY,fN,jc,so⟩:=hr;refine ⟨_,?_,w2,l2,rfl,fY,fN,jc,so⟩;unfold ai at e1 e2 ec ⊢;rw [aG h];simp only [go_sem,ya,yd,Dp,bf,hx.pu,hx.an,hx.one,hy.pu,hy.an,hy.one,hz.an,hz.shut,fY.pu,fY.one,bQ,yh,cO,e1,nZ,dR,hs,ec,dU,e2,fD,bF];rcases fY with ⟨rfl,_⟩ | ⟨e,rfl⟩<;>rfl
def ael {l:List Int} (hd:dg l) (hn:nz l) (h:dv l<1000000000):l.length<=1:=iM hd hn (by simpa using h)
def aAa (h:Has P L 289 qB) (mY:Has P L 296 qC) (ol:Has P L 299 zX) (cD:Has P L 300 kK) {v w:AV} {a b:List Int} (hv:bw v a) (hw:bw w b) (ha:dg a) (hb:dg b) (na:nz a) (nb:nz b) (la:a.length<=20000000000) (lb:b.length<=1) (h0:0<dv b):
  ∃q r lq lr,ai P L 289 [v,w] (.aa [q,r])/\bw q lq/\bw r lr/\dg lq/\nz lq/\dg lr/\nz lr/\dv lq=dv a/dv b/\dv lr=dv a%dv b:=by
 have ec:=Wr mY hv hw ha hb na nb la (by omega);by_cases hc:dv a<dv b
 ·have dU:dF (dv a) (dv b)= -1:=by unfold dF;rw [yL hc]
  rw [dU] at ec;refine ⟨.ae,v,[],a,?_,zn,hv,rfl,rfl,ha,na,?_,?_⟩
  ·unfold ai;rw [aG h];simp only [go_sem,ya,qB,hv.an,hw.an,ec,show (-1:Int)<0 by decide];rcases hv with ⟨rfl,_⟩ | ⟨e,rfl⟩<;>rfl
  ·rw [xL hc];rfl
  ·rw [yG hc]
 ·have dU:¬dF (dv a) (dv b)<0:=by unfold dF;rw [yu hc];split<;>decide
  have mi:b.length=1:=by
   rcases xh b.length with e | e
   ·rw [yD e] at h0;simp [dv] at h0
   ·omega
  obtain ⟨x,rfl⟩:∃x,b=[x]:=by
   cases b with
   | nil=>simp at mi
   | cons x r=>cases r with
    | nil=>exact ⟨x,rfl⟩
    | cons y r=>simp at mi
  have gx:=jF.1 hb;obtain ⟨d,hd⟩:∃d:Nat,x=d:=⟨x.toNat,by omega⟩;subst hd;have hdd:dv [((d:Nat):Int)]=d:=by simp [dv]
  rw [hdd] at h0 hc dU ec ⊢;obtain ⟨q,lq,e1,hq,hqs,aAb,dq,nq,vq⟩:=aiZ ol cD hv ha la h0 (by omega);have agF:dv a%d<d:=xv _ h0;generalize dv a%d=m at*
  obtain ⟨r,e2,hr,W6⟩:=Ad cD (mD true [(m:Int)]) (by simp);refine ⟨q,r,lq,dH [(m:Int)],?_,hq,hr,dq,nq,zi (jF.2 (by omega)),CQ _,vq,by rw [rE];simp [dv]⟩;have e3:=hw.cB (i:=0) (by simp);simp only [yM,yV,yh,xm,vW,uP] at e2 e3;unfold ai;rw [aG h];simp only [go_sem,ya,yd,yO,yC,ym,qB,hv.an,hw.len,hw.an,ec,dU,yM,yV,show ((1:Nat):Int)=(1:Int) from rfl,yq,e3,e1,aAb,e2,W6];rcases hq with ⟨rfl,_⟩ | ⟨e,rfl⟩<;>rcases hr with ⟨rfl,_⟩ | ⟨e',rfl⟩<;>rfl
end
def sv:List Int->Int
 | []=>0
 | a::r=>a+1000000000*sv r
def Z9:∀(a b:List Int),sv (a++b)=sv a+1000000000^a.length*sv b
 | [],b=>by simp [sv]
 | x::a,b=>by
  simp only [xi,sv,Z9 a b,yM,tH,ycq]
  grind
def awB (x:Int):sv [x]=x:=by simp [sv]
def C5:∀{l:List Int} {i:Nat} {x:Int},i<l.length->sv (l.set i x)=sv l+1000000000^i*(x-l.getD i 0)
 | [],i,x,h=>by simp at h
 | a::l,0,x,_=>by simp [sv];omega
 | a::l,i+1,x,h=>by
  have ih:=C5 (l:=l) (i:=i) (x:=x) (by simpa using h);simp only [List.set_cons_succ,sv,List.getD_cons_succ,ih,tH,ycq]
  grind
def Ks {l:List Int} (i:Nat):sv (l.take (i+1))=sv (l.take i)+1000000000^i*l.getD i 0:=by
 by_cases h:i<l.length
 ·rw [List.take_succ_eq_append_getElem h,Z9,yW,xA (by omega),awB]
  grind
 ·rw [yQ (by omega),yQ (by omega),FZ (by omega),Int.mul_zero,ycb]
def rX:∀{l:List Int},dg l->sv l=dv l
 | [],_=>rfl
 | a::l,h=>by
  obtain ⟨h1,h2⟩:=gg.1 (show dg ([a]++l) from h);have h1:=jF.1 h1;simp only [sv,dv,rX h2,ybn,wY];omega
section
variable {pre x post:List Int} {i:Nat}
def mL:(pre++x++post).length=pre.length+x.length+post.length:=by grind
def zG (h:i<x.length):(pre++x++post).getD (pre.length+i) 0=x.getD i 0:=by grind
def KG (a:Int) (h:i<x.length):(pre++x++post).set (pre.length+i) a=pre++x.set i a++post:=by simp_all
end
def afx {l:List Int} {i m:Nat} {x:Int} (h:i≠m):(l.set i x).getD m 0=l.getD m 0:=by simp_all
def aoj {l:List Int} {i:Nat} {x:Int} (h:i<l.length):(l.set i x).getD i 0=x:=by simp_all
abbrev H3 (q u:List Int) (f:Int):Hp:=[(2,.cells true true true 1 (q.map ab)),(1,.cells true true false 1 (u.map ab)),(0,.cells false true true 1 [ab f])]
def J7 {live:List Nat} {tm:Env} {ct:Nat} {a b c:List AV} (ht:pg 3 (dJ tm live)) (hl:(iO (dJ tm live)).length<100000):
  aP live ⟨tm,[(2,.cells true true true 1 a),(1,.cells true true false 1 b),(0,.cells false true true 1 c)],ct,3⟩=⟨dJ tm live,[(2,.cells true true true 1 a),(1,.cells true true false 1 b),(0,.cells false true true 1 c)],3,3⟩:=
 YH ht ⟨by omega,.inl rfl,by omega,.inl rfl,by omega,.inl rfl,trivial⟩ (by
  have:iI 3 [(2,Obj.cells true true true 1 a),(1,Obj.cells true true false 1 b),(0,Obj.cells false true true 1 c)]=[]:=rfl
  rw [this,yV,yZ];exact hl)
structure fF (x vs:List Int) (n v1 v2 u0 u1 u2:Nat):Prop where
 n2:2<=n
 nb:n<=20000000000
 lx:x.length=n+1
 lv:vs.length=n
 gx:dg x
 gv:dg vs
 eG:vs.getD (n-1) 0=(v1:Int)
 cI:vs.getD (n-2) 0=(v2:Int)
 h0:x.getD n 0=(u0:Int)
 h1:x.getD (n-1) 0=(u1:Int)
 h2:x.getD (n-2) 0=(u2:Int)
 pos:0<v1
 lt:dv x<1000000000*dv vs
section
variable {x vs:List Int} {n v1 v2 u0 u1 u2:Nat}
def fF.IU (h:fF x vs n v1 v2 u0 u1 u2):v1<1000000000:=by have:=gC h.gv (n-1);rw [h.eG] at this;omega
def fF.Cp (h:fF x vs n v1 v2 u0 u1 u2):v2<1000000000:=by have:=gC h.gv (n-2);rw [h.cI] at this;omega
def fF.u0W (h:fF x vs n v1 v2 u0 u1 u2):u0<1000000000:=by have:=gC h.gx n;rw [h.h0] at this;omega
def fF.IV (h:fF x vs n v1 v2 u0 u1 u2):u1<1000000000:=by have:=gC h.gx (n-1);rw [h.h1] at this;omega
def fF.IW (h:fF x vs n v1 v2 u0 u1 u2):u2<1000000000:=by have:=gC h.gx (n-2);rw [h.h2] at this;omega
def fF.parts (h:fF x vs n v1 v2 u0 u1 u2):∃p vr ur,dv vs=(v1*1000000000+v2)*p+vr/\vr<p/\dv x=((u0*1000000000+u1)*1000000000+u2)*p+ur/\ur<p:=by
 obtain ⟨m,hm⟩:∃m,n=m+2:=⟨n-2,by have:=h.n2;omega⟩;subst hm;have e1:=nO (l:=vs) (m+1);have e2:=nO (l:=vs) m;have f0:=nO (l:=x) (m+2);have f1:=nO (l:=x) (m+1);have f2:=nO (l:=x) m;have eG:vs.getD (m+1) 0=(v1:Int):=h.eG;have cI:vs.getD m 0=(v2:Int):=h.cI;have h0:x.getD (m+2) 0=(u0:Int):=h.h0;have h1:x.getD (m+1) 0=(u1:Int):=h.h1;have h2:x.getD m 0=(u2:Int):=h.h2
 rw [yQ (by have:=h.lv;omega),eG,e2,cI] at e1
 rw [yQ (by have:=h.lx;omega),h0,f1,h1,f2,h2] at f0;simp only [wv] at e1 f0;have g1:=iX (A7 h.gv m)
 rw [yW,xA (by have:=h.lv;omega)] at g1;have g2:=iX (A7 h.gx m)
 rw [yW,xA (by have:=h.lx;omega)] at g2;refine ⟨1000000000^m,_,_,?_,g1,?_,g2⟩
 ·rw [e1,yU,ayh]
 ·rw [f0,show 1000000000^(m+2)=1000000000^m*1000000000*1000000000 by rw [yU,yU],yU,ayi]
def fF.down (h:fF x vs n v1 v2 u0 u1 u2) {t r:Nat} (ht:t*v1+r=u0*1000000000+u1) (hr:r*1000000000+u2<t*v2):dv x/dv vs<=t-1:=by
 obtain ⟨p,vr,ur,h1,h2,h3,h4⟩:=h.parts;exact Y7 h1 h3 h4 ht hr
def fF.stop (h:fF x vs n v1 v2 u0 u1 u2) {t r:Nat} (jC:t<1000000000) (ht:t*v1+r=u0*1000000000+u1) (hr:1000000000<=r\/t*v2<=r*1000000000+u2):t<=dv x/dv vs+1:=by
 obtain ⟨p,vr,ur,h1,h2,h3,h4⟩:=h.parts;exact ZT (by decide) h1 h2 h3 h.pos h.Cp jC ht hr
def fF.first (h:fF x vs n v1 v2 u0 u1 u2):dv x/dv vs<=(u0*1000000000+u1)/v1:=by
 obtain ⟨p,vr,ur,h1,h2,h3,h4⟩:=h.parts;exact Oh h1 h3 h4 h.IW h.pos
def fF.top (h:fF x vs n v1 v2 u0 u1 u2):u0<=v1:=by
 obtain ⟨p,vr,ur,h1,h2,h3,h4⟩:=h.parts;exact ZU h1 h3 h2 h.Cp h.lt
def fF.digit (h:fF x vs n v1 v2 u0 u1 u2):dv x/dv vs<1000000000:=by
 refine (xx ?_).2 h.lt;rcases xh (dv vs) with h0 | h0
 ·have:=h.lt;rw [h0] at this;simp at this
 ·exact h0
def fF.small (h:fF x vs n v1 v2 u0 u1 u2) {t r:Nat} (ht:t*v1+r=u0*1000000000+u1) (hb:1000000000<=t):r<1000000000:=by
 have h1:=h.top;have h2:=h.IV;have h3:=yT v1 hb
 grind
end
def aAc {r u:Nat} (hr:r<1000000000) (hu:u<1000000000):r*1000000000<9223372036854775808/\r*1000000000+u<9223372036854775808:=by omega
section
variable {P:aM} {L:Lib}
def asz {w:AV} {x vs pre post qs:List Int} {f:Int} (hw:bw w vs) {n v1 v2 u0 u1 u2 M:Nat} (hl:fF x vs n v1 v2 u0 u1 u2) (hM:M=pre.length+x.length+post.length) (I9:M<=50000000000):
  ∀k s,(∃t r:Nat,aP [0,1,2,7,9,10] s=⟨[(0,.aD 1 0 M),(1,w),(2,ab pre.length),(7,ab n),(9,ab t),(10,ab r)],H3 qs (pre++x++post) f,3,3⟩/\t*v1+r=u0*1000000000+u1/\r<1000000000/\dv x/dv vs<=t/\t=k)->
   ∃ex s',D P L (.loop [0,1,2,7,9,10] zD) s=some (ex,s')/\∃tm ct t,s'=⟨tm,H3 qs (pre++x++post) f,ct,3⟩/\((ex= .exit 0/\aj tm 9=ab (t:Nat))\/(ex= .ret/\aj tm 6=ab (t:Nat)))/\ct=3/\t<1000000000/\dv x/dv vs<=t/\t<=dv x/dv vs+1:=by
 intro dq sq;generalize bq:aP [0,1,2,7,9,10] sq=s0;revert bq s0 sq dq;apply dt;rintro k s ⟨t,r,rfl,ht,hr,hQ,rfl⟩;have cX:=hl.n2;have oG:=hl.nb;have hlx:=hl.lx;have DR:=hl.IU;have VZ:=hl.Cp;have aiw:=hl.IW;have aAd:=hl.u0W;have MO:=hl.IV;have mZ:=hl.pos;have oL:=ph hw (i:=n-2) (by have:=hl.lv;omega);have eH:=ph hw (i:=n-1) (by have:=hl.lv;omega);rw [hl.cI] at oL;rw [hl.eG] at eH;have rh:=qt (l:=pre++x++post) (o:=pre.length+(n-2)) (by rw [mL];omega);rw [zG (by omega),hl.h2] at rh;have sQ:(n:Int)-2=((n-2:Nat):Int):=by omega
 have oM:(n:Int)-1=((n-1:Nat):Int):=by omega
 have Ja:(pre.length:Int)+(n:Int)=((pre.length+n:Nat):Int):=rfl;have XZ:((pre.length+n:Nat):Int)-2=((pre.length+(n-2):Nat):Int):=by omega
 have aFW:t<=1000000000000000000:=by
  have:=yP t mZ
  omega
 have aFX:t*1<=t*v1:=yP t mZ;obtain ⟨X0,X1⟩:=aAc hr aiw;by_cases rb:1000000000<=t\/r*1000000000+u2<t*v2
 ·have X2:0<t:=by
   rcases xh t with h0 | h0
   ·subst h0;omega
   ·exact h0
  have h1:(t-1)*v1+(r+v1)=u0*1000000000+u1:=by
   obtain ⟨p,rfl⟩:∃p,t=p+1:=⟨t-1,by omega⟩;rw [xU,Nat.one_mul] at ht;rw [Nat.add_sub_cancel];omega
  have Cq:dv x/dv vs<=t-1:=by
   rcases rb with h | h
   ·have:=hl.digit;generalize dv x/dv vs=q at*;omega
   ·exact hl.down ht h
  have N5:((t:Nat):Int)-1=((t-1:Nat):Int):=by omega
  have stop:1000000000<=r+v1->t-1<1000000000/\t-1<=dv x/dv vs+1:=fun hb=>by
   have aF:t-1<1000000000:=by
    by_cases qR:1000000000<=t-1
    ·have:=hl.small h1 qR;omega
    ·omega
   exact ⟨aF,hl.stop aF h1 (.inl hb)⟩
  by_cases hb:1000000000<=t
  ·by_cases lK:1000000000<=r+v1
   ·right
    obtain ⟨s1,s2⟩:=stop lK
    simp only [go_sem,ya,zD,H3,show (1000000000:Int)<=(t:Int) by omega,N5,wrapN (n:=t-1) (by omega),oM,wrapN (n:=n-1) (by omega),eH,show (r:Int)+(v1:Int)=((r+v1:Nat):Int) from rfl,wrapN (n:=r+v1) (by omega),show (1000000000:Int)<=((r+v1:Nat):Int) by omega];exact ⟨_,_,rfl,by simp,_,_,t-1,rfl,.inr ⟨rfl,by simp only [go_sem]⟩,rfl,s1,Cq,s2⟩
   ·left
    simp only [go_sem,ya,zD,H3,show (1000000000:Int)<=(t:Int) by omega,N5,wrapN (n:=t-1) (by omega),oM,wrapN (n:=n-1) (by omega),eH,show (r:Int)+(v1:Int)=((r+v1:Nat):Int) from rfl,wrapN (n:=r+v1) (by omega),show ¬(1000000000:Int)<=((r+v1:Nat):Int) by omega];refine ⟨_,t-1,rfl,by omega,t-1,r+v1,?_,h1,by omega,Cq,rfl⟩;rw [J7 (by simp only [go_sem,ya,yO,lh,lX,kY,kV,oU hw.pu,wP]) (by simp only [go_sem,ya,yd,yO,aR hw.pu])];simp only [go_sem,ya]
  ·have oF:=xZ (show t<=999999999 by omega) (show v2<=999999999 by omega);have ot:r*1000000000+u2<t*v2:=rb.resolve_left hb;obtain ⟨m,hm⟩:∃m,t*v2=m:=⟨_,rfl⟩;have em:(t:Int)*(v2:Int)=(m:Int):=by rw [<-hm,wY]
   rw [hm] at ot oF;have Eo:(r:Int)*1000000000=((r*1000000000:Nat):Int):=by omega
   have AB:((r*1000000000:Nat):Int)+(u2:Int)=((r*1000000000+u2:Nat):Int):=rfl;by_cases lK:1000000000<=r+v1
   ·right
    obtain ⟨s1,s2⟩:=stop lK
    simp only [go_sem,ya,ym,zD,H3,show ¬(1000000000:Int)<=(t:Int) by omega,sQ,wrapN (n:=n-2) (by omega),oL,em,wrapN (n:=m) (by omega),Eo,wrapN X0,Ja,wrapN (n:=pre.length+n) (by omega),XZ,wrapN (n:=pre.length+(n-2)) (by omega),cS 1 0 (show pre.length+(n-2)<M by omega),yh,rh,AB,wrapN X1,show ((r*1000000000+u2:Nat):Int)<(m:Int) from uX.2 ot,N5,wrapN (n:=t-1) (by omega),oM,wrapN (n:=n-1) (by omega),eH,show (r:Int)+(v1:Int)=((r+v1:Nat):Int) from rfl,wrapN (n:=r+v1) (by omega),show (1000000000:Int)<=((r+v1:Nat):Int) by omega];exact ⟨_,_,rfl,by simp,_,_,t-1,rfl,.inr ⟨rfl,by simp only [go_sem]⟩,rfl,s1,Cq,s2⟩
   ·left
    simp only [go_sem,ya,ym,zD,H3,show ¬(1000000000:Int)<=(t:Int) by omega,sQ,wrapN (n:=n-2) (by omega),oL,em,wrapN (n:=m) (by omega),Eo,wrapN X0,Ja,wrapN (n:=pre.length+n) (by omega),XZ,wrapN (n:=pre.length+(n-2)) (by omega),cS 1 0 (show pre.length+(n-2)<M by omega),yh,rh,AB,wrapN X1,show ((r*1000000000+u2:Nat):Int)<(m:Int) from uX.2 ot,N5,wrapN (n:=t-1) (by omega),oM,wrapN (n:=n-1) (by omega),eH,show (r:Int)+(v1:Int)=((r+v1:Nat):Int) from rfl,wrapN (n:=r+v1) (by omega),show ¬(1000000000:Int)<=((r+v1:Nat):Int) by omega];refine ⟨_,t-1,rfl,by omega,t-1,r+v1,?_,h1,by omega,Cq,rfl⟩;rw [J7 (by simp only [go_sem,ya,yO,lh,lX,kY,kV,oU hw.pu,wP]) (by simp only [go_sem,ya,yd,yO,aR hw.pu])];simp only [go_sem,ya]
 ·right
  have jC:t<1000000000:=Nat.lt_of_not_le fun e=>rb (.inl e)
  have oF:=xZ (show t<=999999999 from vv jC) (show v2<=999999999 from vv VZ);have Wu:t*v2<=r*1000000000+u2:=ybf fun e=>rb (.inr e)
  have ayt:=hl.stop jC ht (.inr Wu);obtain ⟨m,hm⟩:∃m,t*v2=m:=⟨_,rfl⟩;have em:(t:Int)*(v2:Int)=(m:Int):=by rw [<-hm,wY]
  rw [hm] at Wu oF;have Eo:(r:Int)*1000000000=((r*1000000000:Nat):Int):=by omega
  have AB:((r*1000000000:Nat):Int)+(u2:Int)=((r*1000000000+u2:Nat):Int):=rfl
  simp only [go_sem,ya,ym,zD,H3,show ¬(1000000000:Int)<=(t:Int) by omega,sQ,wrapN (n:=n-2) (by omega),oL,em,wrapN (n:=m) (by omega),Eo,wrapN X0,Ja,wrapN (n:=pre.length+n) (by omega),XZ,wrapN (n:=pre.length+(n-2)) (by omega),cS 1 0 (show pre.length+(n-2)<M by omega),yh,rh,AB,wrapN X1,show ¬((r*1000000000+u2:Nat):Int)<(m:Int) from fun e=>Nat.not_lt_of_le Wu (uX.1 e)];exact ⟨_,_,rfl,by simp,_,_,t,rfl,.inl ⟨rfl,by simp only [go_sem,ya]⟩,rfl,jC,hQ,ayt⟩
def ayu (h:Has P L 301 sd) {w:AV} {x vs pre post qs:List Int} {f:Int} (hw:bw w vs) {n v1 v2 u0 u1 u2 M:Nat} (hl:fF x vs n v1 v2 u0 u1 u2) (hM:M=pre.length+x.length+post.length) (I9:M<=50000000000):
  ∃t:Nat,ia P L (D P L) (H3 qs (pre++x++post) f) 3 301 [.aD 1 0 M,w,ab pre.length]=some (ab t,H3 qs (pre++x++post) f,3)/\t<1000000000/\dv x/dv vs<=t/\t<=dv x/dv vs+1:=by
 have cX:=hl.n2;have oG:=hl.nb;have hlx:=hl.lx;have rk:below 3 w:=oU hw.pu;have DR:=hl.IU;have aAd:=hl.u0W;have MO:=hl.IV;have mZ:=hl.pos;have eH:=ph hw (i:=n-1) (by have:=hl.lv;omega);rw [hl.eG] at eH;have AE:=qt (l:=pre++x++post) (o:=pre.length+n) (by rw [mL];omega);rw [zG (by omega),hl.h0] at AE;have AF:=qt (l:=pre++x++post) (o:=pre.length+(n-1)) (by rw [mL];omega);rw [zG (by omega),hl.h1] at AF;have oM:(n:Int)-1=((n-1:Nat):Int):=by omega
 have Ja:(pre.length:Int)+(n:Int)=((pre.length+n:Nat):Int):=rfl;have pn1:((pre.length+n:Nat):Int)-1=((pre.length+(n-1):Nat):Int):=by omega
 obtain ⟨m,hm⟩:∃m,m=u0*1000000000+u1:=⟨_,rfl⟩;have em:(u0:Int)*1000000000=((u0*1000000000:Nat):Int):=by omega
 have em2:((u0*1000000000:Nat):Int)+(u1:Int)=(m:Int):=by omega
 have eB:=xM m v1;have kO:=xv m mZ;have KE:=hl.first;rw [<-hm] at KE;have aGd:m/v1<=m:=Nat.div_le_self _ _;have oq:IntKind.wrap .i64 ((m:Int).tdiv (v1:Int))=((m/v1:Nat):Int):=by
  rw [xE (by omega),<-Int.natCast_ediv,wrapN (by omega)]
 have or':(m:Int).tmod (v1:Int)=((m%v1:Nat):Int):=by rw [xD (by omega),<-Int.natCast_emod]
 rw [xg] at eB;generalize m/v1=q0 at*
 generalize m%v1=r0 at*
 have iq:∃ex tm t,D P L sd.body ⟨dQ 0 [.aD 1 0 M,w,ab pre.length],H3 qs (pre++x++post) f,3,3⟩=some (ex,⟨tm,H3 qs (pre++x++post) f,3,3⟩)/\(ex= .normal\/ex= .ret)/\aj tm 6=ab (t:Nat)/\t<1000000000/\dv x/dv vs<=t/\t<=dv x/dv vs+1:=by
  simp only [go_sem,ya,ym,sd,H3,hw.len,hl.lv,Ja,wrapN (n:=pre.length+n) (by omega),cS 1 0 (show pre.length+n<M by omega),yh,AE,em,wrapN (n:=u0*1000000000) (by omega),pn1,wrapN (n:=pre.length+(n-1)) (by omega),cS 1 0 (show pre.length+(n-1)<M by omega),AF,em2,wrapN (n:=m) (by omega),oM,wrapN (n:=n-1) (by omega),eH,eI _ _ _ (show (v1:Int)≠0 by omega),fo _ _ _ (show (v1:Int)≠0 by omega),oq,or'];generalize lO:D P L (.loop [0,1,2,7,9,10] zD) _=qq;obtain ⟨ex,s,rfl,tm,ct,t,rfl,DM,rfl,g1,g2,g3⟩:=cr lO (asz (P:=P) (L:=L) (qs:=qs) (f:=f) hw hl hM I9 q0) ⟨q0,r0,by
   rw [J7 (by simp only [go_sem,ya,yO,lh,lX,kY,kV,rk,wP]) (by simp only [go_sem,ya,yd,yO,aR hw.pu])]
   simp only [go_sem,ya],by omega,by omega,KE,rfl⟩
  rcases DM with ⟨rfl,h9⟩ | ⟨rfl,h6⟩
  ·simp only [go_sem,yO,H3,J7,lh,kY,kV,h9,and_self];exact ⟨_,_,t,rfl,.inr rfl,by simp only [go_sem],g1,g2,g3⟩
  ·simp only [go_sem];exact ⟨_,_,t,rfl,.inr rfl,h6,g1,g2,g3⟩
 obtain ⟨ex,tm,t,g1,g2,g3,g4,g5,g6⟩:=iq;exact ⟨t,aei h g1 g2 (by show hZ _ [RV.t 6]=_;rw [VR,Qv,g3]),g4,g5,g6⟩
end
def aAe {t v bo:Int} (ht:0<=t/\t<1000000000) (hv:0<=v/\v<1000000000) (hb:0<=bo/\bo<1000000000):0<=t*v/\t*v<=999999998000000001/\0<=t*v+bo/\t*v+bo<=999999999000000000:=by
 have h1:=tr ht.1 hv.1;have h2:=ybD (show t<=999999999 by omega) (show v<=999999999 by omega) hv.1 (by decide);omega
def aAf {x p:Int} (hx:0<=x/\x<1000000000) (hp:0<=p/\p<=999999999000000000):
  (x-p.tmod 1000000000<0->0<=x-p.tmod 1000000000+1000000000/\x-p.tmod 1000000000+1000000000<1000000000/\0<=p.tdiv 1000000000+1/\p.tdiv 1000000000+1<1000000000/\x-p.tmod 1000000000+1000000000+p=x+1000000000*(p.tdiv 1000000000+1))/\
  (¬x-p.tmod 1000000000<0->x-p.tmod 1000000000<1000000000/\0<=p.tdiv 1000000000/\p.tdiv 1000000000<1000000000/\x-p.tmod 1000000000+p=x+1000000000*p.tdiv 1000000000):=by grind
def PG {l:List Int} (h:dg l) {i:Nat} {z:Int} (hz:0<=z/\z<1000000000):dg (l.set i z):=Ky h hz
def asA {b p z q v bo sR x X Y S:Int} (h2:z+(q*v+bo)=x+b*sR) (h3:Y+q*X=S+p*bo):(Y+p*(z-x))+q*(X+p*v)=S+p*b*sR:=by grind
section
variable {P:aM} {L:Lib}
def asB {w:AV} {x vs pre post qs:List Int} {f:Int} (hw:bw w vs) {n M m:Nat} (lv:vs.length=n) (hM:M=pre.length+(n+1)+post.length) (I9:M<=50000000000) (gv:dg vs) {t:Int} (ht:0<=t/\t<1000000000):
  ∀k s,(∃(i:Nat) (bo:Int) (y:List Int),aP [8,9,10,11,12,13,14,15,16] s=⟨[(8,.aD 0 0 1),(9,w),(10,ab n),(11,.aD 1 0 M),(12,.aD 2 0 m),(13,ab pre.length),(14,ab t),(15,ab bo),(16,ab i)],H3 qs (pre++y++post) f,3,0⟩/\i+k=n/\y.length=n+1/\dg y/\(0<=bo/\bo<1000000000)/\
    sv y+t*sv (vs.take i)=sv x+1000000000^i*bo)->
   ∃ex s',D P L (.loop [8,9,10,11,12,13,14,15,16] CZ) s=some (ex,s')/\∃tm bo y,s'=⟨tm,H3 qs (pre++y++post) f,3,0⟩/\ex= .exit 4/\aj tm 8= .aD 0 0 1/\aj tm 9=w/\aj tm 10=ab n/\aj tm 11= .aD 1 0 M/\aj tm 12= .aD 2 0 m/\aj tm 13=ab pre.length/\aj tm 14=ab t/\aj tm 15=ab bo/\y.length=n+1/\dg y/\(0<=bo/\bo<1000000000)/\
    sv y+t*sv vs=sv x+1000000000^n*bo:=by
 intro dq sq;generalize bq:aP [8,9,10,11,12,13,14,15,16] sq=s0;revert bq s0 sq dq;apply dt;rintro k s ⟨i,bo,y,rfl,hk,ly,gy,iD,aI⟩;by_cases hi:i<n
 ·left
  have pM:=gC gv i;have oN:=gC gy i;have ev:=ph hw (i:=i) (by omega);have ey:=qt (l:=pre++y++post) (o:=pre.length+i) (by rw [mL];omega);rw [zG (by omega)] at ey;have ep:=Ks (l:=vs) i;obtain ⟨a,ha⟩:∃a,a=vs.getD i 0:=⟨_,rfl⟩;obtain ⟨d,hd⟩:∃d,d=y.getD i 0:=⟨_,rfl⟩;rw [<-ha] at pM ev ep;rw [<-hd] at oN ey;obtain ⟨p1,p2,p3,p4⟩:=aAe ht pM iD;obtain ⟨s1,s2⟩:=aAf oN ⟨p3,p4⟩;have eL:(i:Int)+(pre.length:Int)=((pre.length+i:Nat):Int):=by omega
  have aT:=fun (hp:Hp) (ct:Nat) (z:Int)=>AP (hp:=hp) (ct:=ct) (id:=1) (v:=z) (ex:=false) (l:=pre++y++post) (o:=pre.length+i) (by rw [mL];omega)
  have mT:=fun z=>KG (pre:=pre) (x:=y) (post:=post) (i:=i) z (by omega)
  have bi:=fun z=>C5 (l:=y) (i:=i) (x:=z) (by omega)
  rw [<-hd] at bi;obtain ⟨pr,nf⟩:∃pr,pr=t*a+bo:=⟨_,rfl⟩;obtain ⟨dm,eB⟩:∃dm,pr.tmod 1000000000=dm:=⟨_,rfl⟩;obtain ⟨dq,Ct⟩:∃dq,pr.tdiv 1000000000=dq:=⟨_,rfl⟩;have aGe:0<=dm/\dm<1000000000:=by rw [<-eB,xD (by omega)];omega
  have aGf:0<=dq/\dq<1000000000:=by rw [<-Ct,xE (by omega)];omega
  rw [<-nf,eB,Ct] at s1 s2;have key:∀z sR,z+(t*a+bo)=d+1000000000*sR->sv (y.set i z)+t*sv (vs.take (i+1))=sv x+1000000000^(i+1)*sR:=fun z sR h=>by
   rw [bi,ep,tH];exact asA h aI
  rw [<-nf] at key;by_cases eQ:d-dm<0
  ·obtain ⟨q1,q2,q3,q4,q5⟩:=s1 eQ;have kk:=key _ _ q5;obtain ⟨dr,gM⟩:∃dr,d-dm=dr:=⟨_,rfl⟩;rw [gM] at eQ kk q1 q2
   simp only [go_sem,ya,ym,CZ,H3,show (i:Int)<(n:Int) by omega,ev,wrap64 (n:=t*a) (by omega) (by omega),<-nf,wrap64 (n:=pr) (by omega) (by omega),eL,wrapN (n:=pre.length+i) (by omega),cS 1 0 (show pre.length+i<M by omega),yh,ey,fo _ _ _ (show (1000000000:Int)≠0 by decide),eI _ _ _ (show (1000000000:Int)≠0 by decide),eB,Ct,gM,wrap64 (n:=dr) (by omega) (by omega),wrap64 (n:=dq) (by omega) (by omega),eQ,wrap64 (n:=dr+1000000000) (by omega) (by omega),wrap64 (n:=dq+1) (by omega) (by omega),aT,mT];refine ⟨_,k-1,rfl,by omega,i+1,dq+1,y.set i (dr+1000000000),?_,by omega,by simp [ly],PG gy ⟨q1,q2⟩,⟨q3,q4⟩,kk⟩;rw [wrap64 (by omega) (by omega)];simp only [go_sem,ya,yd,aC,aR hw.pu,bc _ hw.pu]<;>rfl
  ·obtain ⟨q2,q3,q4,q5⟩:=s2 eQ;have kk:=key _ _ q5;obtain ⟨dr,gM⟩:∃dr,d-dm=dr:=⟨_,rfl⟩;rw [gM] at eQ kk q2
   simp only [go_sem,ya,ym,CZ,H3,show (i:Int)<(n:Int) by omega,ev,wrap64 (n:=t*a) (by omega) (by omega),<-nf,wrap64 (n:=pr) (by omega) (by omega),eL,wrapN (n:=pre.length+i) (by omega),cS 1 0 (show pre.length+i<M by omega),yh,ey,fo _ _ _ (show (1000000000:Int)≠0 by decide),eI _ _ _ (show (1000000000:Int)≠0 by decide),eB,Ct,gM,wrap64 (n:=dr) (by omega) (by omega),wrap64 (n:=dq) (by omega) (by omega),eQ,aT,mT];refine ⟨_,k-1,rfl,by omega,i+1,dq,y.set i dr,?_,by omega,by simp [ly],PG gy ⟨by omega,q2⟩,⟨q3,q4⟩,kk⟩;rw [wrap64 (by omega) (by omega)];simp only [go_sem,ya,yd,aC,aR hw.pu,bc _ hw.pu]<;>rfl
 ·right
  have:i=n:=by omega
  subst this;rw [yQ (by omega)] at aI;simp only [go_sem,ya,CZ,H3,show ¬(i:Int)<(i:Int) by omega];exact ⟨_,_,rfl,by simp,_,bo,y,rfl,rfl,by simp only [go_sem,ya],by simp only [go_sem,ya],by simp only [go_sem,ya],by simp only [go_sem,ya],by simp only [go_sem,ya],by simp only [go_sem,ya],by simp only [go_sem,ya],by simp only [go_sem,ya],ly,gy,iD,aI⟩
def asC {b p z v c c' x X Y S:Int} (h2:z+b*c'=x+v+c) (h3:Y+p*c=S+X):(Y+p*(z-x))+p*b*c'=S+(X+p*v):=by grind
def asD {w:AV} {y0 vs pre post qs:List Int} {f:Int} (hw:bw w vs) {n M m:Nat} (lv:vs.length=n) (hM:M=pre.length+(n+1)+post.length) (I9:M<=50000000000) (gv:dg vs) {t top:Int}:
  ∀k s,(∃(i:Nat) (c:Int) (y:List Int),aP [8,9,10,11,12,13,14,19,20] s=⟨[(8,.aD 0 0 1),(9,w),(10,ab n),(11,.aD 1 0 M),(12,.aD 2 0 m),(13,ab pre.length),(14,ab t),(19,ab c),(20,ab i)],H3 qs (pre++y++post) f,3,0⟩/\i+k=n/\y.length=n+1/\dg (y.take n)/\y.getD n 0=top/\(0<=c/\c<=1)/\
    sv y+1000000000^i*c=sv y0+sv (vs.take i))->
   ∃ex s',D P L (.loop [8,9,10,11,12,13,14,19,20] GA) s=some (ex,s')/\∃tm c y,s'=⟨tm,H3 qs (pre++y++post) f,3,0⟩/\ex= .exit 6/\aj tm 8= .aD 0 0 1/\aj tm 9=w/\aj tm 10=ab n/\aj tm 11= .aD 1 0 M/\aj tm 12= .aD 2 0 m/\aj tm 13=ab pre.length/\aj tm 14=ab t/\aj tm 19=ab c/\y.length=n+1/\dg (y.take n)/\y.getD n 0=top/\(0<=c/\c<=1)/\
    sv y+1000000000^n*c=sv y0+sv vs:=by
 intro dq sq;generalize bq:aP [8,9,10,11,12,13,14,19,20] sq=s0;revert bq s0 sq dq;apply dt;rintro k s ⟨i,c,y,rfl,hk,ly,gy,mU,hc,aI⟩;by_cases hi:i<n
 ·left
  have pM:=gC gv i;have oN:=gC gy i;have e0:(y.take n).getD i 0=y.getD i 0:=by
   simp [xF,hi]
  rw [e0] at oN;have ev:=ph hw (i:=i) (by omega);have ey:=qt (l:=pre++y++post) (o:=pre.length+i) (by rw [mL];omega);rw [zG (by omega)] at ey;have ep:=Ks (l:=vs) i;obtain ⟨a,ha⟩:∃a,a=vs.getD i 0:=⟨_,rfl⟩;obtain ⟨d,hd⟩:∃d,d=y.getD i 0:=⟨_,rfl⟩;rw [<-ha] at pM ev ep;rw [<-hd] at oN ey;have eL:(i:Int)+(pre.length:Int)=((pre.length+i:Nat):Int):=by omega
  have bi:=fun z=>C5 (l:=y) (i:=i) (x:=z) (by omega)
  rw [<-hd] at bi;have kO:(d+a+c).tmod 1000000000=(d+a+c)%1000000000:=xD (by omega);have hdiv:(d+a+c).tdiv 1000000000=(d+a+c)/1000000000:=xE (by omega);obtain ⟨z,hz⟩:∃z,z=(d+a+c)%1000000000:=⟨_,rfl⟩;obtain ⟨c',mr⟩:∃z,z=(d+a+c)/1000000000:=⟨_,rfl⟩;have WK:z+1000000000*c'=d+a+c:=by omega
  rw [<-hz] at kO;rw [<-mr] at hdiv;have aT:=fun (hp:Hp) (ct:Nat)=>AP (hp:=hp) (ct:=ct) (id:=1) (v:=z) (ex:=false) (l:=pre++y++post) (o:=pre.length+i) (by rw [mL];omega)
  have mT:=KG (pre:=pre) (x:=y) (post:=post) (i:=i) z (by omega)
  simp only [go_sem,ya,ym,GA,H3,show (i:Int)<(n:Int) by omega,ev,eL,wrapN (n:=pre.length+i) (by omega),cS 1 0 (show pre.length+i<M by omega),yh,ey,wrap64 (n:=d+a) (by omega) (by omega),wrap64 (n:=d+a+c) (by omega) (by omega),fo _ _ _ (show (1000000000:Int)≠0 by decide),eI _ _ _ (show (1000000000:Int)≠0 by decide),kO,hdiv,wrap64 (n:=c') (by omega) (by omega),aT,mT];refine ⟨_,k-1,rfl,by omega,i+1,c',y.set i z,?_,by omega,by simp [ly],?_,by rw [afx (by omega)];exact mU,⟨by omega,by omega⟩,?_⟩
  ·rw [wrap64 (by omega) (by omega)];simp only [go_sem,ya,yd,aC,aR hw.pu,bc _ hw.pu]<;>rfl
  ·rw [yah];exact PG gy ⟨by omega,by omega⟩
  ·rw [bi,ep,tH];exact asC WK aI
 ·right
  have:i=n:=by omega
  subst this;rw [yQ (show vs.length<=i by omega)] at aI;simp only [go_sem,ya,GA,H3,show ¬(i:Int)<(i:Int) by omega];exact ⟨_,_,rfl,by simp,_,c,y,rfl,rfl,by simp only [go_sem,ya],by simp only [go_sem,ya],by simp only [go_sem,ya],by simp only [go_sem,ya],by simp only [go_sem,ya],by simp only [go_sem,ya],by simp only [go_sem,ya],by simp only [go_sem,ya],ly,gy,mU,hc,aI⟩
def asE {A V t:Nat} {y:List Int} {n:Nat} (hV:0<V) (ly:y.length=n+1) (gy:dg (y.take n)) (h:sv y=(A:Int)-t*V) (h1:A/V<=t) (h2:t<=A/V+1):
  (¬y.getD n 0<0->t=A/V/\sv y=((A%V:Nat):Int))/\(y.getD n 0<0->t=A/V+1/\sv y+V=((A%V:Nat):Int)):=by
 have eB:=xM A V;have hm:=xv A hV;have ep:=Ks (l:=y) n;rw [yQ (by omega),rX gy] at ep;have Ia:=iX gy;have hp:(0:Int)<1000000000^n:=ycr (by decide);generalize y.getD n 0=top at*
 generalize A/V=Q at*
 have hq:t=Q\/t=Q+1:=by omega
 constructor
 ·intro h0;have h3:0<=(1000000000:Int)^n*top:=tr (uY hp) (by omega);rcases hq with rfl | rfl
  ·grind
  ·grind
 ·intro h0;have h3:(1000000000:Int)^n*top<=-(1000000000^n):=by
   have:=vR (show top<=-1 by omega) (uY hp)
   grind
  rcases hq with rfl | rfl
  ·grind
  ·grind
def aa2 {y:List Int} {n:Nat} (ly:y.length=n+1) (gy:dg (y.take n)) (h0:0<=sv y) (h1:sv y<1000000000^n):y.getD n 0=0/\dg y/\sv y=dv y:=by
 have ep:=Ks (l:=y) n;rw [yQ (by omega),rX gy] at ep;have Ia:=iX gy;rw [yW,xA (by omega)] at Ia;have hp:(0:Int)<1000000000^n:=ycr (by decide);have qu:((1000000000^n:Nat):Int)=(1000000000:Int)^n:=by simp
 have aFY:(dv (y.take n):Int)<1000000000^n:=by omega
 have ht:y.getD n 0=0:=by
  generalize y.getD n 0=top at*
  rcases vU top 0 with h | h | h
  ·have:=vR (show top<=-1 by omega) (uY hp)
   grind
  ·grind
  ·have:=vR (show 1<=top by omega) (uY hp)
   grind
 have hg:dg y:=by
  have e:y=y.take n++[0]:=by
   have h1:y=y.take n++y.drop n:=(xT n y).symm;have h2:y.drop n=[0]:=by
    rw [y8 (by omega),xu (by omega)]
    grind
   grind
  rw [e];exact gg.2 ⟨gy,jF.2 ⟨by decide,by decide⟩⟩
 exact ⟨ht,hg,rX hg⟩
end
def asF {l:List Int} {i:Nat} (h:i<l.length):dv (l.drop i)=(l.getD i 0).toNat+1000000000*dv (l.drop (i+1)):=by
 rw [y8 h]
 have:l[i]=l.getD i 0:=by simp_all
 rw [this];rfl
def Pj (l:List Int) (i:Nat) (h:i<=l.length):dv l=dv (l.take i)+1000000000^i*dv (l.drop i):=by
 conv=>lhs;rw [<-xT i l]
 rw [kT,yW,xA h]
def asG {sx sy sV:Int} {p:Int} {bo t:Int} {yn z:Int} {szy:Int} (h1:sy+t*sV=sx+p*bo) (h2:szy=sy+p*(z-yn)) (h3:z=yn-bo):szy=sx-t*sV:=by grind
section
variable {P:aM} {L:Lib}
def asH (px:Has P L 301 sd) {w:AV} {vs:List Int} {f:Int} (hw:bw w vs) (gv:dg vs) {n M m:Nat} (lv:vs.length=n) (cX:2<=n) (hnM:n<M) (I9:M<=20000000000) (hm:m=M-n) (eG:0<vs.getD (n-1) 0) {U0:Nat}:
  ∀k st,(∃(j:Nat) (us qs:List Int),aP [8,9,10,11,12,13] st=⟨[(8,.aD 0 0 1),(9,w),(10,ab n),(11,.aD 1 0 M),(12,.aD 2 0 m),(13,ab ((j:Int)-1))],H3 qs us f,3,0⟩/\j=k/\j<=m/\us.length=M/\qs.length=m/\dg us/\dg qs/\(∀i,i<j->qs.getD i 0=0)/\
    dv us+dv qs*dv vs=U0/\dv (us.drop j)<dv vs)->
   ∃ex st',D P L (.loop [8,9,10,11,12,13] GB) st=some (ex,st')/\∃tm us qs,st'=⟨tm,H3 qs us f,3,0⟩/\ex= .exit 2/\aj tm 8= .aD 0 0 1/\aj tm 10=ab n/\aj tm 11= .aD 1 0 M/\aj tm 12= .aD 2 0 m/\us.length=M/\qs.length=m/\dg us/\dg qs/\
    dv us+dv qs*dv vs=U0/\dv us<dv vs:=by
 intro dq sq;generalize bq:aP [8,9,10,11,12,13] sq=s0;revert bq s0 sq dq;apply dt;rintro k st ⟨j,us,qs,rfl,rfl,hj,lu,lq,gu,gq,hz,aI,mU⟩
 cases j with
 | zero=>
  right
  simp only [go_sem,ya,GB,H3,show ¬(0:Int)<=((0:Nat):Int)-1 by omega];exact ⟨_,_,rfl,by simp,_,us,qs,rfl,rfl,by simp only [go_sem,ya],by simp only [go_sem,ya],by simp only [go_sem,ya],by simp only [go_sem,ya],lu,lq,gu,gq,aI,by simpa using mU⟩
 | succ j=>
  left
  obtain ⟨pre,eL⟩:∃p,p=us.take j:=⟨_,rfl⟩;obtain ⟨x,hx⟩:∃p,p=(us.drop j).take (n+1):=⟨_,rfl⟩;obtain ⟨post,fI⟩:∃p,p=us.drop (j+(n+1)):=⟨_,rfl⟩;have lp:pre.length=j:=by rw [eL,yW];omega
  have lx:x.length=n+1:=by rw [hx,yW,xN];omega
  have lpo:M=pre.length+(n+1)+post.length:=by rw [lp,fI,xN];omega
  have jn:us=pre++x++post:=by
   rw [eL,hx,fI,<-vN,xt,xT,xT]
  have gpo:dg post:=by
   have:=gu;rw [jn] at this;exact (gg.1 this).2
  have gpx:=by have:=gu;rw [jn] at this;exact (gg.1 this).1
  have gx:dg x:=(gg.1 gpx).2;have V3:dg pre:=(gg.1 gpx).1;have hA:=asF (l:=us) (i:=j) (by omega);have hgj:=gC gu j;have XG:us.drop j=x++post:=by rw [fI,hx,<-vN,xT]
  have sS:dv (us.drop j)=dv x+1000000000^(n+1)*dv post:=by rw [XG,kT,lx]
  have IX:=iX gv;rw [lv] at IX;have aF:dv (us.drop j)<1000000000*dv vs:=by omega
  have hp0:dv post=0:=by
   rcases xh (dv post) with e | e
   ·exact e
   ·have h1:=yP (1000000000^(n+1)) e;rw [ym,yU] at h1;rw [yU] at sS;omega
  rw [hp0,xp,yZ] at sS;have Jb:=fun (l:List Int) (hl:dg l) (i:Nat)=>gC hl i
  obtain ⟨v1,eH⟩:∃v:Nat,vs.getD (n-1) 0=v:=⟨(vs.getD (n-1) 0).toNat,by have:=Jb vs gv (n-1);omega⟩;obtain ⟨v2,oL⟩:∃v:Nat,vs.getD (n-2) 0=v:=⟨(vs.getD (n-2) 0).toNat,by have:=Jb vs gv (n-2);omega⟩;obtain ⟨u0,AE⟩:∃v:Nat,x.getD n 0=v:=⟨(x.getD n 0).toNat,by have:=Jb x gx n;omega⟩;obtain ⟨u1,AF⟩:∃v:Nat,x.getD (n-1) 0=v:=⟨(x.getD (n-1) 0).toNat,by have:=Jb x gx (n-1);omega⟩;obtain ⟨u2,rh⟩:∃v:Nat,x.getD (n-2) 0=v:=⟨(x.getD (n-2) 0).toNat,by have:=Jb x gx (n-2);omega⟩;have hl:fF x vs n v1 v2 u0 u1 u2:=⟨cX,by omega,lx,lv,gx,gv,eH,oL,AE,AF,rh,by omega,by rw [<-sS];exact aF⟩
  have MP:=hl.digit;have pL:0<dv vs:=by omega
  have kO:=xv (dv x) pL;obtain ⟨t,e1,ht1,W8,ht3⟩:=ayu (P:=P) (L:=L) px hw hl (pre:=pre) (post:=post) (qs:=qs) (f:=f) (M:=M) (by omega) (by omega);rw [<-jn,lp] at e1;have XI:dv us=dv pre+1000000000^j*dv x:=by
   have:=Pj us j (by omega)
   rw [sS,<-eL] at this;exact this
  have V4:∀y,dv (pre++y++post)=dv pre+1000000000^j*dv y:=fun y=>by
   rw [xt,kT,kT,hp0,xp,yZ,lp]
  have im:=Z1 (b:=0) XI aI;have rk:below 3 w:=oU hw.pu;have bi:=C5 (l:=qs) (i:=j) (x:=((dv x/dv vs:Nat):Int)) (by omega);have gq':dg (qs.set j ((dv x/dv vs:Nat):Int)):=Ky gq ⟨tZ _,uX.2 MP⟩;rw [hz j (by omega),Int.sub_zero,rX gq,rX gq'] at bi;have bi:dv (qs.set j ((dv x/dv vs:Nat):Int))=dv qs+1000000000^j*(dv x/dv vs):=by
   have qu:((1000000000^j*(dv x/dv vs):Nat):Int)=(1000000000:Int)^j*((dv x/dv vs:Nat):Int):=by rw [wY];simp
   rw [<-qu] at bi;exact tQ (by rw [yaF,yaF,bi,ybn])
  have fin:∀(s':St) (x':List Int),aP [8,9,10,11,12,13] s'=⟨[(8,.aD 0 0 1),(9,w),(10,ab n),(11,.aD 1 0 M),(12,.aD 2 0 m),(13,ab ((j:Int)-1))],H3 (qs.set j ((dv x/dv vs:Nat):Int)) (pre++x'++post) f,3,0⟩->x'.length=n+1->dg x'->sv x'=((dv x%dv vs:Nat):Int)->
    ∃(j':Nat) (us qs:List Int),aP [8,9,10,11,12,13] s'=⟨[(8,.aD 0 0 1),(9,w),(10,ab n),(11,.aD 1 0 M),(12,.aD 2 0 m),(13,ab ((j':Int)-1))],H3 qs us f,3,0⟩/\j'=j/\j'<=m/\us.length=M/\qs.length=m/\dg us/\dg qs/\(∀i,i<j'->qs.getD i 0=0)/\dv us+dv qs*dv vs=U0/\dv (us.drop j')<dv vs:=fun s' x' hc XH NS I0=>by
   have ai0:dv x'=dv x%dv vs:=by rw [rX NS] at I0;exact tQ I0
   refine ⟨j,_,_,hc,rfl,by omega,by rw [mL,XH];omega,by simp [lq],gg.2 ⟨gg.2 ⟨V3,NS⟩,gpo⟩,gq',fun i hi=>by rw [afx (by omega)];exact hz i (by omega),?_,?_⟩
   ·rw [V4,ai0,bi];exact im
   ·rw [xt,List.drop_left' lp,kT,hp0,xp,yZ,ai0];exact kO
  have ai1:=fun (z:Int) (hp:Hp) (ct:Nat)=>AP (hp:=hp) (ct:=ct) (id:=2) (v:=z) (ex:=true) (l:=qs) (o:=j) (by omega)
  have svx:=rX gx;have svv:=rX gv;simp only [H3] at e1;simp only [go_sem,ya,GB,H3,show ((j+1:Nat):Int)-1=(j:Int) by omega,show (0:Int)<=(j:Int) by omega,agE,e1];generalize lO:D P L (.loop [8,9,10,11,12,13,14,15,16] CZ) _=qq;obtain ⟨ex,s,rfl,tm,bo,y,rfl,rfl,t8,t9,t10,t11,t12,t13,t14,t15,ly,gy,iD,hv⟩:=cr lO (asB (P:=P) (L:=L) (x:=x) (pre:=pre) (post:=post) (qs:=qs) (f:=f) (m:=m) (M:=M) hw lv lpo (by omega) gv (t:=t) (by omega) n) ⟨0,0,x,by
   rw [jn,lp]
   simp only [go_sem,ya,yd,aC,aR hw.pu,bc _ hw.pu]<;>rfl,by omega,lx,gx,by omega,by simp [sv]⟩
  rw [lp] at t13;have hyn:=gC gy n;have X3:=qt (l:=pre++y++post) (o:=pre.length+n) (by rw [mL];omega);rw [zG (by omega),lp] at X3;obtain ⟨z,X4⟩:∃z,z=y.getD n 0-bo:=⟨_,rfl⟩;have De:=fun (hp:Hp) (ct:Nat)=>AP (hp:=hp) (ct:=ct) (id:=1) (v:=z) (ex:=false) (l:=pre++y++post) (o:=j+n) (by rw [mL];omega)
  have mT:=KG (pre:=pre) (x:=y) (post:=post) (i:=n) z (by omega);rw [lp] at mT;rw [mT] at De;have kP:=C5 (l:=y) (i:=n) (x:=z) (by omega);have Lp:=asG hv kP X4;have AD:(y.set n z).length=n+1:=by simp [ly]
  have Cr:dg ((y.set n z).take n):=by
   have:(y.set n z).take n=y.take n:=by rw [yah,yag (by simp;omega)]
   rw [this];exact A7 gy n
  rw [svx,svv] at Lp;obtain ⟨s0,s1⟩:=asE pL AD Cr Lp W8 ht3;have eg:(y.set n z).getD n 0=z:=aoj (by omega);rw [eg] at s0 s1;have X5:=qt (l:=pre++y.set n z++post) (o:=pre.length+n) (by rw [mL];omega);rw [zG (by omega),lp,eg] at X5;generalize y.set n z=y1 at*
  have hpn:((10^9:Int))=1000000000:=by decide
  by_cases eQ:z<0
  ·obtain ⟨f1,f2⟩:=s1 eQ
   simp only [go_sem,ya,yd,ym,aC,aR hw.pu,bc _ hw.pu,t8,t9,t10,t11,t12,t13,t14,t15,show (j:Int)+(n:Int)=((j+n:Nat):Int) from rfl,wrapN (n:=j+n) (by omega),cS 1 0 (show j+n<M by omega),yh,X3,<-X4,wrap64 (n:=z) (by omega) (by omega),De,X5,eQ];generalize BX:D P L (.loop [8,9,10,11,12,13,14,19,20] GA) _=XB;obtain ⟨ex,s,rfl,pz,c,y2,rfl,rfl,t8,t9,t10,t11,t12,t13,t14,t19,XD,NQ,agO,hc,cI⟩:=cr BX (asD (P:=P) (L:=L) (y0:=y1) (pre:=pre) (post:=post) (qs:=qs) (f:=f) (m:=m) (M:=M) (t:=(t:Int)-1) (top:=z) hw lv lpo (by omega) gv n) ⟨0,0,y1,by
    rw [lp,wrap64 (n:=(t:Int)-1) (by omega) (by omega)]
    simp only [go_sem,ya,yd,aC,aR hw.pu,bc _ hw.pu]<;>rfl,by omega,AD,Cr,eg,by omega,by simp [sv]⟩
   rw [lp] at t13;have ai2:=qt (l:=pre++y2++post) (o:=pre.length+n) (by rw [mL];omega);rw [zG (by omega),lp,agO] at ai2;have MN:=fun (hp:Hp) (ct:Nat)=>AP (hp:=hp) (ct:=ct) (id:=1) (v:=z+c) (ex:=false) (l:=pre++y2++post) (o:=j+n) (by rw [mL];omega)
   have K6:=KG (pre:=pre) (x:=y2) (post:=post) (i:=n) (z+c) (by omega);rw [lp] at K6;rw [K6] at MN;have sJ:=C5 (l:=y2) (i:=n) (x:=z+c) (by omega);rw [agO,show z+c-z=c by omega,cI,svv,f2] at sJ;have IY:(y2.set n (z+c)).length=n+1:=by simp [XD]
   have NR:dg ((y2.set n (z+c)).take n):=by
    have:(y2.set n (z+c)).take n=y2.take n:=by rw [yah,yag (by simp;omega)]
    rw [this];exact NQ
   have X6:((dv x%dv vs:Nat):Int)<1000000000^n:=by
    have qu:((1000000000^n:Nat):Int)=(1000000000:Int)^n:=by simp
    rw [<-qu];omega
   obtain ⟨g1,g2,g3⟩:=aa2 IY NR (by rw [sJ];omega) (by rw [sJ];exact X6)
   generalize y2.set n (z+c)=y3 at*
   have ft:(t:Int)-1=((dv x/dv vs:Nat):Int):=by rw [f1];omega
   simp only [go_sem,ya,yd,ym,aC,aR hw.pu,bc _ hw.pu,t8,t9,t10,t11,t12,t13,t14,t19,show (j:Int)+(n:Int)=((j+n:Nat):Int) from rfl,wrapN (n:=j+n) (by omega),cS 1 0 (show j+n<M by omega),yh,ai2,wrap64 (n:=z+c) (by omega) (by omega),MN,cS 2 0 (show j<m by omega),ai1];rw [ft];refine ⟨_,j,rfl,by omega,fin _ y3 ?_ IY g2 sJ⟩;rw [wrap64 (by omega) (by omega)];simp only [go_sem,ya,yd,aC,aR hw.pu,bc _ hw.pu]<;>rfl
  ·obtain ⟨f1,f2⟩:=s0 eQ;have X6:((dv x%dv vs:Nat):Int)<1000000000^n:=by
    have qu:((1000000000^n:Nat):Int)=(1000000000:Int)^n:=by simp
    rw [<-qu];omega
   obtain ⟨g1,g2,g3⟩:=aa2 AD Cr (by rw [f2];omega) (by rw [f2];exact X6)
   simp only [go_sem,ya,yd,ym,aC,aR hw.pu,bc _ hw.pu,t8,t9,t10,t11,t12,t13,t14,t15,show (j:Int)+(n:Int)=((j+n:Nat):Int) from rfl,wrapN (n:=j+n) (by omega),cS 1 0 (show j+n<M by omega),yh,X3,<-X4,wrap64 (n:=z) (by omega) (by omega),De,X5,eQ,cS 2 0 (show j<m by omega),ai1];rw [f1];refine ⟨_,j,rfl,by omega,fin _ y1 ?_ AD g2 f2⟩;rw [wrap64 (by omega) (by omega)];simp only [go_sem,ya,yd,aC,aR hw.pu,bc _ hw.pu]<;>rfl
def awC (h:Has P L 292 sc) {n:Nat} (hn:n<1000000000):ai P L 292 [ab n,ab 9] (.str (gS 9 n)):=by
 have key:=nG (P:=P) (L:=L) (live:=[0,1,5]) (a:=mI)
  (I:=fun k st=>∃(m:Nat) (s:List Nat),st=⟨[(0,ab m),(1,ab 9),(5,.str s)],[],0,0⟩/\s.length+k=9/\m<10^k/\gS 9 n=gS k m++s)
  (Q:=fun ex st=>∃tm ct,st=⟨tm,[],ct,0⟩/\ex= .exit 0/\aj tm 5= .str (gS 9 n)) ?_
 ·unfold ai;rw [aG h];simp only [go_sem,sc];generalize hq:D P L (.loop [0,1,5] mI) _=q;obtain ⟨ex,st,rfl,tm,ct,rfl,rfl,h2⟩:=cr hq (key 9) ⟨n,[],by simp only [go_sem,ya,aC]<;>rfl,rfl,by omega,by simp⟩
  simp only [go_sem,aC,h2]
 ·rintro k st ⟨m,s,rfl,hk,hm,hs⟩
  cases k with
  | zero=>
   right
   have pN:m=0:=by simpa using hm
   subst pN;simp only [go_sem,ya,mI,show ¬(0:Int)<((0:Nat):Int) by omega,show ¬((s.length:Nat):Int)<9 by omega];refine ⟨_,_,rfl,by simp,_,_,rfl,rfl,?_⟩;rw [hs];rfl
  | succ k=>
   left
   have hr:((m:Int)).tmod 10=((m%10:Nat):Int):=by rw [xD (by omega)];rfl
   have hq:((m:Int)).tdiv 10=((m/10:Nat):Int):=by rw [xE (by omega)];rfl
   have hd:=Zb (r:=m%10) (by omega);have It:m<10000000000:=yE hm (by simpa using yR (show 0<10 by decide) (show k+1<=10 by omega));have fin:∃s',D P L mI ⟨[(0,ab m),(1,ab 9),(5,.str s)],[],0,0⟩=some (.normal,s')/\aP [0,1,5] s'=⟨[(0,ab (m/10:Nat)),(1,ab 9),(5,.str ([48+m%10]++s))],[],0,0⟩:=by
    by_cases hc:(0:Int)<m
    ·simp only [go_sem,ya,yd,mI,hc,fo _ _ _ (show (10:Int)≠0 by decide),eI _ _ _ (show (10:Int)≠0 by decide),hr,hq,wrapN (n:=m%10+1) (by omega),wrap64 (n:=((m/10:Nat):Int)) (by omega) (by omega),ef,df,show ((m%10:Nat):Int)+1=((m%10+1:Nat):Int) from rfl,hd,fQ (a:=[48+m%10]) (b:=s) (by simp;omega)];exact ⟨_,rfl,by simp only [go_sem,ya,aC]⟩
    ·simp only [go_sem,ya,yd,mI,hc,show ((s.length:Nat):Int)<9 by omega,fo _ _ _ (show (10:Int)≠0 by decide),eI _ _ _ (show (10:Int)≠0 by decide),hr,hq,wrapN (n:=m%10+1) (by omega),wrap64 (n:=((m/10:Nat):Int)) (by omega) (by omega),ef,df,show ((m%10:Nat):Int)+1=((m%10+1:Nat):Int) from rfl,hd,fQ (a:=[48+m%10]) (b:=s) (by simp;omega)];exact ⟨_,rfl,by simp only [go_sem,ya,aC]⟩
   obtain ⟨s',f1,f2⟩:=fin;exact ⟨s',k,f1,by omega,m/10,_,f2,by simp;omega,by rw [yU] at hm;omega,by rw [hs];simp [gS]⟩
end
def last_pos {l:List Int} (hd:dg l) (hn:nz l) (h:0<l.length):0<l.getD (l.length-1) 0:=by
 rcases snoc l with rfl | ⟨m,a,rfl⟩
 ·grind
 ·have e:(m++[a]).getD ((m++[a]).length-1) 0=a:=by simp_all
  have ha:=jF.1 (gg.1 hd).2;by_cases h0:a=0
  ·subst h0
   have:=JL m
   have e:=congrArg List.length hn;rw [FG] at e
   grind
  ·omega
section
variable {P:aM} {L:Lib}
def awD (od:Has P L 292 sc) {neg:Bool} {w:AV} {l:List Int} (hw:bw w l) (hd:dg l) (hn:nz l) (hl:l.length<=20000000000):
  ∀k s,(∃(j:Nat) (t:List Nat),aP [1,3,4] s=⟨[(1,.ptr 0 0),(3,.str t),(4,ab ((j:Int)-1))],[(0,.cells true true true 2 [.bool neg,w])],1,0⟩/\j=k/\j<l.length/\0<dv (l.drop j)/\t=aq (dv (l.drop j))/\t.length<=9*(l.length-j))->
   ∃ex s',D P L (.loop [1,3,4] Gy) s=some (ex,s')/\∃tm,s'=⟨tm,[(0,.cells true true true 2 [.bool neg,w])],1,0⟩/\ex= .exit 0/\aj tm 1= .ptr 0 0/\aj tm 3= .str (aq (dv l))/\(aq (dv l)).length<=180000000000:=by
 intro dq sq;generalize bq:aP [1,3,4] sq=s0;revert bq s0 sq dq;apply dt;rintro k s ⟨j,t,rfl,rfl,hj,mZ,ht,XV⟩
 cases j with
 | zero=>
  right
  rw [yt] at ht;simp only [go_sem,ya,Gy,show ¬(0:Int)<=((0:Nat):Int)-1 by omega];exact ⟨_,_,rfl,by simp,_,rfl,rfl,by simp only [go_sem,ya],by rw [<-ht];simp only [go_sem,ya],by rw [<-ht];omega⟩
 | succ i=>
  left
  have hi:i<l.length:=by omega
  obtain ⟨x,hx⟩:∃x,x=l.getD i 0:=⟨_,rfl⟩;have e1:=ph hw hi;have gx:=gC hd i;rw [<-hx] at e1 gx;obtain ⟨m,rfl⟩:∃m:Nat,x=m:=⟨x.toNat,by omega⟩;have e2:=awC od (n:=m) (by omega);unfold ai at e2;have hlp:=Pd 9 m;have gM:dv (l.drop i)=dv (l.drop (i+1))*10^9+m:=by
   have:l.drop i=(m:Int)::l.drop (i+1):=by
    rw [y8 hi,hx];simp [xF,wA hi]
   rw [this];simp only [dv,wv];omega
  have aAg:aq (dv (l.drop i))=t++gS 9 m:=by
   rw [gM,J3 9 _ m mZ (by omega),ht]
  simp only [go_sem,ya,Gy,show ((i+1:Nat):Int)-1=(i:Int) by omega,show (0:Int)<=(i:Int) by omega,bQ,yh,cO,e1,e2,fQ (a:=t) (b:=gS 9 m) (by omega)];refine ⟨_,i,rfl,by omega,i,t++gS 9 m,?_,rfl,by omega,by omega,aAg.symm,by simp;omega⟩;rw [wrap64 (by omega) (by omega)];simp only [go_sem,ya,yd,aC]<;>rfl
def Wv (h:Has P L 282 Hx) (od:Has P L 292 sc) {v:AV} {n:Int} {K:Nat} (hK:K<=18000000000) (hv:je v n) (hn:n.natAbs<1000000000^K):ai P L 282 [v] (.str (aU n))/\(aU n).length<=180000000001:=by
 obtain ⟨w,l,rfl,hw,hd,hz,oO⟩:=hv;have hl:=xe (iM hd hz (by rw [oO];exact hn)) hK
 by_cases h0:l=[]
 ·subst h0;have oD:n=0:=by simp [dv] at oO;omega
  subst oD;refine ⟨?_,by decide⟩;unfold ai;rw [aG h];simp only [go_sem,ya,yd,Hx,bf,hw.len,hw.pu,hw.one,bQ,yh,cO,yV,show ((0:Nat):Int)=(0:Int) from rfl,yq];rfl
 ·have mZ:0<l.length:=uz.2 h0;obtain ⟨x,hx⟩:∃x,x=l.getD (l.length-1) 0:=⟨_,rfl⟩;have e1:=ph hw (show l.length-1<l.length by omega);have gx:=gC hd (l.length-1);have gp:=last_pos hd hz mZ;rw [<-hx] at e1 gx gp;obtain ⟨m,rfl⟩:∃m:Nat,x=m:=⟨x.toNat,by omega⟩;have e2:=VW od (n:=m) (by omega);have gM:dv (l.drop (l.length-1))=m:=by
   rw [y8 (show l.length-1<l.length by omega),xu (by omega)]
   have:l[l.length-1]=(m:Int):=by rw [hx];simp [xF,wA (show l.length-1<l.length by omega)]
   simp [dv,this]
  have h9:(aq m).length<=9:=pW (k:=8) (by omega);have fin:∀neg:Bool,bM P L (D P L) 282 [.agg [.bool neg,w]]=some (.str ((if neg=true then [45] else [])++aq (dv l)))/\(aq (dv l)).length<=180000000000:=fun neg=>by
   rw [aG h]
   simp only [go_sem,ya,yd,Hx,bf,hw.len,hw.pu,hw.one,bQ,yh,cO,show ¬(l.length:Int)=0 by omega,show (l.length:Int)-1=((l.length-1:Nat):Int) by omega,wrapN (n:=l.length-1) (by omega),e1,e2];generalize hq:D P L (.loop [1,3,4] Gy) _=q;obtain ⟨ex,s,rfl,tm,rfl,rfl,t1,t3,hlen⟩:=cr hq (awD (P:=P) (L:=L) od (neg:=neg) hw hd hz (by omega) (l.length-1)) ⟨l.length-1,aq m,by
    rw [show (l.length:Int)-2=((l.length-1:Nat):Int)-1 by omega,wrap64 (by omega) (by omega)]
    simp only [go_sem,ya,yd,aC]<;>rfl,rfl,by omega,by rw [gM];omega,by rw [gM],by omega⟩
   refine ⟨?_,hlen⟩
   cases neg with
   | true=>
    simp only [go_sem,ya,aC,t1,t3,bQ,yh,fQ (a:=[45]) (b:=aq (dv l)) (by simp;omega),xR]
   | false=>
    simp only [go_sem,ya,aC,t1,t3,bQ,yh];rfl
  obtain ⟨f1,f2⟩:=fin (decide (n<0));rw [oO] at f1 f2;simp only [th] at f1;rw [mz] at f1;refine ⟨f1,?_⟩;rw [<-mz]
  split<;>simp<;>omega
structure Rb (P:aM) (L:Lib):Prop where
 aAh:Has P L 262 Hs
 Ac:Has P L 272 Hw
 ai3:Has P L 274 LF
 ai4:Has P L 275 LG
 aAi:Has P L 277 BO
 aAj:Has P L 280 mO
 ai5:Has P L 281 LI
 Ww:Has P L 282 Hx
 ai6:Has P L 288 LK
 Ib:Has P L 289 qB
 sn:Has P L 290 Dr
 VX:Has P L 291 HA
 od:Has P L 292 sc
 jR:Has P L 293 zV
 gT:Has P L 294 zW
 Wt:Has P L 295 HB
 mY:Has P L 296 qC
 ai7:Has P L 298 LL
 ol:Has P L 299 zX
 cD:Has P L 300 kK
 mf:Has P L 302 qD
structure Ras (P:aM) (L:Lib):Prop extends Rb P L where
 ai8:Has P L 264 Ht
 aAk:Has P L 268 Hv
 aAl:Has P L 271 Rc
 aAm:Has P L 276 n8
 Ic:Has P L 278 LH
 aAn:Has P L 279 Dp
 M0:Has P L 297 HC
structure Ra (P:aM) (L:Lib):Prop extends Ras P L where
 ai9:Has P L 267 Hu
def asI {v w:AV} {a vs:List Int} {f:Int} (hv:bw v a) (hw:bw w vs) {n:Nat} (la:a.length<=9000000000) {A:Nat}:
  ∀k st,(∃us:List Int,aP [0,8,9,10,11] st=⟨[(0,v),(8,.aD 0 0 1),(9,w),(10,ab n),(11,.aD 1 0 us.length)],[(1,.cells true true false 1 (us.map ab)),(0,.cells false true true 1 [ab f])],2,0⟩/\us.length+k=a.length+1/\dg us/\dv us=A)->
   ∃ex st',D P L (.loop [0,8,9,10,11] Gz) st=some (ex,st')/\∃tm us,st'=⟨tm,[(1,.cells true true false 1 (us.map ab)),(0,.cells false true true 1 [ab f])],2,0⟩/\ex= .exit 0/\aj tm 8= .aD 0 0 1/\aj tm 9=w/\aj tm 10=ab n/\aj tm 11= .aD 1 0 (a.length+1)/\us.length=a.length+1/\dg us/\dv us=A:=by
 intro dq sq;generalize bq:aP [0,8,9,10,11] sq=s0;revert bq s0 sq dq;apply dt;rintro k st ⟨us,rfl,hk,gu,aI⟩;have ea:((a.length:Nat):Int)+1=((a.length+1:Nat):Int):=rfl;by_cases hi:us.length<a.length+1
 ·left
  simp only [go_sem,ya,yd,yC,ym,Gz,hv.len,ea,wrapN (n:=a.length+1) (by omega),show ((us.length:Nat):Int)<((a.length+1:Nat):Int) by omega]
  rw [kw (ex:=false) (pu:=true) (cs:=us.map ab) (by simp only [go_sem,ya]) (by simp) (by omega) (by omega) (by decide) (by simp only [go_sem])];refine ⟨_,k-1,rfl,by omega,us++[0],?_,by simp;omega,gg.2 ⟨gu,jF.2 (by decide)⟩,by rw [kT];simp [dv,aI]⟩;rw [xH,yY];simp only [go_sem,ya,yd,aC,aR hv.pu,bc _ hv.pu,aR hw.pu,bc _ hw.pu]<;>rfl
 ·right
  have hl:us.length=a.length+1:=by omega
  rw [hl]
  simp only [go_sem,ya,Gz,hv.len,ea,wrapN (n:=a.length+1) (by omega),show ¬((a.length+1:Nat):Int)<((a.length+1:Nat):Int) by omega];exact ⟨_,_,rfl,by simp,_,us,rfl,rfl,by simp only [go_sem,ya],by simp only [go_sem,ya],by simp only [go_sem,ya],by simp only [go_sem,ya],hl,gu,aI⟩
end
def afy:∀l:List Int,cK (l.map ab)=true
 | []=>rfl
 | a::r=>by rw [xm,ZW,afy r];rfl
def afz:∀l:List Int,aH (l.map ab)=true
 | []=>rfl
 | a::r=>by rw [xm,aH,afz r];rfl
def asJ {hp:Hp} {ct:Nat} {e:Bool} {us:List Int} {o:Obj} (h:us.length<=100000000000):
  BT ((1,.cells true true true 1 [])::(0,o)::hp) ct 1 8 (.aD 1 0 0) (kW ((1,.cells true true true 1 [])::(0,o)::hp) 1 (.aB e us.length (us.map ab)))=some (.aD ct 0 us.length,(ct,.cells true true false 1 (us.map ab))::ej ((1,.cells true true true 1 [])::(0,o)::hp) 1,ct+1):=by
 have h1:kW ((1,.cells true true true 1 [])::(0,o)::hp) 1 (.aB e us.length (us.map ab))=some (us.length,us.map ab):=by
  simp [kW]
 rw [h1,kw (cs:=[]) (pu:=true) (ex:=true) rfl (by simp) (by omega) (by omega) (by decide) (afy us),afz,yh];rfl
def awE {l:List Int} (hd:dg l) (hn:nz l) (h:0<l.length):1000000000^(l.length-1)<=dv l:=KW hn hd (fun e=>by subst e;simp at h)
def aqp {n top f V:Nat} (hf:f=1000000000/(top+1)) (X2:0<top) (ht:top<1000000000) (h1:V<1000000000^(n-1)*(top+1)) (hn:0<n):0<f/\f<1000000000/\V*f<1000000000^n:=by
 have h2:f*(top+1)<=1000000000:=by rw [hf];exact Nat.div_mul_le_self _ _
 have h3:0<f:=by rw [hf];exact ycp (by omega) (by omega)
 refine ⟨h3,?_,?_⟩
 ·have:=yP f (show 2<=top+1 by omega)
  omega
 ·have e1:=xI h1 h3;have e2:=yP (1000000000^(n-1)) h2;rw [<-yU,show (n-1).succ=n by omega] at e2
  grind
section
variable {P:aM} {L:Lib}
def awF (h:Has P L 289 qB) (jR:Has P L 293 zV) (ol:Has P L 299 zX) (cD:Has P L 300 kK) (px:Has P L 301 sd) {v w:AV} {a b:List Int} (hv:bw v a) (hw:bw w b) (ha:dg a) (hb:dg b) (na:nz a) (nb:nz b) (la:a.length<=8000000000) (lb:2<=b.length) (ec:ai P L 296 [v,w] (ab (dF (dv a) (dv b)))) (hc:dv b<=dv a):
  ∃q r lq lr,ai P L 289 [v,w] (.aa [q,r])/\bw q lq/\bw r lr/\dg lq/\nz lq/\dg lr/\nz lr/\dv lq=dv a/dv b/\dv lr=dv a%dv b:=by
 have dU:¬dF (dv a) (dv b)<0:=by unfold dF;rw [yu (by omega)];split<;>decide
 have ayv:=awE hb nb (by omega);have hba:b.length<=a.length:=by
  have:=iX ha
  have h1:1000000000^(b.length-1)<1000000000^a.length:=by omega
  have:=(uE (show 1<1000000000 by decide)).1 h1
  omega
 obtain ⟨n,hn⟩:∃n,n=b.length:=⟨_,rfl⟩;have aAo:=gC hb (n-1);have mM:=last_pos hb nb (by omega);rw [<-hn] at mM;obtain ⟨top,mU⟩:∃v:Nat,b.getD (n-1) 0=v:=⟨(b.getD (n-1) 0).toNat,by omega⟩;have aja:=ph hw (i:=n-1) (by omega);rw [mU] at aAo mM aja;have hbt:=nO (l:=b) (n-1);rw [show n-1+1=n by omega,yQ (by omega),mU,wv] at hbt;have ayw:=iX (A7 hb (n-1));rw [yW,xA (by omega)] at ayw;obtain ⟨f,hf⟩:∃f,f=1000000000/(top+1):=⟨_,rfl⟩;obtain ⟨Cy,hfB,hfV⟩:=aqp (n:=n) (V:=dv b) hf (by omega) (by omega) (by rw [xr,ym];omega) (by omega);have hIf:bw (.aB true 1 [ab f]) [(f:Int)]:=mD true [(f:Int)];have gf:dg [(f:Int)]:=jF.2 (by omega);have vf:dv [(f:Int)]=f:=by simp [dv]
 obtain ⟨v',vs,e1,eA,hsv,Cs,I1,rm⟩:=Ws jR cD hw hIf hb gf (by omega) (by simp);obtain ⟨u',AQ,e2,iG,Co,Ep,nus,Jc⟩:=Ws jR cD hv hIf ha gf (by omega) (by simp);rw [vf] at rm Jc;have pL:0<dv b:=by have:=yao (n:=b.length-1) (show 0<1000000000 by decide);omega
 have sT:vs.length=n:=by
  have h1:vs.length<=n:=iM Cs I1 (by rw [rm];exact hfV)
  have h2:dv b<=dv vs:=by rw [rm];exact uL _ Cy
  have h3:=iX Cs;have h4:1000000000^(n-1)<1000000000^vs.length:=by rw [hn];omega
  have:=(uE (show 1<1000000000 by decide)).1 h4
  omega
 have NT:AQ.length<=a.length+1:=by
  refine iM Ep nus ?_;rw [Jc,yU];exact tz (iX ha) hfB
 have ajb:0<AQ.length:=by
  rcases xh AQ.length with e | e
  ·have h1:0<dv a*f:=vd (by omega) Cy;rw [yD e] at Jc;simp only [dv] at Jc;omega
  ·exact e
 have eG:0<vs.getD (n-1) 0:=by
  have:=last_pos Cs I1 (by omega)
  rwa [sT] at this
 obtain ⟨m,hm⟩:∃m,m=a.length+1-n:=⟨_,rfl⟩;have cz:∀ct:Nat,Ab ct 1 8 [.int .i64 0] (some m) (some m)=some (.aD ct 0 m,.cells true true true 1 ((yK m (0:Int)).map ab)):=fun ct=>by
  rw [KB (sz:=1) (by omega) (by omega) (by rfl) (by rfl),Oz];rfl
 obtain ⟨e,rfl⟩:∃e,u'= .aB e AQ.length (AQ.map ab):=by
  rcases iG with ⟨rfl,h0⟩ | ⟨e,rfl⟩
  ·rw [List.map_eq_nil_iff] at h0;rw [h0] at ajb;simp at ajb
  ·exact ⟨e,by rw [xy]⟩
 have Qy:∀us:List Int,us.length=a.length+1->dv us=dv a*f->dv (us.drop m)<dv vs:=fun us hl hd=>by
  have e1:=Pj us m (by omega);have e2:=iX ha;have e3:=xI e2 Cy;have e4:1000000000^a.length=1000000000^m*1000000000^(n-1):=by rw [<-xj];congr 1;omega
  rw [<-hd,e4,xb] at e3;have e5:1000000000^m*dv (us.drop m)<1000000000^m*(1000000000^(n-1)*f):=by omega
  refine yE (Nat.lt_of_mul_lt_mul_left e5) ?_;rw [rm,hn];exact yT _ ayv
 have iq:∃us qs,(us.length=a.length+1/\qs.length=m/\dg us/\dg qs/\dv us+dv qs*dv vs=dv a*f/\dv us<dv vs)/\
   ∃q1 r1 lr,bw q1 (dH qs)/\bw r1 lr/\dg lr/\nz lr/\dv lr=dv (us.take n)/f/\ai P L 289 [v,w] (.aa [q1,r1]):=by
  unfold ai at ec e1 e2;unfold ai;rw [aG h];have H4:IntKind.wrap .i64 ((1000000000:Int).tdiv ((top+1:Nat):Int))=(f:Int):=by
   rw [xE (by decide),show (1000000000:Int)/((top+1:Nat):Int)=((1000000000/(top+1):Nat):Int) from rfl,<-hf,wrap64 (by omega) (by omega)]
  simp only [go_sem,ya,yd,yO,yC,ym,qB,hv.an,hw.len,hw.an,ec,dU,show ¬(n:Int)=1 by omega,<-hn,show (n:Int)-1=((n-1:Nat):Int) by omega,wrapN (n:=n-1) (by omega),aja,show ((top:Nat):Int)+1=((top+1:Nat):Int) from rfl,wrapN (n:=top+1) (by omega),eI _ _ _ (show ((top+1:Nat):Int)≠0 by omega),H4,e1,hsv,eA.len,sT,e2,Co,asJ (us:=AQ) (e:=e) (by omega)];generalize bq:D P L (.loop [0,8,9,10,11] Gz) _=q0;obtain ⟨ex,st,rfl,tm,us,rfl,rfl,t8,t9,t10,t11,lu,gu,vu⟩:=cr bq (asI (P:=P) (L:=L) (f:=(f:Int)) (n:=n) (A:=dv a*f) hv eA (by omega) (a.length+1-AQ.length)) ⟨AQ,by
   simp only [go_sem,ya,yd,aC,aR hv.pu,bc _ hv.pu,aR eA.pu,bc _ eA.pu]<;>rfl,by omega,Ep,Jc⟩
  have em:((a.length+1:Nat):Int)-(n:Int)=(m:Int):=by omega
  have em1:(m:Int)-1=((m-1:Nat):Int):=by omega
  simp only [go_sem,ya,yd,aC,aR eA.pu,bc _ eA.pu,t8,t9,t10,t11,em,wrapN (n:=m) (by omega),cz,em1,wrapN (n:=m-1) (by omega)];generalize fk:D P L (.loop [8,9,10,11,12,13] GB) _=q1;obtain ⟨ex,st,rfl,pz,AR,qs,rfl,rfl,t8,t10,t11,t12,lu1,I5,gu1,gq1,aI,aF⟩:=cr fk (asH (P:=P) (L:=L) px (f:=(f:Int)) eA Cs sT (by omega) (show n<a.length+1 by omega) (by omega) (by omega) eG (U0:=dv a*f) m) ⟨m,us,yK m 0,by
   rw [show ((m-1:Nat):Int)=(m:Int)-1 by omega]
   simp only [go_sem,ya,yd,aC,aR eA.pu,bc _ eA.pu]<;>rfl,rfl,yA _,lu,by simp,gu,aaI m,fun i _=>Zl m i,by rw [aaH,wE,yZ,vu],Qy us lu vu⟩
  have kN:∀(hp:Hp) tm (y:X),aA hp 1=some (.cells true true false 1 (AR.map ab))->cP tm (a.length+1) (some y)=some n->fb hp (.sl 1) (.aD 1 0 (a.length+1)) tm none (some y)=some (.aD 1 0 n):=fun hp tm y h1 h2=>aaR h1 h2 (by omega) (by omega)
  obtain ⟨e',I3⟩:∃e',∀hp:Hp,kM 0 n (some (false,1,AR.map ab,hp))=some (.aB e' n ((AR.take n).map ab),hp):=by
   refine ⟨false&&yI 0 1&&yp n (AR.map ab).length,fun hp=>?_⟩;simp only [kM,yh,ym,slice,yt,<-List.map_take];rw [yr (by simp;omega)];rfl
  have ltk:(AR.take n).length=n:=by rw [yW];omega
  have iE:=mD e' (AR.take n);rw [ltk] at iE;obtain ⟨r0,f1,nl,aAp⟩:=Ad cD iE (by omega);obtain ⟨r1,lr,f2,dO,aGg,ayx,dr,nr,vr⟩:=aiZ ol cD nl (zi (A7 gu1 n)) (by have:=JL (AR.take n);omega) Cy hfB;have I2:=mD true qs;rw [I5] at I2;obtain ⟨q1,f3,fk,aAq⟩:=Ad cD I2 (by omega);rw [rE] at vr;unfold ai at f1 f2 f3;refine ⟨AR,qs,⟨lu1,I5,gu1,gq1,aI,aF⟩,q1,r1,lr,fk,dO,dr,nr,vr,?_⟩;have nt:lj 1 0 (AV.aD 0 0 1)=some (.ptr 0 0):=cS 0 0 (show 0<1 by omega)
  simp only [go_sem,ya,yd,aC,t8,t10,t11,t12,kN,df,I3,f1,aAp,nl.an,nt,f2,ayx,fun hp=>rF (hp:=hp) (k:=m) (sz:=1) (cs:=qs.map ab) true (by simp [I5]) (by decide),f3,aAq];rcases fk with ⟨rfl,_⟩ | ⟨_,rfl⟩<;>rcases dO with ⟨rfl,_⟩ | ⟨_,rfl⟩<;>rfl
 obtain ⟨us,qs,⟨lu,lq,gu,gq,aI,aF⟩,q1,r1,lr,fk,dO,dr,nr,vr,e⟩:=iq;rw [rm] at aI aF;have H4:dv qs=dv a/dv b:=by
  rw [<-Nat.mul_div_mul_right _ _ Cy,<-aI,ybl,xg,yaw (vd pL Cy),xL aF,yZ]
 have NV:dv us=(dv a%dv b)*f:=by
  rw [<-Nat.mul_mod_mul_right,<-aI,ybl,xg (dv qs),yax,yG aF]
 have jn:=Pj us n (by omega);have fE:dv (us.drop n)=0:=by
  rcases xh (dv (us.drop n)) with h0 | h0
  ·exact h0
  ·have:=yP (1000000000^n) h0
   omega
 rw [fE,xp,yZ] at jn;rw [<-jn,NV,ui _ Cy] at vr;exact ⟨q1,r1,_,lr,e,fk,dO,zi gq,CQ _,dr,nr,by rw [rE,H4],vr⟩
def agP (h:Has P L 289 qB) (jR:Has P L 293 zV) (mY:Has P L 296 qC) (ol:Has P L 299 zX) (cD:Has P L 300 kK) (px:Has P L 301 sd) {v w:AV} {a b:List Int} (hv:bw v a) (hw:bw w b) (ha:dg a) (hb:dg b) (na:nz a) (nb:nz b) (la:a.length<=8000000000) (lb:b.length<=8000000000) (h0:0<dv b):
  ∃q r lq lr,ai P L 289 [v,w] (.aa [q,r])/\bw q lq/\bw r lr/\dg lq/\nz lq/\dg lr/\nz lr/\dv lq=dv a/dv b/\dv lr=dv a%dv b:=by
 by_cases hl:b.length<=1
 ·exact aAa h mY ol cD hv hw ha hb na nb (by omega) hl h0
 have ec:=Wr mY hv hw ha hb na nb (by omega) (by omega);by_cases hc:dv a<dv b
 ·unfold ai at ec;have dU:dF (dv a) (dv b)= -1:=by unfold dF;rw [yL hc]
  rw [dU] at ec;refine ⟨.ae,v,[],a,?_,zn,hv,rfl,rfl,ha,na,?_,?_⟩
  ·unfold ai;rw [aG h];simp only [go_sem,ya,qB,hv.an,hw.an,ec,show (-1:Int)<0 by decide];rcases hv with ⟨rfl,_⟩ | ⟨e,rfl⟩<;>rfl
  ·rw [xL hc];rfl
  ·rw [yG hc]
 ·exact awF h jR ol cD px hv hw ha hb na nb la (by omega) ec (by omega)
def agQ (h:Has P L 275 LG) (Ib:Has P L 289 qB) (jR:Has P L 293 zV) (mY:Has P L 296 qC) (ol:Has P L 299 zX) (cD:Has P L 300 kK) (px:Has P L 301 sd) {v w:AV} {a b:List Int} (hv:bw v a) (hw:bw w b) (ha:dg a) (hb:dg b) (na:nz a) (nb:nz b) (la:a.length<=8000000000) (lb:b.length<=8000000000):
  ∃r l,ai P L 275 [v,w] r/\bw r l/\dg l/\nz l/\dv l=wo (dv a) (dv b):=by
 have key:=nG (P:=P) (L:=L) (live:=[0,1]) (a:=Gx)
  (I:=fun k st=>∃x y lx ly,st=⟨[(0,x),(1,y)],[],0,0⟩/\bw x lx/\bw y ly/\dg lx/\nz lx/\dg ly/\nz ly/\lx.length<=8000000000/\ly.length<=8000000000/\dv ly=k/\wo (dv lx) (dv ly)=wo (dv a) (dv b))
  (Q:=fun ex st=>∃tm ct,st=⟨tm,[],ct,0⟩/\ex= .exit 0/\∃x lx,aj tm 0=x/\bw x lx/\dg lx/\nz lx/\dv lx=wo (dv a) (dv b)) ?_
 ·unfold ai;rw [aG h];simp only [go_sem,LG];generalize hq:D P L (.loop [0,1] Gx) _=q;obtain ⟨ex,st,rfl,tm,ct,rfl,rfl,x,lx,h2,hx,dx,nx,vx⟩:=cr hq (key (dv b)) ⟨v,w,a,b,by simp only [go_sem,ya,aC,aR hv.pu,bc _ hv.pu,aR hw.pu,bc _ hw.pu]<;>rfl,hv,hw,ha,na,hb,nb,la,lb,rfl,rfl⟩
  refine ⟨x,lx,?_,hx,dx,nx,vx⟩;simp only [go_sem,aC,h2,hx.dj,aR hx.pu,bc _ hx.pu]
 ·rintro k st ⟨x,y,lx,ly,rfl,hx,hy,dx,nx,dy,ny,llx,lly,rfl,hg⟩;by_cases h0:ly=[]
  ·right
   subst h0;simp only [go_sem,ya,Gx,hy.len,yV,show ¬(0:Int)<((0:Nat):Int) by omega];refine ⟨_,_,rfl,by simp,_,_,rfl,rfl,x,lx,by simp only [go_sem,ya],hx,dx,nx,?_⟩;rw [<-hg];simp [dv]
  ·left
   have hp:0<dv ly:=by
    rcases xh (dv ly) with e | e
    ·exact absurd (ad4 ny dy e) h0
    ·exact e
   have hl:0<ly.length:=uz.2 h0;obtain ⟨q,r,lq,lr,e1,hq,hr,dq,nq,dr,nr,vq,vr⟩:=agP Ib jR mY ol cD px hx hy dx dy nx ny llx lly hp;have aF:dv lr<dv ly:=by rw [vr];exact xv _ hp
   have hB:=iX dy;simp only [go_sem,ya,Gx,hx.an,hy.len,hy.an,show (0:Int)<ly.length by omega,e1,hq.b9,hr.b9];refine ⟨_,dv lr,rfl,aF,y,r,ly,lr,?_,hy,hr,dy,ny,dr,nr,by omega,xe (iM dr nr (vj aF hB)) lly,rfl,?_⟩
   ·simp only [go_sem,ya,aC,aR hy.pu,bc _ hy.pu,aR hr.pu,bc _ hr.pu]<;>rfl
   ·rw [<-hg,vr,tB (dv ly),<-Nat.gcd_rec,tB]
def awG (sn:Has P L 290 Dr) {neg:Bool} {N:Nat} (hN:(aq N).length<=180000000000):
  ∀k s,(∃(i m:Nat) (out:List Int),m=k/\out.length=i/\dg out/\dv out+1000000000^i*m=N/\(aq m).length+9*i<=180000000000/\
    ((i=0/\aP [0,2,3,4] s=⟨[(0,.str (aq m)),(2,.ptr 0 0),(3,.bool neg),(4,.ae)],[(0,.cells true true true 2 [.bool false,.ae])],1,0⟩)\/
    (0<i/\aP [0,2,3,4] s=⟨[(0,.str (aq m)),(2,.ptr 0 0),(3,.bool neg),(4,.aD 1 0 i)],[(1,.cells true true false 1 (out.map ab)),(0,.cells true true true 2 [.bool false,.ae])],2,0⟩)))->
   ∃ex s',D P L (.loop [0,2,3,4] rP) s=some (ex,s')/\∃tm i m out,ex= .exit 0/\m<1000000000/\out.length=i/\dg out/\dv out+1000000000^i*m=N/\i<20000000000/\aj tm 0= .str (aq m)/\aj tm 2= .ptr 0 0/\aj tm 3= .bool neg/\
    ((i=0/\aj tm 4= .ae/\s'=⟨tm,[(0,.cells true true true 2 [.bool false,.ae])],1,0⟩)\/(0<i/\aj tm 4= .aD 1 0 i/\s'=⟨tm,[(1,.cells true true false 1 (out.map ab)),(0,.cells true true true 2 [.bool false,.ae])],2,0⟩)):=by
 intro dq sq;generalize bq:aP [0,2,3,4] sq=s0;revert bq s0 sq dq;apply dt;rintro k s ⟨i,m,out,rfl,hlen,hd,aI,hl,hs⟩;by_cases hm:1000000000<=m
 ·left
  obtain ⟨q,hq⟩:∃q,q=m/1000000000:=⟨_,rfl⟩;obtain ⟨r,hr⟩:∃r,r=m%1000000000:=⟨_,rfl⟩;have kN:=ap4 hm;rw [<-hq,<-hr] at kN;have mh:=Pd 9 r;have hqp:=rG q;have hlm:(aq m).length=(aq q).length+9:=by rw [kN,yY,mh]
  have c1:gG (aq m) (some (aq q).length) (some (aq m).length)=some (.str (gS 9 r)):=by
   rw [kB (by omega) (yA _),xG,kN,uf]
  have c2:gG (aq m) (some 0) (some (aq q).length)=some (.str (aq q)):=by
   rw [kB (by omega) (by omega),yt,kN,ue]
  have e1:=HW sn (s:=gS 9 r) (v:=r) (by omega) (by rw [aaP 9 r 0 (by omega)];simp)
  unfold ai at e1;have pv:dg (out++[(r:Int)]):=gg.2 ⟨hd,jF.2 (by omega)⟩;have La:dv (out++[(r:Int)])+1000000000^(i+1)*q=N:=by
   rw [kT,hlen,<-aI,yU];have e:=vI m 1000000000;rw [<-hr,<-hq] at e;rw [<-e];simp only [dv,wv,xp,yZ,xr,xb];omega
  have Lk:((aq m).length:Int)-9=((aq q).length:Int):=by omega
  rcases hs with ⟨h0,rfl⟩ | ⟨h0,rfl⟩
  ·subst h0;have ir:out=[]:=yD hlen;subst ir
   simp only [go_sem,ya,yd,xQ,yO,yC,ym,rP,show (9:Int)<((aq m).length:Int) by omega,Lk,wrapN (n:=(aq q).length) (by omega),ef,eC,df,c1,c2,e1,kU];refine ⟨_,q,rfl,by omega,1,q,[]++[(r:Int)],rfl,rfl,pv,La,by omega,.inr ⟨by omega,?_⟩⟩;rfl
  ·simp only [go_sem,ya,yd,yC,ym,rP,show (9:Int)<((aq m).length:Int) by omega,Lk,wrapN (n:=(aq q).length) (by omega),ef,eC,df,c1,e1]
   rw [kw (ex:=false) (pu:=true) (cs:=out.map ab) (by simp only [go_sem,ya]) (by rw [xy,hlen,ym]) (by omega) (by omega) (by decide) (by simp only [go_sem])]
   simp only [go_sem,ya,yd,ef,eC,df,Lk,wrapN (n:=(aq q).length) (by omega),c2];refine ⟨_,q,rfl,by omega,i+1,q,out++[(r:Int)],rfl,by simp [hlen],pv,La,by omega,.inr ⟨by omega,?_⟩⟩;rw [xH];simp only [go_sem,ya,yd,aC]<;>rfl
 ·right
  have h9:(aq m).length<=9:=pW (k:=8) (by omega);have hp0:=rG m;rcases hs with ⟨h0,rfl⟩ | ⟨h0,rfl⟩
  ·simp only [go_sem,rP,show ¬(9:Int)<((aq m).length:Int) by omega];exact ⟨_,_,rfl,by simp,_,i,m,out,rfl,by omega,hlen,hd,aI,by omega,by simp only [go_sem,ya],by simp only [go_sem,ya],by simp only [go_sem,ya],.inl ⟨h0,by simp only [go_sem,ya],rfl⟩⟩
  ·simp only [go_sem,rP,show ¬(9:Int)<((aq m).length:Int) by omega];exact ⟨_,_,rfl,by simp,_,i,m,out,rfl,by omega,hlen,hd,aI,by omega,by simp only [go_sem,ya],by simp only [go_sem,ya],by simp only [go_sem,ya],.inr ⟨h0,by simp only [go_sem,ya],rfl⟩⟩
def ajc (h:Rb P L) {n:Int} (hn:(aq n.natAbs).length<=180000000000):∃r,ai P L 288 [.str (aU n)] r/\je r n:=by
 obtain ⟨u,hu⟩:∃u,u=aq n.natAbs:=⟨_,rfl⟩;obtain ⟨b,t,hb,jU,NM⟩:=FP n.natAbs;have hs:aU n=(if n<0 then [45] else [])++u:=by rw [hu,mz]
 have AA:0<u.length:=by rw [hu];exact rG _
 have pI:u[0]=b:=by
  have:u=b::t:=by rw [hu,hb]
  simp [this]
 have key:∀(s:St),aP [0,2,3,4] s=⟨[(0,.str u),(2,.ptr 0 0),(3,.bool (decide (n<0))),(4,.ae)],[(0,.cells true true true 2 [.bool false,.ae])],1,0⟩->
   ∃ex s',D P L (.loop [0,2,3,4] rP) s=some (ex,s')/\∃tm i m out,ex= .exit 0/\m<1000000000/\out.length=i/\dg out/\dv out+1000000000^i*m=n.natAbs/\i<20000000000/\aj tm 0= .str (aq m)/\aj tm 2= .ptr 0 0/\aj tm 3= .bool (decide (n<0))/\
    ((i=0/\aj tm 4= .ae/\s'=⟨tm,[(0,.cells true true true 2 [.bool false,.ae])],1,0⟩)\/(0<i/\aj tm 4= .aD 1 0 i/\s'=⟨tm,[(1,.cells true true false 1 (out.map ab)),(0,.cells true true true 2 [.bool false,.ae])],2,0⟩)):=fun s hc=>
  awG (P:=P) (L:=L) h.sn (neg:=decide (n<0)) hn n.natAbs s ⟨0,n.natAbs,[],rfl,rfl,rfl,by simp [dv],by omega,.inl ⟨rfl,by rw [hc,hu]⟩⟩
 have fin:∀(i m:Nat) (out:List Int),m<1000000000->out.length=i->dg out->dv out+1000000000^i*m=n.natAbs->i<20000000000->∃w l,bM P L (D P L) 294 [.bool (decide (n<0)),.aB false (i+1) ((out++[(m:Int)]).map ab)]=some (.agg [.bool (decide (n<0)),w])/\bw w l/\dg l/\nz l/\dv l=n.natAbs:=fun i m out h1 h2 h3 h4 h5=>by
  have hv:=mD false (out++[(m:Int)]);have hd:dg (out++[(m:Int)]):=gg.2 ⟨h3,jF.2 (by omega)⟩;have aI:dv (out++[(m:Int)])=n.natAbs:=by rw [kT,h2];simp [dv];exact h4
  obtain ⟨r,e,hr⟩:=pq h.gT h.cD (decide (n<0)) hv hd (by simp;omega);have oP:cp (decide (n<0)) (dv (out++[(m:Int)]))=n:=by
   rw [aI];unfold cp;by_cases h0:n<0
   ·simp only [h0,yq,xR];omega
   ·simp only [h0,yv,yB,xk];omega
  rw [oP] at hr;obtain ⟨w,l,rfl,hw,fN,jc,cI⟩:=hr;simp only [yY,List.length_singleton,h2] at e;exact ⟨w,l,e,hw,fN,jc,cI⟩
 unfold ai;rw [hs];by_cases h0:n<0
 ·rw [yL h0,aG h.ai6];have jV:gG (45::u) (some 1) (some (u.length+1))=some (.str u):=by rw [kB (s:=45::u) (l:=1) (h:=u.length+1) (by omega) (by simp)];simp
  simp only [h0,yq] at key fin ⊢;simp only [go_sem,ya,yd,LK,bf,show (0:Int)<((u.length+1:Nat):Int) by omega,xi,xW,BU,yq,ef,eC,df,jV];generalize hq:D P L (.loop [0,2,3,4] rP) _=q;obtain ⟨ex,s,rfl,tm,i,m,out,rfl,hm,hlen,hd,aI,hi,t0,t2,t3,BE⟩:=cr hq key (by simp only [go_sem,ya,yd,aC]<;>rfl)
  have e1:=HW h.sn (s:=aq m) (v:=m) (by have:=pW (k:=8) (n:=m) (by omega);omega) (rC m);have jT:i<20000000000:=hi;obtain ⟨w,l,e2,hw,fN,jc,cI⟩:=fin i m out hm hlen hd aI jT;refine ⟨_,?_,w,l,rfl,hw,fN,jc,cI⟩;unfold ai at e1;rcases BE with ⟨oQ,t4,rfl⟩ | ⟨oQ,t4,rfl⟩
  ·subst oQ;have ir:out=[]:=yD hlen;subst ir;have iE:∀hp:Hp,kM 0 1 (some (false,1,[AV.int .i64 (m:Int)],hp))=some (.aB false 1 [AV.int .i64 (m:Int)],hp):=fun hp=>rfl
   simp only [xW,xm,vW,yh] at e2;simp only [go_sem,ya,yd,xQ,yO,yC,ym,aC,t0,t2,t3,t4,e1,kU,iE,e2,bF,hw.pu,hw.one,fD];rcases hw with ⟨rfl,_⟩ | ⟨e,rfl⟩<;>simp only [h0,yq]<;>rfl
  ·simp only [go_sem,ya,yd,yC,ym,aC,t0,t2,t3,t4,e1]
   rw [kw (ex:=false) (pu:=true) (cs:=out.map ab) (by simp only [go_sem,ya]) (by rw [xy,hlen,ym]) (by omega) (by omega) (by decide) (by simp only [go_sem])];have iE:∀hp:Hp,kM 0 (i+1) (some (false,1,out.map ab++[AV.int .i64 (m:Int)],hp))=some (.aB false (i+1) (out.map ab++[AV.int .i64 (m:Int)]),hp):=fun hp=>rF false (by simp [hlen]) (by decide)
   simp only [xH,xm,vW] at e2;simp only [go_sem,ya,yd,iE,e2,bF,hw.pu,hw.one,fD,vO];rcases hw with ⟨rfl,_⟩ | ⟨e,rfl⟩<;>simp only [h0,yq]<;>rfl
 ·rw [yu h0,aG h.ai6,xW];simp only [h0,yv] at key fin ⊢;simp only [go_sem,ya,yd,LK,bf,show (0:Int)<(u.length:Int) by omega,oZ AA,pI,show ¬((b:Nat):Int)=45 by omega];generalize hq:D P L (.loop [0,2,3,4] rP) _=q;obtain ⟨ex,s,rfl,tm,i,m,out,rfl,hm,hlen,hd,aI,hi,t0,t2,t3,BE⟩:=cr hq key (by simp only [go_sem,ya,yd,aC]<;>rfl)
  have e1:=HW h.sn (s:=aq m) (v:=m) (by have:=pW (k:=8) (n:=m) (by omega);omega) (rC m);have jT:i<20000000000:=hi;obtain ⟨w,l,e2,hw,fN,jc,cI⟩:=fin i m out hm hlen hd aI jT;refine ⟨_,?_,w,l,rfl,hw,fN,jc,cI⟩;rcases BE with ⟨oQ,t4,rfl⟩ | ⟨oQ,t4,rfl⟩
  ·subst oQ;have ir:out=[]:=yD hlen;subst ir;have iE:∀hp:Hp,kM 0 1 (some (false,1,[AV.int .i64 (m:Int)],hp))=some (.aB false 1 [AV.int .i64 (m:Int)],hp):=fun hp=>rfl
   simp only [xW,xm,vW,yh] at e2;simp only [go_sem,ya,yd,xQ,yO,yC,ym,aC,t0,t2,t3,t4,e1,kU,iE,e2,bF,hw.pu,hw.one,fD];rcases hw with ⟨rfl,_⟩ | ⟨e,rfl⟩<;>simp only [h0,yv]<;>rfl
  ·simp only [go_sem,ya,yd,yC,ym,aC,t0,t2,t3,t4,e1]
   rw [kw (ex:=false) (pu:=true) (cs:=out.map ab) (by simp only [go_sem,ya]) (by rw [xy,hlen,ym]) (by omega) (by omega) (by decide) (by simp only [go_sem])];have iE:∀hp:Hp,kM 0 (i+1) (some (false,1,out.map ab++[AV.int .i64 (m:Int)],hp))=some (.aB false (i+1) (out.map ab++[AV.int .i64 (m:Int)]),hp):=fun hp=>rF false (by simp [hlen]) (by decide)
   simp only [xH,xm,vW] at e2;simp only [go_sem,ya,yd,iE,e2,bF,hw.pu,hw.one,fD,vO];rcases hw with ⟨rfl,_⟩ | ⟨e,rfl⟩<;>simp only [h0,yv]<;>rfl
end
def Jo (n:Int) (r:List Nat):bR (aU n++r)=(aU n).length+bR r:=by
 rw [<-mz]
 split
 ·simp only [xi,xW,bR,yM];rw [yu (by decide),FB r (ze _)];omega
 ·rw [xW];exact FB r (ze _)
def Pk:∀{a b:List Nat},cM a b=true->a=b
 | [],[],_=>rfl
 | [],_::_,h=>by simp [cM] at h
 | _::_,[],h=>by simp [cM] at h
 | x::a,y::b,h=>by
  simp only [cM,yf] at h;rw [yj h.1,Pk h.2]
def agR {n:Int} {d:Nat} (h:n≠0):cM (TT n d) [48]=false:=by
 cases hb:cM (TT n d) [48] with
 | false=>rfl
 | true=>
  have e:=Pk hb;unfold TT at e;by_cases h0:n<0
  ·rw [lR h0] at e;simp at e
  ·obtain ⟨m,rfl⟩:∃m:Nat,n=m:=⟨n.toNat,by omega⟩;rw [km] at e;obtain ⟨b,r,bJ,_,_⟩:=FP m;rw [bJ] at e;simp only [xi,tC,List.append_eq_nil_iff] at e;have hv:=rC m;rw [bJ,e.1,e.2.1] at hv
   have:(some 0:Option Nat)=some m:=hv
   grind
section
variable {P:aM} {L:Lib}
def awH (h:Rb P L):∃r,ai P L 281 [ab 1] r/\je r 1:=by
 obtain ⟨r,e,hr⟩:=pq h.gT h.cD false (mD false [(1:Int)]) (by decide) (by decide);obtain ⟨w,l,rfl,hw,hd,hz,hv⟩:=hr;refine ⟨_,?_,w,l,rfl,hw,hd,hz,hv⟩;simp only [xm,vW,yM,yV,yh] at e;have iE:∀hp:Hp,kM 0 1 (some (false,1,[AV.int .i64 1],hp))=some (.aB false 1 [AV.int .i64 1],hp):=fun hp=>rfl
 unfold ai at e ⊢;rw [aG h.ai5];simp only [go_sem,ya,yd,xQ,yO,yC,ym,LI,bf,Int.reduceLT,yv,KA,aC,p7,Int.reduceEq,yS,yN,yq,fo _ _ _ (show (1000000000:Int)≠0 by decide),eI _ _ _ (show (1000000000:Int)≠0 by decide),show Int.tmod 1 1000000000=1 from rfl,show Int.tdiv 1 1000000000=0 from rfl,show IntKind.wrap .i64 0=0 from rfl,kU,iE,e,hw.pu,hw.one,bF,fD];rcases hw with ⟨rfl,_⟩ | ⟨e,rfl⟩<;>rfl
def ajd (h:Rb P L) {n:Int} {d:Nat} (hn:(aq n.natAbs).length<=144000000000) (hd:(aq d).length<=144000000000):
  ∃x y,ai P L 274 [.str (TT n d)] (.aa [x,y])/\je x n/\je y d:=by
 obtain ⟨x,e1,hx⟩:=ajc h (n:=n) (by omega);have hli:(aU n).length<=(aq n.natAbs).length+1:=by rw [<-mz];split<;>simp
 by_cases h1:d=1
 ·subst h1;obtain ⟨y,e2,hy⟩:=awH h;have hT:TT n 1=aU n:=by unfold TT;simp
  have hs:=Jo n [];rw [xV] at hs;have e3:=DO h.Ac (s:=aU n) (by omega);rw [hs] at e3;refine ⟨x,y,?_,hx,hy⟩;obtain ⟨xw,xl,rfl,dY,_,_,_⟩:=hx;obtain ⟨yw,yl,rfl,dZ,_,_,_⟩:=hy;rw [hT];unfold ai at e1 e2 e3 ⊢;rw [aG h.ai3];simp only [go_sem,ya,yd,LF,bf,e3,bR,yZ,yq,e1,e2,bF,dY.pu,dY.one,dZ.pu,dZ.one,fD];rcases dY with ⟨rfl,_⟩ | ⟨e,rfl⟩<;>rcases dZ with ⟨rfl,_⟩ | ⟨e',rfl⟩<;>rfl
 ·obtain ⟨y,e2,hy⟩:=ajc h (n:=(d:Int)) (by simp;omega);rw [km] at e2;obtain ⟨s,I4⟩:∃s,s=TT n d:=⟨_,rfl⟩;have hT:s=aU n++47::aq d:=by rw [I4];unfold TT;rw [yu h1]
  have hs:bR s=(aU n).length:=by rw [hT,Jo];rfl
  have hlen:s.length=(aU n).length+(aq d).length+1:=by rw [hT];simp;omega
  have e3:=DO h.Ac (s:=s) (by omega);rw [hs] at e3;have c1:gG s (some 0) (some (aU n).length)=some (.str (aU n)):=by
   rw [kB (by omega) (by omega),yt,hT,ue]
  have c2:gG s (some ((aU n).length+1)) (some s.length)=some (.str (aq d)):=by
   rw [kB (by omega) (yA _),xG,hT,show aU n++47::aq d=(aU n++[47])++aq d by simp,show (aU n).length+1=(aU n++[47]).length by simp,uf]
  refine ⟨x,y,?_,hx,hy⟩;obtain ⟨xw,xl,rfl,dY,_,_,_⟩:=hx;obtain ⟨yw,yl,rfl,dZ,_,_,_⟩:=hy;rw [<-I4];unfold ai at e1 e2 e3 ⊢;rw [aG h.ai3]
  simp only [go_sem,ya,yd,LF,bf,e3,show ¬((aU n).length:Int)=(s.length:Int) by omega,ef,eC,df,c1,wrapN (n:=(aU n).length+1) (by omega),show ((aU n).length:Int)+1=(((aU n).length+1:Nat):Int) from rfl,c2,e1,e2,bF,dY.pu,dY.one,dZ.pu,dZ.one,fD];rcases dY with ⟨rfl,_⟩ | ⟨e,rfl⟩<;>rcases dZ with ⟨rfl,_⟩ | ⟨e',rfl⟩<;>rfl
end
def KH {n:Int} {d:Nat} (h:n<0):TT n d=45::TT (-n) d:=by
 have e:aU (-n)=aq n.natAbs:=by
  rw [<-mz,yu (show ¬-n<0 by omega),xW,show (-n).natAbs=n.natAbs by omega]
 unfold TT;rw [lR h,e];rfl
def asK {n:Int} {d:Nat} (h:¬n<0):∃b u,TT n d=b::u/\48<=b:=by
 obtain ⟨b,r,hb,h1,_⟩:=FP n.natAbs;refine ⟨b,r++(if d=1 then [] else 47::aq d),?_,h1⟩;unfold TT;rw [<-mz,yu h,xW,hb];rfl
def C6 (a b:AV) (r:List AV):iv 2 true (a::b::r)=some (.agg [a,b]):=rfl
def asL (k:Nat):2^k<=1000000000^k:=wX (by decide) k
def Bd.r {k:Nat} {z:Int} (h:Bd k z):z.natAbs<1000000000^k:=yE h (asL k)
def G9 (r:Rat):RT r=TT r.num r.den:=rfl
def aem {n d:Int} (hd:0<d):RT (wu n d)=oc n d:=by
 obtain ⟨h1,h2⟩:=Ob (a:=n) hd;rw [asm hd,G9,h1]
 congr 1
 exact tQ (show ((wu n d).den:Int)=((dc n d).toNat:Int) by rw [h2];have:=FX (a:=n) hd;unfold dc at this ⊢;omega)
structure Rm (P:aM) (L:Lib):Prop extends Rb P L where
 aAr:Has P L 263 cU
 M1:Has P L 273 BN
 aAs:Has P L 284 Re
 aje:Has P L 285 Dq
 aAt:Has P L 286 LJ
 DU:Has P L 287 Hz
 px:Has P L 301 sd
structure Rp (P:aM) (L:Lib):Prop extends Ras P L,Rm P L
structure Rn (P:aM) (L:Lib):Prop extends Ra P L,Rp P L
section
variable {P:aM} {L:Lib}
def agS (h:Rm P L) {v w:AV} {a b:List Int} (hv:bw v a) (hw:bw w b) (ha:dg a) (hb:dg b) (na:nz a) (nb:nz b) (la:a.length<=8000000000) (lb:b.length<=8000000000) (h0:0<dv b):
  ∃q r lq lr,ai P L 289 [v,w] (.aa [q,r])/\bw q lq/\bw r lr/\dg lq/\nz lq/\dg lr/\nz lr/\dv lq=dv a/dv b/\dv lr=dv a%dv b:=
 agP h.Ib h.jR h.mY h.ol h.cD h.px hv hw ha hb na nb la lb h0
def awI (h:Rm P L) {x y:AV} {a b:List Int} {n d:Int} {K:Nat} (hK:K<=8000000000) (hx:bw x a) (ha:dg a) (na:nz a) (va:dv a=n.natAbs) (hy:bw y b) (hb:dg b) (nb:nz b) (vb:dv b=d.natAbs) (kn:Bd K n) (kd:Bd K d) (hd:0<d) {tm:Env} (t2:aj tm 2= .ptr 0 0) (t3:aj tm 3= .ptr 1 0):
  db [.t 4] (D P L (au (au mO.body)) ⟨tm,[(1,.cells true true true 2 [.bool (decide (d<0)),y]),(0,.cells true true true 2 [.bool (decide (n<0)),x])],2,0⟩)=some (.str (RT (wu n d))):=by
 rw [aem hd];have la:=xe (iM ha na (by rw [va];exact kn.r)) hK
 have lb:=xe (iM hb nb (by rw [vb];exact kd.r)) hK
 obtain ⟨g,lg,e1,hg,X7,ng,vg⟩:=agQ h.ai4 h.Ib h.jR h.mY h.ol h.cD h.px hx hy ha hb na nb la lb;rw [va,vb,show wo n.natAbs d.natAbs=wJ n d from rfl] at vg;have IB:=Kk (a:=n) hd;have aAu:wJ n d<=d.natAbs:=Int.gcd_le_natAbs_right n (by omega);have lg1:lg.length<=8000000000:=xe (iM X7 ng (by rw [vg];exact xJ aAu kd.r)) hK
 obtain ⟨p,p',lp,lp',e2,hp,ap,dp,np,dp',np',vp,vp'⟩:=agS h hx hg ha X7 na ng la lg1 (by omega);obtain ⟨q,q',lq,lq',e3,hq,bL,dq,nq,dq',nq',vq,vq'⟩:=agS h hy hg hb X7 nb ng lb lg1 (by omega);rw [va,vg] at vp;rw [vb,vg] at vq;have hrn:(cW n d).natAbs=n.natAbs/wJ n d:=by unfold cW;rw [uy (Int.gcd_dvd_left n d)];rfl
 have fV:(dc n d).natAbs=d.natAbs/wJ n d:=by unfold dc;rw [uy (Int.gcd_dvd_right n d)];rfl
 have hdp:=FX (a:=n) hd;rw [<-hrn] at vp;rw [<-fV] at vq;have aGh:=av1 n d;have oP:cp (decide (n<0)) (dv lp)=cW n d:=by
  rw [vp];unfold cp;by_cases h0:n<0
  ·have:¬0<=cW n d:=fun h1=>by have:=tr (uY IB) h1;omega
   simp only [h0,yq,xR];omega
  ·have:¬cW n d<0:=fun h1=>by have:=Int.mul_neg_of_pos_of_neg IB h1;omega
   simp only [h0,yv,yB,xk];omega
 have kn':Bd K (cW n d):=kn.le (aaN n d);have WI:Bd K (dc n d):=kd.le (aaO n d);have lp1:lp.length<=8000000000:=xe (iM dp np (by rw [vp];exact kn'.r)) hK
 have I5:lq.length<=8000000000:=xe (iM dq nq (by rw [vq];exact WI.r)) hK
 obtain ⟨s,e4,hs⟩:=pq h.gT h.cD (decide (n<0)) hp dp (by omega);rw [oP] at hs;obtain ⟨e5,l5⟩:=Wv (K:=K) h.Ww h.od (by omega) hs kn'.r;obtain ⟨u,e6,hu⟩:=pq h.gT h.cD false hq dq (by omega);have sN:cp false (dv lq)=dc n d:=by rw [vq];unfold cp;simp only [yB,xk];omega
 rw [sN] at hu;obtain ⟨e7,l7⟩:=Wv (K:=K) h.Ww h.od (by omega) hu WI.r;obtain ⟨sw,sl,rfl,jZ,_,_,_⟩:=hs;obtain ⟨uw,ul,rfl,huw,_,_,_⟩:=hu;have aFZ:0<lq.length:=by
  rcases xh lq.length with e | e
  ·rw [yD e] at vq;simp [dv] at vq;omega
  ·exact e
 by_cases N1:lq.length=1
 ·obtain ⟨z,rfl⟩:∃z,lq=[z]:=by
   cases lq with
   | nil=>simp at N1
   | cons z r=>cases r with
    | nil=>exact ⟨z,rfl⟩
    | cons y r=>simp at N1
  have Jd:z=dc n d:=by simp [dv] at vq;omega
  have e8:=hq.cB (i:=0) (by simp);simp only [uP] at e8;by_cases h1:dc n d=1
  ·have hT:oc n d=aU (cW n d):=by unfold oc;rw [yL h1]
   rw [hT];simp only [go_sem,ya,mO,au,t2,t3,hx.an,hy.an,bQ,yh,cO,show ¬d<0 by omega,yv,e1,hg.an,hg.shut,e2,hp.an,hp.b9,ap.b9,e3,hq.len,hq.b9,bL.b9,e4,jZ.an,b8,bF,e5,yM,yV,show ((1:Nat):Int)=(1:Int) from rfl,yq,e8,Jd,h1]
  ·have hT:oc n d=(aU (cW n d)++[47])++aU (dc n d):=by unfold oc;rw [yu h1]
   rw [hT]
   simp only [go_sem,ya,mO,au,t2,t3,hx.an,hy.an,bQ,yh,cO,show ¬d<0 by omega,yv,e1,hg.an,hg.shut,e2,hp.an,hp.b9,ap.b9,e3,hq.len,hq.an,hq.b9,bL.b9,e4,jZ.an,b8,bF,e5,yM,yV,show ((1:Nat):Int)=(1:Int) from rfl,yq,e8,Jd,h1,fQ (a:=aU (cW n d)) (b:=[47]) (by simp;omega),e6,huw.an,e7,fQ (a:=aU (cW n d)++[47]) (b:=aU (dc n d)) (by simp;omega)]
 ·have h1:¬dc n d=1:=fun h1=>N1 (by
   have h2:lq.length<=1:=ael dq nq (by rw [vq,h1];decide)
   omega)
  have hT:oc n d=(aU (cW n d)++[47])++aU (dc n d):=by unfold oc;rw [yu h1]
  rw [hT]
  simp only [go_sem,ya,mO,au,t2,t3,hx.an,hy.an,bQ,yh,cO,show ¬d<0 by omega,yv,e1,hg.an,hg.shut,e2,hp.an,hp.b9,ap.b9,e3,hq.len,hq.an,hq.b9,bL.b9,e4,jZ.an,b8,bF,e5,show ¬(lq.length:Int)=1 by omega,fQ (a:=aU (cW n d)) (b:=[47]) (by simp;omega),e6,huw.an,e7,fQ (a:=aU (cW n d)++[47]) (b:=aU (dc n d)) (by simp;omega)]
def alT (n d:Int):wu (-n) (-d)=wu n d:=by rw [Rat.divInt_neg',tW]
def QA (h:Rm P L) {v w:AV} {n d:Int} {K:Nat} (hK:K<=8000000000) (hv:je v n) (hw:je w d) (kn:Bd K n) (kd:Bd K d) (hd:d≠0):ai P L 280 [v,w] (.str (RT (wu n d))):=by
 have fin:∀{x y:AV} {a b:List Int} {n' d':Int},bw x a->dg a->nz a->dv a=n'.natAbs->bw y b->dg b->nz b->dv b=d'.natAbs->Bd K n'->Bd K d'->0<d'->wu n' d'=wu n d->∀tm,aj tm 2= .ptr 0 0->aj tm 3= .ptr 1 0->
   D P L (.seq (aW mO.body) (aW (au mO.body))) ⟨[(0,v),(1,w)],[],0,0⟩=some (.normal,⟨tm,[(1,.cells true true true 2 [.bool (decide (d'<0)),y]),(0,.cells true true true 2 [.bool (decide (n'<0)),x])],2,0⟩)->ai P L 280 [v,w] (.str (RT (wu n d))):=fun {x y a b n' d'} hx ha na va hy hb nb vb kn kd hd hq tm t2 t3 e=>by
  unfold ai;rw [aG h.aAj];show db [.t 4] (D P L (.seq (aW mO.body) (.seq (aW (au mO.body)) (au (au mO.body)))) ⟨[(0,v),(1,w)],[],0,0⟩)=_
  rw [A4,e,fa,<-hq];exact awI h hK hx ha na va hy hb nb vb kn kd hd t2 t3
 have eA:=hv;have XR:=hw;obtain ⟨x,a,rfl,hx,ha,na,va⟩:=hv;obtain ⟨y,b,rfl,hy,hb,nb,vb⟩:=hw;by_cases h0:d<0
 ·obtain ⟨r,e1,hr⟩:=aiE (K:=K) h.ai7 h.gT h.cD (by omega) eA kn.r;obtain ⟨s,e2,hs⟩:=aiE (K:=K) h.ai7 h.gT h.cD (by omega) XR kd.r;obtain ⟨x',a',rfl,rq,Cb,na',va'⟩:=hr;obtain ⟨y',b',rfl,I8,bJ,nb',vb'⟩:=hs;simp only [h0,yq] at e2
  refine fin rq Cb na' va' I8 bJ nb' vb' kn.neg kd.neg (by omega) (alT n d) _ ?_ ?_ (by
   simp only [go_sem,ya,yd,mO,aW,au,bf,hx.pu,hx.an,hx.one,hy.pu,hy.an,hy.one,rq.pu,rq.one,I8.pu,I8.one,bQ,yh,h0,yq,C6,b8,e1,e2,bF,fD]<;>rfl)<;>simp only [go_sem,ya]
 ·refine fin hx ha na va hy hb nb vb kn kd (by omega) rfl _ ?_ ?_ (by simp only [go_sem,ya,yd,mO,aW,au,bf,hx.pu,hx.one,hy.pu,hy.one,bQ,yh,h0,yv]<;>rfl)<;>simp only [go_sem,ya]
end
def ayy (z:Int) (m:Nat) (h:z.natAbs=m):(z.tdiv 1000000000).natAbs=m/1000000000/\(if z.tmod 1000000000<0 then 0-z.tmod 1000000000 else z.tmod 1000000000)=((m%1000000000:Nat):Int)/\(z<0->z.tdiv 1000000000<=0)/\(0<=z->0<=z.tdiv 1000000000):=by
 rcases Int.lt_or_le z 0 with h0 | h0
 ·obtain ⟨n,rfl⟩:∃n:Nat,z= -(n:Int):=⟨z.natAbs,by omega⟩;rw [Int.neg_tdiv,Int.neg_tmod,xE (by omega),xD (by omega)]
  grind
 ·grind
section
variable {P:aM} {L:Lib}
def awJ {neg:Bool} {N:Nat} (hN:N<=9223372036854775808):
  ∀k s,(∃(i:Nat) (z:Int) (out:List Int),z.natAbs=k/\out.length=i/\dg out/\dv out+1000000000^i*z.natAbs=N/\(neg=true->z<=0)/\(neg=false->0<=z)/\i<=3/\
    ((i=0/\aP [0,2,3,4] s=⟨[(0,ab z),(2,.ptr 0 0),(3,.ae),(4,.bool neg)],[(0,.cells true true true 2 [.bool false,.ae])],1,0⟩)\/
    (0<i/\aP [0,2,3,4] s=⟨[(0,ab z),(2,.ptr 0 0),(3,.aD 1 0 i),(4,.bool neg)],[(1,.cells true true false 1 (out.map ab)),(0,.cells true true true 2 [.bool false,.ae])],2,0⟩)))->
   ∃ex s',D P L (.loop [0,2,3,4] p7) s=some (ex,s')/\∃tm i out,ex= .exit 0/\out.length=i/\i<=3/\dg out/\dv out=N/\aj tm 2= .ptr 0 0/\aj tm 4= .bool neg/\
    ((i=0/\aj tm 3= .ae/\s'=⟨tm,[(0,.cells true true true 2 [.bool false,.ae])],1,0⟩)\/(0<i/\aj tm 3= .aD 1 0 i/\s'=⟨tm,[(1,.cells true true false 1 (out.map ab)),(0,.cells true true true 2 [.bool false,.ae])],2,0⟩)):=by
 intro dq sq;generalize bq:aP [0,2,3,4] sq=s0;revert bq s0 sq dq;apply dt;rintro k s ⟨i,z,out,rfl,hlen,hd,aI,jz,oD,hi3,hs⟩;by_cases hz:z=0
 ·right
  subst hz;have hv:dv out=N:=by simpa using aI
  rcases hs with ⟨h0,rfl⟩ | ⟨h0,rfl⟩
  ·simp only [go_sem,p7,yq,yN];exact ⟨_,_,rfl,by simp,_,i,out,rfl,hlen,hi3,hd,hv,by simp only [go_sem,ya],by simp only [go_sem,ya],.inl ⟨h0,by simp only [go_sem,ya],rfl⟩⟩
  ·simp only [go_sem,p7,yq,yN];exact ⟨_,_,rfl,by simp,_,i,out,rfl,hlen,hi3,hd,hv,by simp only [go_sem,ya],by simp only [go_sem,ya],.inr ⟨h0,by simp only [go_sem,ya],rfl⟩⟩
 ·left
  obtain ⟨m,hm⟩:∃m,z.natAbs=m:=⟨_,rfl⟩;have pN:0<m:=by omega
  rw [hm] at aI;have hi2:i<3:=by
   rcases vh i 3 with h | h
   ·exact h
   ·have e3:i=3:=by omega
    subst e3
    have:=yP (1000000000^3) pN
    omega
  have hmN:m<=9223372036854775808:=by
   have:=uV m (yao (n:=i) (show 0<1000000000 by decide))
   omega
  obtain ⟨d1,d2,d3,d4⟩:=ayy z m hm;have eB:=vI m 1000000000;have pv:dg (out++[((m%1000000000:Nat):Int)]):=gg.2 ⟨hd,jF.2 (by omega)⟩;have La:dv (out++[((m%1000000000:Nat):Int)])+1000000000^(i+1)*(m/1000000000)=N:=by
   rw [kT,hlen,<-aI,yU,xb];have e:1000000000^i*m=1000000000^i*(m%1000000000)+1000000000^i*(1000000000*(m/1000000000)):=by rw [<-xr,eB]
   rw [e];simp only [dv,wv,xp,yZ];omega
  have re:IntKind.wrap .i64 (z.tdiv 1000000000)=z.tdiv 1000000000:=wrap64 (by omega) (by omega);have kQ: -9223372036854775808<=z.tmod 1000000000/\z.tmod 1000000000<1000000000:=by
   have h1:(z.tmod 1000000000).natAbs<1000000000:=by
    split at d2<;>omega
   omega
  have rY:(neg=true->z.tdiv 1000000000<=0)/\(neg=false->0<=z.tdiv 1000000000):=⟨fun h=>d3 (by have:=jz h;omega),fun h=>d4 (oD h)⟩;have aF:(z.tdiv 1000000000).natAbs<m:=by rw [d1];omega
  obtain ⟨z',gX⟩:∃z',z.tdiv 1000000000=z':=⟨_,rfl⟩;rw [gX] at d1 d3 d4 re rY aF;have cI:dv (out++[((m%1000000000:Nat):Int)])+1000000000^(i+1)*z'.natAbs=N:=by rw [d1];exact La
  generalize m%1000000000=r at*
  by_cases eQ:z.tmod 1000000000<0
  ·rw [yL eQ] at d2;rcases hs with ⟨h0,rfl⟩ | ⟨h0,rfl⟩
   ·subst h0;have ir:out=[]:=yD hlen;subst ir
    simp only [go_sem,ya,yd,xQ,yO,yC,ym,p7,yv,hz,yS,fo _ _ _ (show (1000000000:Int)≠0 by decide),eI _ _ _ (show (1000000000:Int)≠0 by decide),eQ,d2,wrapN (n:=r) (by omega),kU,gX,re];refine ⟨_,z'.natAbs,rfl,by omega,1,z',[]++[(r:Int)],rfl,rfl,pv,cI,rY.1,rY.2,by omega,.inr ⟨by omega,?_⟩⟩;simp only [go_sem,ya,yd,aC]<;>rfl
   ·simp only [go_sem,ya,yd,yC,ym,p7,yv,hz,yS,fo _ _ _ (show (1000000000:Int)≠0 by decide),eQ,d2,wrapN (n:=r) (by omega)]
    rw [kw (ex:=false) (pu:=true) (cs:=out.map ab) (by simp only [go_sem,ya]) (by rw [xy,hlen,ym]) (by omega) (by omega) (by decide) (by simp only [go_sem])];simp only [go_sem,ya,yd,eI _ _ _ (show (1000000000:Int)≠0 by decide),gX,re];refine ⟨_,z'.natAbs,rfl,by omega,i+1,z',out++[(r:Int)],rfl,by simp [hlen],pv,cI,rY.1,rY.2,by omega,.inr ⟨by omega,?_⟩⟩;rw [xH];simp only [go_sem,ya,yd,aC]<;>rfl
  ·rw [yu eQ] at d2;rcases hs with ⟨h0,rfl⟩ | ⟨h0,rfl⟩
   ·subst h0;have ir:out=[]:=yD hlen;subst ir;simp only [go_sem,ya,yd,xQ,yO,yC,ym,p7,yv,hz,yS,fo _ _ _ (show (1000000000:Int)≠0 by decide),eI _ _ _ (show (1000000000:Int)≠0 by decide),d2,show ¬((r:Nat):Int)<0 by omega,kU,gX,re];refine ⟨_,z'.natAbs,rfl,by omega,1,z',[]++[(r:Int)],rfl,rfl,pv,cI,rY.1,rY.2,by omega,.inr ⟨by omega,?_⟩⟩;simp only [go_sem,ya,yd,aC]<;>rfl
   ·simp only [go_sem,ya,yd,yC,ym,p7,yv,hz,yS,fo _ _ _ (show (1000000000:Int)≠0 by decide),d2,show ¬((r:Nat):Int)<0 by omega]
    rw [kw (ex:=false) (pu:=true) (cs:=out.map ab) (by simp only [go_sem,ya]) (by rw [xy,hlen,ym]) (by omega) (by omega) (by decide) (by simp only [go_sem])];simp only [go_sem,ya,yd,eI _ _ _ (show (1000000000:Int)≠0 by decide),gX,re];refine ⟨_,z'.natAbs,rfl,by omega,i+1,z',out++[(r:Int)],rfl,by simp [hlen],pv,cI,rY.1,rY.2,by omega,.inr ⟨by omega,?_⟩⟩;rw [xH];simp only [go_sem,ya,yd,aC]<;>rfl
def aen {n:Int} (h: -9223372036854775808<=n/\n<9223372036854775808):n.natAbs<=9223372036854775808:=by omega
def aeo (n:Int):cp (decide (n<0)) n.natAbs=n:=by
 unfold cp
 grind
def ayz (h:Rm P L) {n:Int} (hn: -9223372036854775808<=n/\n<9223372036854775808):∃r,ai P L 281 [ab n] r/\je r n:=by
 have key:=fun s=>awJ (P:=P) (L:=L) (neg:=decide (n<0)) (aen hn) n.natAbs s
 unfold ai;rw [aG h.ai5];simp only [go_sem,ya,yd,LI,bf];generalize hq:D P L (.loop [0,2,3,4] p7) _=q;obtain ⟨ex,s,rfl,tm,i,out,rfl,hlen,hi,hd,aI,t2,t4,BE⟩:=cr hq key (by
  refine ⟨0,n,[],rfl,rfl,rfl,by simp [dv],fun h=>by simp at h;omega,fun h=>by simp at h;omega,by omega,.inl ⟨rfl,?_⟩⟩
  simp only [go_sem,ya,yd,aC]<;>rfl)
 rcases BE with ⟨oQ,t3,rfl⟩ | ⟨oQ,t3,rfl⟩
 ·subst oQ;have ir:out=[]:=yD hlen;subst ir;obtain ⟨r,e,hr⟩:=pq h.gT h.cD (decide (n<0)) (show bw .ae [] from zn) hd (by simp);rw [aI,aeo] at hr;have bZ:=hr;obtain ⟨w,l,rfl,hw,_,_,_⟩:=bZ;refine ⟨_,?_,hr⟩;simp only [go_sem,ya,yd,aC,t2,t3,t4,e,hw.pu,hw.one,bF,fD];rcases hw with ⟨rfl,_⟩ | ⟨e,rfl⟩<;>rfl
 ·have hI:=mD false out;rw [hlen] at hI;obtain ⟨r,e,hr⟩:=pq h.gT h.cD (decide (n<0)) hI hd (by omega);rw [aI,aeo] at hr;have bZ:=hr;obtain ⟨w,l,rfl,hw,_,_,_⟩:=bZ;refine ⟨_,?_,hr⟩
  simp only [go_sem,ya,yd,aC,t2,t3,t4,fun hp=>rF (hp:=hp) (k:=i) (sz:=1) (cs:=out.map ab) false (by simp [hlen]) (by decide),e,hw.pu,hw.one,bF,fD];rcases hw with ⟨rfl,_⟩ | ⟨e,rfl⟩<;>rfl
def awK (n:Int):RT (n:Rat)=aU n:=by unfold RT;simp
def ayA (h:Rm P L) (Wx:Has P L 265 LD) {n:Int} (hn: -9223372036854775808<=n/\n<9223372036854775808):ai P L 265 [ab n] (.str (RT (n:Rat))):=by
 obtain ⟨r,e,hr⟩:=ayz h hn;obtain ⟨e2,_⟩:=Wv (K:=8) h.Ww h.od (by omega) hr (by have:=aen hn;omega);rw [awK];obtain ⟨w,l,rfl,hw,_,_,_⟩:=hr;unfold ai at e e2 ⊢;rw [aG Wx];simp only [go_sem,ya,LD,e,hw.an,bF,b8,e2]
def zH {K:Nat} {a:Rat} (h:Hq K a):(RT a).length<=2*K+3:=by
 have h1:=FQ h.1;have h2:=FQ h.2;rw [km] at h2;unfold RT
 grind
def Kt {K:Nat} {z:Int} (h:Bd K z):(aq z.natAbs).length<=K+1:=by
 have:=FQ (z:=(z.natAbs:Int)) (k:=K) (by unfold Bd at h ⊢;omega)
 rwa [km] at this
def Ha (h:Rm P L) {a:Rat} {K:Nat} (ka:Hq K a) (hK:K<=8000000000):∃x y,ai P L 274 [.str (RT a)] (.aa [x,y])/\je x a.num/\je y (a.den:Int):=by
 have h1:=Kt ka.1;have h2:=Kt ka.2
 exact ajd h.toRb (n:=a.num) (d:=a.den) (by omega) (by simpa using (by omega:(aq ((a.den:Int)).natAbs).length<=144000000000))
def agT (h:Rm P L) {n:Int} {d:Nat} (hl:(TT n d).length<=100000000000) (h00:n=0->d=1):ai P L 262 [.str (TT n d)] (ab (bV n)):=by
 unfold ai;rw [aG h.aAh];by_cases h0:n<0
 ·have fy:=agR (n:=n) (d:=d) (by omega);rw [KH h0] at fy ⊢;simp only [go_sem,ya,Hs,kX,fy,show (0:Int)<(((TT (-n) d).length+1:Nat):Int) by omega,BU,yq];unfold bV;rw [yL h0]
 ·by_cases h1:n=0
  ·subst h1
   have:=h00 rfl
   subst this;rw [show TT 0 1=[48] by decide];simp only [go_sem,ya,Hs,kX,show cM [48] [48]=true from rfl];rfl
  ·have fy:=agR (n:=n) (d:=d) h1;obtain ⟨b,u,hb,jU⟩:=asK (d:=d) h0;rw [hb] at fy ⊢;simp only [go_sem,ya,Hs,kX,fy,show (0:Int)<((u.length+1:Nat):Int) by omega,show lY 0 (.str (b::u))=some (.int .u8 (b:Nat)) from rfl,show ¬((b:Nat):Int)=45 by omega];unfold bV;rw [yu h0,yu h1]
def alo {a:Rat} (h:a.num=0):a.den=1:=by simp_all
def QB (h:Rm P L) {a:Rat} {K:Nat} (ka:Hq K a) (hK:K<=8000000000):ai P L 262 [.str (RT a)] (ab (bV a.num)):=
 agT h (by have:=zH ka;rw [G9] at this;omega) alo
def QC (h:Rp P L) {a:Rat} {K:Nat} (ka:Hq K a) (hK:K<=8000000000):ai P L 268 [.str (RT a)] (.str (RT (-a))):=by
 have e:=QB h.toRm ka hK;have hl:=zH ka;have en:(-a).num= -a.num:=rfl;have ed:(-a).den=a.den:=rfl;rw [G9] at hl e ⊢;rw [G9,en,ed];generalize a.num=n at*
 generalize a.den=d at*
 unfold ai at e ⊢;rw [aG h.aAk];by_cases h0:n<0
 ·have es:bV n= -1:=by unfold bV;rw [yL h0]
  rw [es,KH h0] at e;rw [KH h0] at hl ⊢;have hc:gG (45::TT (-n) d) (some 1) (some ((TT (-n) d).length+1))=some (.str (TT (-n) d)):=by rw [kB (s:=45::TT (-n) d) (l:=1) (h:=(TT (-n) d).length+1) (by omega) (by simp)];simp
  simp only [go_sem,ya,Hv,e,show (-1:Int)<0 by decide,ef,eC,df,hc]
 ·by_cases h1:n=0
  ·subst h1;have es:bV 0=0:=rfl;rw [es] at e;simp only [go_sem,ya,Hv,e,show ¬(0:Int)<0 by decide,yq,Int.neg_zero]
  ·have es:bV n=1:=by unfold bV;rw [yu h0,yu h1]
   rw [es] at e
   have:TT (-n) d=45::TT n d:=by rw [KH (by omega),tW]
   rw [this]
   simp only [go_sem,ya,Hv,e,show ¬(1:Int)<0 by decide,show ¬(1:Int)=0 by decide,fQ (a:=[45]) (b:=TT n d) (by simp;omega),xi,xW]
end
def aep (n:Int) (d:Nat):PV true n d= .aa [ab n,ab d,.bool true]:=rfl
def Hb {a b:Int} (ha:a.natAbs<1000000000) (hb:b.natAbs<1000000000):(a*b).natAbs<1000000000000000000:=by
 rw [Int.natAbs_mul];exact yE (tz ha hb) (by decide)
section
variable {P:aM} {L:Lib}
def agU (h:Rm P L) {a b:Int} (ha: -4000000000000000000<=a/\a<=4000000000000000000) (hb:0<b/\b<=4000000000000000000):ai P L 277 [ab a,ab b] (.str (RT (wu a b))):=by
 rw [aem hb.1];exact azl h.aAi h.VX h.od ha hb
def Lb (h:Rp P L) {a:Rat} {K:Nat} (ka:Hq K a) (hK:K<=8000000000):∃q:Bool,ai P L 276 [.str (RT a)] (PV q a.num a.den)/\(q=true->a.num.natAbs<1000000000/\a.den<1000000000):=
 azm h.aAm h.Ac h.sn (n:=a.num) (d:=a.den) (by have:=zH ka;rw [G9] at this;omega)
def Lc (h:Rn P L) {a b:Rat} {K M:Nat} (ka:Hq K a) (kb:Hq M b) (hK:K+M<=8000000000):ai P L 267 [.str (RT a),.str (RT b)] (.str (RT (a*b))):=by
 obtain ⟨q1,e1,b1⟩:=Lb h.toRp ka (by omega);obtain ⟨q2,e2,b2⟩:=Lb h.toRp kb (by omega);have aAv:=CC a b;by_cases hq:(q1=true/\q2=true)
 ·obtain ⟨rfl,rfl⟩:=hq;obtain ⟨b11,b12⟩:=b1 rfl;obtain ⟨b21,b22⟩:=b2 rfl;have p1:=Hb b11 b21;have p2:=Hb (a:=(a.den:Int)) (b:=(b.den:Int)) (by omega) (by omega);have e3:=agU h.toRm (a:=a.num*b.num) (b:=(a.den:Int)*b.den) (by omega) (by omega);rw [<-mul_eq] at e3;rw [aep] at e1 e2;unfold ai at e1 e2 e3 ⊢;rw [aG h.ai9]
  simp only [go_sem,ya,Hu,e1,e2,wrap64 (n:=a.num*b.num) (by omega) (by omega),wrap64 (n:=(a.den:Int)*(b.den:Int)) (by omega) (by omega),e3]
 ·have bL:∃n1 d1 n2 d2,bM P L (D P L) 276 [.str (RT a)]=some (.aa [ab n1,ab d1,.bool q1])/\bM P L (D P L) 276 [.str (RT b)]=some (.aa [ab n2,ab d2,.bool q2]):=by
   cases q1<;>cases q2<;>exact ⟨_,_,_,_,e1,e2⟩
  obtain ⟨n1,d1,n2,d2,e1,e2⟩:=bL;obtain ⟨x,y,e3,hx,hy⟩:=Ha h.toRm ka (by omega);obtain ⟨z,w,e4,hz,hw⟩:=Ha h.toRm kb (by omega);have DV:max K M<=8000000000:=by omega
  obtain ⟨r,e5,hr⟩:=H9 (K:=max K M) h.Ic h.jR h.gT h.cD DV hx hz (ka.1.mono (by omega)).r (kb.1.mono (by omega)).r;obtain ⟨s,e6,hs⟩:=H9 (K:=max K M) h.Ic h.jR h.gT h.cD DV hy hw (ka.2.mono (by omega)).r (kb.2.mono (by omega)).r;have e7:=QA h.toRm hK hr hs (ka.1.mul kb.1) (ka.2.mul kb.2) (by omega);rw [<-mul_eq] at e7;obtain ⟨xw,xl,rfl,dY,_,_,_⟩:=hx;obtain ⟨yw,yl,rfl,dZ,_,_,_⟩:=hy;obtain ⟨zw,zl,rfl,nE,_,_,_⟩:=hz;obtain ⟨ww,wl,rfl,nF,_,_,_⟩:=hw;obtain ⟨eY,rl,rfl,pD,_,_,_⟩:=hr;obtain ⟨sw,sl,rfl,jZ,_,_,_⟩:=hs;have hb:¬(q1=true/\q2=true):=hq;unfold ai at e3 e4 e5 e6 e7 ⊢;rw [aG h.ai9]
  cases q1 with
  | false=>
   simp only [go_sem,ya,yd,Hu,bf,e1,e2,e3,e4,dY.pu,dY.an,dY.one,dZ.pu,dZ.an,dZ.one,nE.pu,nE.an,nE.one,nF.pu,nF.an,nF.one,pD.an,jZ.an,b8,bF,rB,fD,C6,e5,e6,e7]
  | true=>
   cases q2 with
   | true=>exact absurd ⟨rfl,rfl⟩ hb
   | false=>
    simp only [go_sem,ya,yd,Hu,bf,e1,e2,e3,e4,dY.pu,dY.an,dY.one,dZ.pu,dZ.an,dZ.one,nE.pu,nE.an,nE.one,nF.pu,nF.an,nF.one,pD.an,jZ.an,b8,bF,rB,fD,C6,e5,e6,e7]
def agV (h:Rp P L) {a b:Rat} {K M:Nat} (ka:Hq K a) (kb:Hq M b) (hK:K+M+1<=8000000000):ai P L 264 [.str (RT a),.str (RT b)] (.str (RT (a+b))):=by
 obtain ⟨q1,e1,b1⟩:=Lb h ka (by omega);obtain ⟨q2,e2,b2⟩:=Lb h kb (by omega);have aAv:=CC a b;by_cases hq:(q1=true/\q2=true)
 ·obtain ⟨rfl,rfl⟩:=hq;obtain ⟨b11,b12⟩:=b1 rfl;obtain ⟨b21,b22⟩:=b2 rfl;have p1:=Hb (a:=a.num) (b:=(b.den:Int)) (by omega) (by omega);have p2:=Hb (a:=b.num) (b:=(a.den:Int)) (by omega) (by omega);have p3:=Hb (a:=(a.den:Int)) (b:=(b.den:Int)) (by omega) (by omega);have e3:=agU h.toRm (a:=a.num*b.den+b.num*a.den) (b:=(a.den:Int)*b.den) (by omega) (by omega);rw [<-add_eq] at e3;rw [aep] at e1 e2;unfold ai at e1 e2 e3 ⊢;rw [aG h.ai8]
  simp only [go_sem,ya,Ht,e1,e2,wrap64 (n:=a.num*(b.den:Int)) (by omega) (by omega),wrap64 (n:=b.num*(a.den:Int)) (by omega) (by omega),wrap64 (n:=a.num*(b.den:Int)+b.num*(a.den:Int)) (by omega) (by omega),wrap64 (n:=(a.den:Int)*(b.den:Int)) (by omega) (by omega),e3]
 ·have bL:∃n1 d1 n2 d2,bM P L (D P L) 276 [.str (RT a)]=some (.aa [ab n1,ab d1,.bool q1])/\bM P L (D P L) 276 [.str (RT b)]=some (.aa [ab n2,ab d2,.bool q2]):=by
   cases q1<;>cases q2<;>exact ⟨_,_,_,_,e1,e2⟩
  obtain ⟨n1,d1,n2,d2,e1,e2⟩:=bL;obtain ⟨x,y,e3,hx,hy⟩:=Ha h.toRm ka (by omega);obtain ⟨z,w,e4,hz,hw⟩:=Ha h.toRm kb (by omega);have DV:max K M<=8000000000:=by omega
  obtain ⟨r,e5,hr⟩:=H9 (K:=max K M) h.Ic h.jR h.gT h.cD DV hx hw (ka.1.mono (by omega)).r (kb.2.mono (by omega)).r;obtain ⟨r2,X8,lK⟩:=H9 (K:=max K M) h.Ic h.jR h.gT h.cD DV hz hy (kb.1.mono (by omega)).r (ka.2.mono (by omega)).r;obtain ⟨s,e6,hs⟩:=H9 (K:=max K M) h.Ic h.jR h.gT h.cD DV hy hw (ka.2.mono (by omega)).r (kb.2.mono (by omega)).r;have k1:Bd (K+M) (a.num*b.den):=ka.1.mul kb.2;have k2:Bd (K+M) (b.num*a.den):=(kb.1.mul ka.2).mono (by omega);obtain ⟨t,e8,ht⟩:=az9 (K:=K+M) h.aAn h.Wt h.mY h.M0 h.mf h.gT h.cD (by omega) hr lK k1.r k2.r;have e7:=QA h.toRm hK ht hs (k1.We k2) ((ka.2.mul kb.2).mono (by omega)) (by omega);rw [<-add_eq] at e7;obtain ⟨xw,xl,rfl,dY,_,_,_⟩:=hx;obtain ⟨yw,yl,rfl,dZ,_,_,_⟩:=hy;obtain ⟨zw,zl,rfl,nE,_,_,_⟩:=hz;obtain ⟨ww,wl,rfl,nF,_,_,_⟩:=hw;obtain ⟨eY,rl,rfl,pD,_,_,_⟩:=hr
  obtain ⟨rw2,rl2,rfl,ajf,_,_,_⟩:=lK;obtain ⟨tw,tl,rfl,htw,_,_,_⟩:=ht;obtain ⟨sw,sl,rfl,jZ,_,_,_⟩:=hs;have hb:¬(q1=true/\q2=true):=hq;unfold ai at e3 e4 e5 X8 e6 e7 e8 ⊢;rw [aG h.ai8]
  cases q1 with
  | false=>
   simp only [go_sem,ya,yd,Ht,bf,e1,e2,e3,e4,dY.pu,dY.an,dY.one,dZ.pu,dZ.an,dZ.one,nE.pu,nE.an,nE.one,nF.pu,nF.an,nF.one,pD.an,ajf.an,htw.an,jZ.an,b8,bF,rB,fD,C6,e5,X8,e8,e6,e7]
  | true=>
   cases q2 with
   | true=>exact absurd ⟨rfl,rfl⟩ hb
   | false=>
    simp only [go_sem,ya,yd,Ht,bf,e1,e2,e3,e4,dY.pu,dY.an,dY.one,dZ.pu,dZ.an,dZ.one,nE.pu,nE.an,nE.one,nF.pu,nF.an,nF.one,pD.an,ajf.an,htw.an,jZ.an,b8,bF,rB,fD,C6,e5,X8,e8,e6,e7]
def QD (h:Rp P L) {a b:Rat} {K M:Nat} (ka:Hq K a) (kb:Hq M b) (hK:K+M+1<=8000000000):ai P L 271 [.str (RT a),.str (RT b)] (.str (RT (a-b))):=by
 have e1:=QC h kb (by omega);have e2:=agV h ka kb.neg hK;rw [<-Rat.sub_eq_add_neg] at e2;unfold ai at e1 e2 ⊢;rw [aG h.aAl];simp only [go_sem,ya,Rc,e1,e2]
def inv_divInt (a:Rat) (h:a≠0):a⁻¹=wu (a.den:Int) a.num:=by
 rw [Rat.inv_def]
def ayB (h:Rn P L) (Ie:Has P L 283 Hy) {a:Rat} {K:Nat} (ka:Hq K a) (hK:K<=8000000000) (h0:a≠0):ai P L 283 [.str (RT a)] (.str (RT a⁻¹)):=by
 obtain ⟨x,y,e3,hx,hy⟩:=Ha h.toRm ka hK;have hn:a.num≠0:=fun e=>h0 (Rat.num_eq_zero.1 e)
 have e7:=QA h.toRm hK hy hx ka.2 ka.1 hn;rw [<-inv_divInt a h0] at e7;obtain ⟨xw,xl,rfl,dY,_,_,_⟩:=hx;obtain ⟨yw,yl,rfl,dZ,_,_,_⟩:=hy;unfold ai at e3 e7 ⊢;rw [aG Ie];simp only [go_sem,ya,yd,Hy,bf,e3,dY.pu,dY.an,dY.one,dZ.pu,dZ.an,dZ.one,b8,rB,fD,C6,e7]
end
def aaa {P:aM} {L:Lib} (a b c d:VC) (s:St):D P L (.seq a (.seq b (.seq c d))) s=kF P L (D P L (.seq a (.seq b c)) s) d:=by
 have e:=A4 (P:=P) (L:=L) b c d;rw [jo,jo]
 cases D P L a s with
 | none=>rfl
 | some q=>
  obtain ⟨ex,st⟩:=q
  cases ex with
  | normal=>rw [fa,fa];exact e st
  | ret=>rfl
  | exit id=>rfl
def nU {a b:List Nat} (h:a≠b):cM a b=false:=by
 cases hb:cM a b with
 | false=>rfl
 | true=>exact absurd (Pk hb) h
def aa3:∀a:List Nat,cM a a=true
 | []=>rfl
 | x::a=>by simp [cM,aa3 a]
def afA {a b:List Nat} (h:a=b):cM a b=true:=h▸aa3 a
def aok {s:List Nat} {i:Nat} (h:i<s.length):cQ (s.drop i)=(yy 48 s[i]&&yy s[i] 57&&cQ (s.drop (i+1))):=by
 rw [y8 h];rfl
section
variable {P:aM} {L:Lib}
def aAw (h:Has P L 287 Hz) {s:List Nat} (hl:s.length<9223372036854775808):ai P L 287 [.str s] (.bool (cQ s)):=by
 have key:=nG (P:=P) (L:=L) (live:=[0,3]) (a:=Bm)
  (I:=fun k st=>∃i:Nat,st=⟨[(0,.str s),(3,ab i)],[],0,0⟩/\i+k=s.length/\cQ (s.drop i)=cQ s)
  (Q:=fun ex st=>∃tm ct,st=⟨tm,[],ct,0⟩/\((ex= .ret/\aj tm 2= .bool false/\cQ s=false)\/(ex= .exit 0/\cQ s=true))) ?_
 ·unfold ai;rw [aG h];simp only [go_sem,Hz];generalize hq:D P L (.loop [0,3] Bm) _=q;obtain ⟨ex,st,rfl,tm,ct,rfl,h2⟩:=cr hq (key s.length) ⟨0,by simp only [go_sem,ya,aC]<;>rfl,by omega,by simp⟩
  rcases h2 with ⟨rfl,h2,h3⟩ | ⟨rfl,h3⟩
  ·simp only [go_sem,h2,h3]
  ·simp only [go_sem,aC,h3]
 ·rintro k st ⟨i,rfl,hk,hs⟩;by_cases hi:i<s.length
  ·rw [aok hi] at hs;by_cases h1:s[i]<48
   ·right
    have e:yy 48 s[i]=false:=by
     cases hb:yy 48 s[i] with
     | false=>rfl
     | true=>have:=yo hb;omega
    rw [e,wh,wh] at hs;simp only [go_sem,ya,Bm,show (i:Int)<s.length by omega,oZ hi,show ((s[i]:Nat):Int)<48 by omega,yq];exact ⟨_,_,rfl,by simp,_,_,rfl,.inl ⟨rfl,by simp only [go_sem],hs.symm⟩⟩
   ·by_cases h2:57<s[i]
    ·right
     have e:yy s[i] 57=false:=by
      cases hb:yy s[i] 57 with
      | false=>rfl
      | true=>have:=yo hb;omega
     rw [e,Bool.and_false,wh] at hs;simp only [go_sem,ya,Bm,show (i:Int)<s.length by omega,oZ hi,show ¬((s[i]:Nat):Int)<48 by omega,yv,show (57:Int)<((s[i]:Nat):Int) by omega];exact ⟨_,_,rfl,by simp,_,_,rfl,.inl ⟨rfl,by simp only [go_sem],hs.symm⟩⟩
    ·left
     rw [yr (show 48<=s[i] by omega),yr (show s[i]<=57 by omega),wq,wq] at hs;simp only [go_sem,ya,Bm,show (i:Int)<s.length by omega,oZ hi,show ¬((s[i]:Nat):Int)<48 by omega,yv,show ¬(57:Int)<((s[i]:Nat):Int) by omega];refine ⟨_,k-1,rfl,by omega,i+1,?_,by omega,hs⟩;rw [wrap64 (by omega) (by omega)];simp only [go_sem,ya,aC]<;>rfl
  ·right
   simp only [go_sem,ya,Bm,show ¬(i:Int)<s.length by omega];refine ⟨_,_,rfl,by simp,_,_,rfl,.inr ⟨rfl,?_⟩⟩;rw [<-hs,xu (by omega)];rfl
def M2 (h:Has P L 273 BN) (DU:Has P L 287 Hz) {s:List Nat} (hl:s.length<9223372036854775808):ai P L 273 [.str s] (.bool (di s)):=by
 have e:=aAw DU hl;unfold ai at e ⊢;rw [aG h]
 match s,hl,e with
 | [],_,_=>
  simp only [go_sem,ya,BN,yV,show ((0:Nat):Int)=0 from rfl,yq];rfl
 | [b],_,e=>
  have:di [b]=cQ [b]:=by simp [di]
  rw [this];simp only [go_sem,ya,BN,yM,yV,yh,show ¬((1:Nat):Int)=0 by decide,show ¬(1:Int)<((1:Nat):Int) by decide,yv,e]
 | b::c::r,hl,e=>
  have hd:di (b::c::r)=(cQ (b::c::r)&& !(yp b 48)):=by simp [di]
  rw [hd];have Cc:r.length+2<9223372036854775808:=by simpa using hl
  by_cases hb:b=48
  ·subst hb;simp only [go_sem,ya,BN,yM,show ¬((r.length+1+1:Nat):Int)=0 by omega,yv,show (1:Int)<((r.length+1+1:Nat):Int) by omega,show lY 0 (.str (48::c::r))=some (.int .u8 48) from rfl,yq]
   simp
  ·have:yp b 48=false:=gB hb
   rw [this,yS,vO];simp only [go_sem,ya,BN,yM,show ¬((r.length+1+1:Nat):Int)=0 by omega,yv,show (1:Int)<((r.length+1+1:Nat):Int) by omega,show lY 0 (.str (b::c::r))=some (.int .u8 (b:Nat)) from rfl,show ¬((b:Nat):Int)=48 by omega,e]
def aa4 {s:List Nat} {k:Nat} (h:k<=s.length):gG s (some 0) (some k)=some (.str (s.take k)):=by
 rw [kB (by omega) h,yt]
def F0 {s:List Nat} {k:Nat} (h:k<=s.length):gG s (some k) (some s.length)=some (.str (s.drop k)):=by
 rw [kB h (yA _),xG]
def awL (h:Rm P L) {t:List Nat} {k:Nat} (hk:k=bR t) (hl:t.length<9223372036854775808) (hp:di (t.take k)=true) {tm:Env} (t3:aj tm 3= .str t) (t4:aj tm 4=ab k):
  db [.t 2] (D P L (au (au (au (au (au cU.body))))) ⟨tm,[],0,0⟩)=some (ab (
   if k<t.length/\(di (t.drop (k+1))=false\/t.drop (k+1)=[48]\/t.drop (k+1)=[49]) then 1
   else if 600<k\/600<t.length-k-1 then 4
   else if k<t.length/\wo (eW (t.take k)) (eW (t.drop (k+1)))≠1 then 1
   else 0)):=by
 have XX:k<=t.length:=by rw [hk];exact FO t
 have e3:=M2 h.M1 h.DU (s:=t.drop (k+1)) (by rw [xN];omega);unfold ai at e3;have AS:(k:Int)+1=((k+1:Nat):Int):=rfl;by_cases hs:k<t.length
 ·have c2:=F0 (s:=t) (k:=k+1) (by omega);have jn:=Yk t (by omega);rw [<-hk] at jn;have I7:(t.drop (k+1)).length=t.length-k-1:=by rw [xN];omega
  have hlp:(t.take k).length=k:=by rw [yW];omega
  generalize hqe:t.drop (k+1)=q at*
  generalize hpe:t.take k=p at*
  cases hd:di q with
  | false=>
   rw [yL ⟨hs,.inl rfl⟩];rw [hd] at e3
   simp only [go_sem,ya,cU,au,t3,t4,show (k:Int)<(t.length:Int) by omega,yq,AS,wrapN (n:=k+1) (by omega),ef,eC,df,c2,e3,yS]
  | true=>
   rw [hd] at e3;by_cases iT:q=[48]
   ·rw [yL ⟨hs,.inr (.inl iT)⟩]
    simp only [go_sem,ya,cU,au,t3,t4,show (k:Int)<(t.length:Int) by omega,yq,AS,wrapN (n:=k+1) (by omega),ef,eC,df,c2,e3,yN,kX,afA iT]
   ·by_cases nB:q=[49]
    ·rw [yL ⟨hs,.inr (.inr nB)⟩]
     simp only [go_sem,ya,cU,au,t3,t4,show (k:Int)<(t.length:Int) by omega,yq,AS,wrapN (n:=k+1) (by omega),ef,eC,df,c2,e3,yN,kX,nU iT,afA nB]
    ·rw [yu (by simp only [hs,tL,yaK,ybV];exact fun e=>e.elim iT nB)]
     by_cases Ap:600<k
     ·rw [yL (.inl Ap)]
      simp only [go_sem,ya,cU,au,t3,t4,show (k:Int)<(t.length:Int) by omega,yq,AS,wrapN (n:=k+1) (by omega),ef,eC,df,c2,e3,yN,kX,nU iT,nU nB,show (600:Int)<(k:Int) by omega]
     ·by_cases aAx:600<t.length-k-1
      ·rw [yL (.inr aAx)]
       simp only [go_sem,ya,cU,au,t3,t4,show (k:Int)<(t.length:Int) by omega,yq,AS,wrapN (n:=k+1) (by omega),ef,eC,df,c2,e3,yN,kX,nU iT,nU nB,show ¬(600:Int)<(k:Int) by omega,yv,show (t.length:Int)-(k:Int)=((t.length-k:Nat):Int) by omega,wrapN (n:=t.length-k) (by omega),show ((t.length-k:Nat):Int)-1=((t.length-k-1:Nat):Int) by omega,wrapN (n:=t.length-k-1) (by omega),show (600:Int)<((t.length-k-1:Nat):Int) by omega]
      ·rw [yu (by omega)];have pO:=CJ _ rfl hp;have nC:=CJ _ rfl hd;have fE:eW q≠0:=fun e=>iT (by rw [<-nC,e];rfl)
       have jy:eW q≠1:=fun e=>nB (by rw [<-nC,e];rfl)
       generalize eW p=n at*
       generalize eW q=d at*
       have hT:TT (n:Int) d=t:=by
        unfold TT;rw [km,yu jy,pO,nC];exact jn.symm
       obtain ⟨x,y,e4,hx,hy⟩:=ajd h.toRb (n:=(n:Int)) (d:=d) (by rw [xn,pO];omega) (by rw [nC];omega);rw [hT] at e4;obtain ⟨xw,xl,rfl,dY,dx,nx,vx⟩:=hx;obtain ⟨yw,yl,rfl,dZ,dy,ny,vy⟩:=hy;rw [xn] at vx vy;have oG:n<10^p.length:=by rw [<-pO];exact Gb n
       have hdb:d<10^q.length:=by rw [<-nC];exact Gb d
       obtain ⟨K,hK⟩:∃K:Nat,K=600:=⟨_,rfl⟩;have NO:∀{m j:Nat},m<10^j->j<=K->m<1000000000^K:=fun {m j} h1 h2=>
        yE h1 (xe (yR (by decide) h2) (wX (by decide) K))
       have lxl:=iM dx nx (by rw [vx];exact NO oG (by omega))
       have lyl:=iM dy ny (by rw [vy];exact NO hdb (by omega))
       obtain ⟨g,lg,e5,hg,dgg,ngg,vg⟩:=agQ h.ai4 h.Ib h.jR h.mY h.ol h.cD h.px dY dZ dx dy nx ny (by omega) (by omega);rw [vx,vy] at vg;have IB:0<wo n d:=Nat.gcd_pos_of_pos_right _ (by omega);unfold ai at e4 e5;by_cases Wy:lg.length=1
       ·obtain ⟨z,rfl⟩:∃z,lg=[z]:=by
         cases lg with
         | nil=>simp at Wy
         | cons z r=>cases r with
          | nil=>exact ⟨z,rfl⟩
          | cons y r=>simp at Wy
        have gz:=jF.1 dgg;have Jd:z=(wo n d:Nat):=by simp [dv] at vg;omega
        have e8:=hg.cB (i:=0) (by simp);simp only [uP] at e8;by_cases gK:wo n d=1
        ·rw [yu (by simp [gK])]
         simp only [go_sem,ya,yd,cU,au,t3,t4,show (k:Int)<(t.length:Int) by omega,yq,AS,wrapN (n:=k+1) (by omega),ef,eC,df,c2,e3,yN,kX,nU iT,nU nB,show ¬(600:Int)<(k:Int) by omega,yv,show (t.length:Int)-(k:Int)=((t.length-k:Nat):Int) by omega,wrapN (n:=t.length-k) (by omega),show ((t.length-k:Nat):Int)-1=((t.length-k-1:Nat):Int) by omega,wrapN (n:=t.length-k-1) (by omega),show ¬(600:Int)<((t.length-k-1:Nat):Int) by omega,e4,bf,dY.pu,dY.an,dY.one,dZ.pu,dZ.an,dZ.one,fD,bQ,yh,cO,e5,hg.len,hg.shut,yM,yV,show ((1:Nat):Int)=(1:Int) from rfl,yN,e8,Jd,gK]
        ·rw [yL ⟨hs,gK⟩]
         simp only [go_sem,ya,yd,cU,au,t3,t4,show (k:Int)<(t.length:Int) by omega,yq,AS,wrapN (n:=k+1) (by omega),ef,eC,df,c2,e3,yN,kX,nU iT,nU nB,show ¬(600:Int)<(k:Int) by omega,yv,show (t.length:Int)-(k:Int)=((t.length-k:Nat):Int) by omega,wrapN (n:=t.length-k) (by omega),show ((t.length-k:Nat):Int)-1=((t.length-k-1:Nat):Int) by omega,wrapN (n:=t.length-k-1) (by omega),show ¬(600:Int)<((t.length-k-1:Nat):Int) by omega,e4,bf,dY.pu,dY.an,dY.one,dZ.pu,dZ.an,dZ.one,fD,bQ,yh,cO,e5,hg.len,hg.shut,yM,yV,show ((1:Nat):Int)=(1:Int) from rfl,yN,e8,Jd,show ¬((wo n d:Nat):Int)=1 by omega,yS]
       ·have gK:wo n d≠1:=fun e=>Wy (by
         have h1:lg.length<=1:=ael dgg ngg (by omega);have h2:0<lg.length:=by
          rcases xh lg.length with h0 | h0
          ·rw [yD h0] at vg;simp [dv] at vg;omega
          ·exact h0
         omega)
        rw [yL ⟨hs,gK⟩]
        simp only [go_sem,ya,yd,cU,au,t3,t4,show (k:Int)<(t.length:Int) by omega,yq,AS,wrapN (n:=k+1) (by omega),ef,eC,df,c2,e3,yN,kX,nU iT,nU nB,show ¬(600:Int)<(k:Int) by omega,yv,show (t.length:Int)-(k:Int)=((t.length-k:Nat):Int) by omega,wrapN (n:=t.length-k) (by omega),show ((t.length-k:Nat):Int)-1=((t.length-k-1:Nat):Int) by omega,wrapN (n:=t.length-k-1) (by omega),show ¬(600:Int)<((t.length-k-1:Nat):Int) by omega,e4,bf,dY.pu,dY.an,dY.one,dZ.pu,dZ.an,dZ.one,fD,bQ,yh,cO,e5,hg.len,hg.shut,show ¬(lg.length:Int)=1 by omega,yS]
 ·have hkt:k=t.length:=by omega
  rw [yu (by omega)];by_cases Ap:600<k
  ·rw [yL (.inl Ap)];simp only [go_sem,ya,cU,au,t3,t4,show ¬(k:Int)<(t.length:Int) by omega,yv,show (600:Int)<(k:Int) by omega,yq]
  ·rw [yu (by omega),yu (by omega)]
   simp only [go_sem,ya,cU,au,t3,t4,show ¬(k:Int)<(t.length:Int) by omega,yv,show ¬(600:Int)<(k:Int) by omega,show (t.length:Int)-(k:Int)=((t.length-k:Nat):Int) by omega,wrapN (n:=t.length-k) (by omega),show ((t.length-k:Nat):Int)-1= -1 by omega,show IntKind.wrap .i64 (-1)= -1 by rfl,show ¬(600:Int)<(-1:Int) by omega]
def afB (h:Rm P L) {b:Nat} {r:List Nat} {t:List Nat} {neg:Bool} (eQ:decide (((b:Nat):Int)=45)=neg) (hl:t.length<9223372036854775808) {tm:Env} (t0:aj tm 0= .str (b::r)) (t3:aj tm 3= .str t):
  db [.t 2] (D P L (au (au (au cU.body))) ⟨tm,[],0,0⟩)=some (ab (lI neg t)):=by
 obtain ⟨k,hk⟩:∃k,k=bR t:=⟨_,rfl⟩;have XX:k<=t.length:=by rw [hk];exact FO t
 have e1:=DO h.Ac (s:=t) (by omega);have e2:=M2 h.M1 h.DU (s:=t.take k) (by rw [yW];omega);have e3:=M2 h.M1 h.DU (s:=t.drop (k+1)) (by rw [xN];omega);unfold lI;rw [<-hk] at e1 ⊢;have c1:=aa4 XX;have hI:lY 0 (.str (b::r))=some (.int .u8 (b:Nat)):=rfl;unfold ai at e1 e2 e3;generalize hp:t.take k=p at*
 generalize hq:t.drop (k+1)=q at*
 cases hd:di p with
 | false=>
  rw [yL (.inl rfl)];rw [hd] at e2;simp only [go_sem,ya,cU,au,t3,e1,ef,eC,df,c1,e2,yS]
 | true=>
  rw [hd] at e2;by_cases hz:neg=true/\p=[48]
  ·rw [yL (.inr hz)];obtain ⟨z1,z2⟩:=hz;rw [z1] at eQ;have hb:=of_decide_eq_true eQ;subst z2;simp only [go_sem,ya,cU,au,t0,t3,e1,ef,eC,df,c1,e2,yN,hI,hb,yq,kX,show cM [48] [48]=true from rfl]
  ·rw [yu (by simp only [yaK,ybV];exact hz)]
   have fin:∀bG,aj bG 3= .str t->aj bG 4=ab k->D P L (.seq (aW (au (au (au cU.body)))) (aW (au (au (au (au cU.body)))))) ⟨tm,[],0,0⟩=some (.normal,⟨bG,[],0,0⟩)->db [.t 2] (D P L (au (au (au cU.body))) ⟨tm,[],0,0⟩)=some (ab (
     if k<t.length/\(di q=false\/q=[48]\/q=[49]) then 1
     else if 600<k\/600<t.length-k-1 then 4
     else if k<t.length/\wo (eW p) (eW q)≠1 then 1
     else 0)):=fun bG f3 f4 e=>by
    show db [.t 2] (D P L (.seq (aW (au (au (au cU.body)))) (.seq (aW (au (au (au (au cU.body))))) (au (au (au (au (au cU.body))))))) ⟨tm,[],0,0⟩)=_
    rw [A4,e,fa,<-hp,<-hq];exact awL h hk hl (by rw [hp];exact hd) f3 f4
   by_cases hb:((b:Nat):Int)=45
   ·have aAy:p≠[48]:=fun e=>hz ⟨by rw [<-eQ];exact y5 hb,e⟩
    refine fin _ ?_ ?_ (by simp only [go_sem,ya,cU,aW,au,t0,t3,e1,ef,eC,df,c1,e2,yN,hI,hb,yq,kX,nU aAy]<;>rfl)<;>simp only [go_sem,ya,t3]
   ·refine fin _ ?_ ?_ (by simp only [go_sem,ya,cU,aW,au,t0,t3,e1,ef,eC,df,c1,e2,yN,hI,hb,yv]<;>rfl)<;>simp only [go_sem,ya,t3]
def Wz (h:Rm P L) {s:List Nat} (hl:s.length<9223372036854775808):ai P L 263 [.str s] (ab (jE s)):=by
 unfold ai;rw [aG h.aAr]
 cases s with
 | nil=>
  have e1:=DO h.Ac (s:=[]) (by simp);have e2:=M2 h.M1 h.DU (s:=[]) (by simp);unfold ai at e1 e2;have hc:gG [] (some 0) (some 0)=some (.str []):=rfl;simp only [go_sem,ya,cU,yV,show ¬(0:Int)<((0:Nat):Int) by decide,yv,e1,bR,ef,eC,df,hc,e2,show di []=false from rfl,yS];rfl
 | cons b t=>
  have Cc:t.length+1<9223372036854775808:=by simpa using hl
  have hI:lY 0 (.str (b::t))=some (.int .u8 (b:Nat)):=rfl;by_cases hb:b=45
  ·subst hb;have fin:∀bG,aj bG 0= .str (45::t)->aj bG 3= .str t->D P L (.seq (aW cU.body) (.seq (aW (au cU.body)) (aW (au (au cU.body))))) ⟨[(0,.str (45::t))],[],0,0⟩=some (.normal,⟨bG,[],0,0⟩)->db [.t 2] (D P L cU.body ⟨[(0,.str (45::t))],[],0,0⟩)=some (ab (jE (45::t))):=fun bG f0 f3 e=>by
    show db [.t 2] (D P L (.seq (aW cU.body) (.seq (aW (au cU.body)) (.seq (aW (au (au cU.body))) (au (au (au cU.body)))))) ⟨[(0,.str (45::t))],[],0,0⟩)=_
    rw [aaa,e,fa]
    exact afB h (b:=45) rfl (by omega) f0 f3
   have hc:gG (45::t) (some 1) (some (t.length+1))=some (.str t):=by
    have:=F0 (s:=45::t) (k:=1) (by simp)
    simpa using this
   refine fin _ ?_ ?_ (by simp only [go_sem,ya,cU,aW,au,yM,show (0:Int)<((t.length+1:Nat):Int) by omega,yq,BU,ef,eC,df,hc]<;>rfl)<;>simp only [go_sem,ya]
  ·have fin:∀bG,aj bG 0= .str (b::t)->aj bG 3= .str (b::t)->D P L (.seq (aW cU.body) (.seq (aW (au cU.body)) (aW (au (au cU.body))))) ⟨[(0,.str (b::t))],[],0,0⟩=some (.normal,⟨bG,[],0,0⟩)->db [.t 2] (D P L cU.body ⟨[(0,.str (b::t))],[],0,0⟩)=some (ab (jE (b::t))):=fun bG f0 f3 e=>by
    show db [.t 2] (D P L (.seq (aW cU.body) (.seq (aW (au cU.body)) (.seq (aW (au (au cU.body))) (au (au (au cU.body)))))) ⟨[(0,.str (b::t))],[],0,0⟩)=_
    rw [aaa,e,fa]
    have:=afB h (b:=b) (neg:=false) (yF (by omega)) (by simpa using hl) f0 f3
    rw [this];simp only [jE,yu hb]
   refine fin _ ?_ ?_ (by simp only [go_sem,ya,cU,aW,au,yM,show (0:Int)<((t.length+1:Nat):Int) by omega,yq,hI,show ¬((b:Nat):Int)=45 by omega]<;>rfl)<;>simp only [go_sem,ya]
def asM (h:Rm P L) {a:Rat} {K:Nat} (ka:Hq K a) (hK:K<=4000000000):bM P L (D P L) 284 [.str (RT a)]=some (.str (aU a.num))/\bM P L (D P L) 285 [.str (aU a.num)]=some (.str (aq a.num.natAbs))/\bM P L (D P L) 286 [.str (RT a)]=some (.str (aq a.den)):=by
 have hl:=zH ka;have e0:=DO h.Ac (s:=RT a) (by omega);have kN:bR (RT a)=(aU a.num).length/\(RT a).take (aU a.num).length=aU a.num:=by
  unfold RT;by_cases hd:a.den=1
  ·rw [yL hd,xV]
   have:=Jo a.num []
   rw [xV] at this;exact ⟨by rw [this];simp [bR],xG⟩
  ·rw [yu hd];exact ⟨by rw [Jo];simp [bR],ue⟩
 obtain ⟨dU,qW⟩:=kN;rw [dU] at e0;have hlen:(aU a.num).length<=(RT a).length:=by unfold RT;simp
 have e1:bM P L (D P L) 284 [.str (RT a)]=some (.str (aU a.num)):=by
  rw [aG h.aAs]
  have:=aa4 (s:=RT a) hlen
  simp only [go_sem,ya,Re,e0,ef,eC,df,this,qW]
 have hT:aU a.num=TT a.num 1:=by unfold TT;simp
 have e2:bM P L (D P L) 285 [.str (aU a.num)]=some (.str (aq a.num.natAbs)):=by
  have e:=agT h (n:=a.num) (d:=1) (by rw [<-hT];omega) (fun _=>rfl);rw [<-hT] at e;rw [aG h.aje];by_cases h0:a.num<0
  ·have es:bV a.num= -1:=by unfold bV;rw [yL h0]
   rw [es] at e;rw [lR h0] at e ⊢;have hc:=F0 (s:=45::aq a.num.natAbs) (k:=1) (by simp);simp only [List.drop_succ_cons,yt,yM] at hc;simp only [go_sem,ya,Dq,e,show (-1:Int)<0 by decide,ef,eC,df,hc]
  ·have es:¬bV a.num<0:=by unfold bV;rw [yu h0];split<;>decide
   have hi:aU a.num=aq a.num.natAbs:=by
    obtain ⟨m,hm⟩:∃m:Nat,a.num=m:=⟨a.num.toNat,by omega⟩;rw [hm,km,xn]
   simp only [go_sem,ya,Dq,e,es];rw [hi]
 have e3:bM P L (D P L) 286 [.str (RT a)]=some (.str (aq a.den)):=by
  rw [aG h.aAt];by_cases hd:a.den=1
  ·have hR:(RT a).length=(aU a.num).length:=by unfold RT;rw [yL hd];simp
   rw [hd,show aq 1=[49] by decide];simp only [go_sem,ya,LJ,e0,show ((aU a.num).length:Int)=((RT a).length:Int) by omega,yq]
  ·have hR:RT a=(aU a.num++[47])++aq a.den:=by unfold RT;rw [yu hd];simp
   have hRl:(RT a).length=(aU a.num).length+1+(aq a.den).length:=by rw [hR];simp;omega
   have hc:=F0 (s:=RT a) (k:=(aU a.num).length+1) (by omega);have gM:(RT a).drop ((aU a.num).length+1)=aq a.den:=by
    rw [hR,show (aU a.num).length+1=(aU a.num++[47]).length by simp,uf]
   rw [gM] at hc
   simp only [go_sem,ya,LJ,e0,show ¬((aU a.num).length:Int)=((RT a).length:Int) by omega,show ((aU a.num).length:Int)+1=(((aU a.num).length+1:Nat):Int) from rfl,wrapN (n:=(aU a.num).length+1) (by omega),ef,eC,df,hc]
 exact ⟨e1,e2,e3⟩
end
section
open Go (IntKind)
open Classical in
noncomputable def jN (s:List Nat):Rat:=if h:jE s=0 then Classical.choose (awp h) else 0
def J8 {s:List Nat} (h:jE s=0):s=RT (jN s)/\(aq (jN s).num.natAbs).length<=600/\(aq (jN s).den).length<=600:=by
 unfold jN
 grind
def JO {z:Int} {k M:Nat} (h:(aq z.natAbs).length<=k) (hM:4*k<=M):Bd M z:=by
 have h1:=Gb z.natAbs;have h2:=Gd (aq z.natAbs).length;have h3:(2:Nat)^(4*(aq z.natAbs).length)<=2^M:=yR (by decide) (by omega);exact yE h1 (xe h2 h3)
def asN {s:List Nat} (h:jE s=0) {M:Nat} (hM:2400<=M):Hq M (jN s):=by
 obtain ⟨_,h1,h2⟩:=J8 h
 exact ⟨JO h1 (by omega),JO (z:=((jN s).den:Int)) (by rw [xn];exact h2) (by omega)⟩
instance (k:Nat) (z:Int):Decidable (Bd k z):=inferInstanceAs (Decidable (z.natAbs<2^k))
def aAz:RT 1=[49]:=by decide
def ij:Rat:=⟨1,2,by decide,by decide⟩
def aAA:RT ij=[49,47,50]:=by decide
def aAB:Hq 2 1:=⟨by decide,by decide⟩
def WA:Hq 2 ij:=⟨by decide,by decide⟩
section
variable {P:aM} {L:Lib}
def WB (h:Rp P L) (Ig:Has P L 315 LM) {a b:Rat} {K M:Nat} (ka:Hq K a) (kb:Hq M b) (hK:K+M+1<=8000000000):ai P L 315 [.str (RT a),.str (RT b)] (ab (bV (a-b).num)):=by
 have e1:=QD h ka kb hK;have e2:=QB h.toRm (ka.sub kb) hK;unfold ai at e1 e2 ⊢;rw [aG Ig];simp only [go_sem,ya,LM,e1,e2]
def aAC (h:Rn P L) (WC:Has P L 319 LN) {a:Rat} {K:Nat} (ka:Hq K a) (hK:K+2<=8000000000):ai P L 319 [.str (RT a)] (.str (RT (a*ij))):=by
 have e1:=Lc h ka WA hK;rw [aAA] at e1;unfold ai at e1 ⊢;rw [aG WC];simp only [go_sem,ya,LN,e1]
end
end
structure F4 (c1 c2 c3 c4:AV):Prop where
 an:∀(n:Nat) (hp:Hp),freeze (n+20) hp (.agg [c1,c2,c3,c4])=some (.agg [c1,c2,c3,c4],hp)
 dj:∀hp:Hp,result hp (.agg [c1,c2,c3,c4])=some (.agg [c1,c2,c3,c4])
 st:∀(hp:Hp) (ct id:Nat) (a b c d:AV),jY hp ct id 0 4 [c1,c2,c3,c4] (some (.cells true true true 4 [a,b,c,d]))=some (.aa [],bi hp id (.cells true true true 4 [c1,c2,c3,c4]),ct)
 bx:∀ct:Nat,DN ct 4 [c1,c2,c3,c4]=some (.ptr ct 0,.cells true true true 4 [c1,c2,c3,c4])
 o1:eb c1=true
 o2:eb c2=true
 o3:eb c3=true
 o4:eb c4=true
 pu:bk (.agg [c1,c2,c3,c4])=true
 z1:∀(n:Nat) (hp:Hp),freeze (n+1) hp c1=some (c1,hp)
 z2:∀(n:Nat) (hp:Hp),freeze (n+1) hp c2=some (c2,hp)
 z3:∀(n:Nat) (hp:Hp),freeze (n+1) hp c3=some (c3,hp)
 z4:∀(n:Nat) (hp:Hp),freeze (n+1) hp c4=some (c4,hp)
def dG.gen {v:AV} {a:Rat} (h:dG v a):∃c1 c2 c3 c4,v= .agg [c1,c2,c3,c4]/\F4 c1 c2 c3 c4:=by
 obtain ⟨s1,w1,s2,w2,rfl,h1,h2⟩:=h;obtain ⟨l1,u1⟩:=h1.aJ;obtain ⟨l2,u2⟩:=h2.aJ;refine ⟨_,_,_,_,rfl,fun n hp=>?_,js u1 u2,fun hp ct id a b c d=>jr u1 u2 hp ct id a b c d,fun ct=>by simp only [go_sem,yd,bf,u1.pu,u1.one,u2.pu,u2.one],rfl,u1.one,rfl,u2.one,by simp [bk,aH,u1.pu,u2.pu],fun _ _=>rfl,fun n _=>u1.an n,fun _ _=>rfl,fun n _=>u2.an n⟩;exact b8 _ _ (by simp only [go_sem,u1.an,u2.an])
def ayC (n k:Nat) (h:n<k) (h0:k≠0):Hq k ((2:Rat)^n):=by
 refine ⟨?_,?_⟩
 ·rw [ycs];unfold Bd;show ((2:Int)^n).natAbs<_
  rw [Int.natAbs_pow];exact wL (by decide) h
 ·rw [yct];unfold Bd;show (((1:Nat)^n:Nat):Int).natAbs<_
  rw [Nat.one_pow];exact wU h0
def aa5 (k:Nat) {z:Int} (h:Bd k z) (h0:k≠0):Hq k ((z:Int):Rat):=⟨by rw [uB];exact h,by rw [uC];exact wU h0⟩
def agW (k j:Nat) {s:Bool} {M:Nat} (h:M<2^j) (hj:j<=k):Bd k (aZ s M):=by
 unfold Bd aZ
 have:(if s=true then -(M:Int) else (M:Int)).natAbs=M:=by split<;>omega
 rw [this];exact yE h (yR (by decide) hj)
def b7 (s:Bool) (M:Nat):Rat:=((aZ s M:Int):Rat)*p2 (-149)
section
variable {P:aM} {L:Lib}
def ajg (h:Fr' P L) (mW:Has P L 155 BM) (sB:Has P L 241 Dm) {v:AV} {a:Rat} {K k:Nat} (hv:dG v a) (ka:Hq K a) (hK:K*k+1<=30000000000) (hk:k<9223372036854775808):∃r,ai P L 241 [v,ab k] r/\dG r (a^k):=by
 obtain ⟨s1,w1,s2,w2,rfl,h1,h2⟩:=hv;obtain ⟨l1,u1⟩:=h1.aJ;obtain ⟨l2,u2⟩:=h2.aJ;obtain ⟨n,e1,hn⟩:=Wh h.toNu mW ⟨s1,w1,rfl,h1⟩ ka.1 hK hk;obtain ⟨d,e2,hd⟩:=Wh h.toNu mW ⟨s2,w2,rfl,h2⟩ ka.2 hK hk;obtain ⟨s3,w3,rfl,h3⟩:=hn;obtain ⟨s4,w4,rfl,h4⟩:=hd;obtain ⟨l3,u3⟩:=h3.aJ;obtain ⟨l4,u4⟩:=h4.aJ;refine ⟨.agg [ab s3,w3,ab s4,w4],?_,s3,w3,s4,w4,rfl,by rw [ycs];exact h3,by rw [yct,Int.natCast_pow];exact h4⟩
 unfold ai at e1 e2;unfold ai;rw [aG sB];simp only [go_sem,ya,yd,Dm,bf,u1.pu,u1.an,u1.one,u2.pu,u2.an,u2.one,u3.one,u4.one,bQ,yh,mN,qj,b8,e1,e2,bF,zu,zx,jr u3 u4,dV,dX,yt,dT,js u3 u4]
def KI:Hq 2 (2:Rat):=⟨by unfold Bd;decide,by unfold Bd;decide⟩
def WD (h:Fr' P L) (mW:Has P L 155 BM) (sB:Has P L 241 Dm) (B1:Has P L 228 Dk) {k:Int} (hk: -100000<=k/\k<=100000):∃r,ai P L 228 [ab k] r/\dG r (p2 k):=by
 obtain ⟨t,e1,ht⟩:=m69 h (z:=2) (by decide) (by decide);have ht:dG t (2:Rat):=ht;have un:=oX;obtain ⟨t1,t2,t3,t4,rfl,ft⟩:=ht.gen;by_cases c:k<0
 ·obtain ⟨n,hn⟩:∃n:Nat,k= -(n:Int):=⟨k.natAbs,by omega⟩;obtain ⟨q,e2,hq⟩:=ajg h mW sB ht KI (k:=n) (by omega) (by omega);have kq:Hq 100001 ((2:Rat)^n):=ayC n 100001 (by omega) (by decide);have h0:(2:Rat)^n≠0:=by
   have:=K7 n
   rwa [show p2 n=(2:Rat)^n from uM _ _] at this
  obtain ⟨r,e3,hr⟩:=m73 h hq h0 kq (by decide);obtain ⟨q1,q2,q3,q4,rfl,fq⟩:=hq.gen;have hp:((2:Rat)^n)⁻¹=p2 k:=by
   rw [hn];unfold p2;rw [ycf,uM]
  rw [hp] at hr;have bZ:=hr;obtain ⟨s1,w1,s2,w2,rfl,k1,k2⟩:=hr;obtain ⟨l1,u1⟩:=k1.aJ;obtain ⟨l2,u2⟩:=k2.aJ;refine ⟨_,?_,bZ⟩;have wn:IntKind.wrap .i64 (0-k)=(n:Int):=by rw [wrap64 (by omega) (by omega)];omega
  unfold ai at e1 e2 e3;unfold ai;rw [aG B1];simp only [go_sem,ya,yd,Dk,bf,c,yq,e1,ft.an,wn,e2,fq.an,e3,bF,jr u1 u2,dV,dX,yt,dT,js u1 u2]
 ·obtain ⟨n,hn⟩:∃n:Nat,k=(n:Int):=⟨k.natAbs,by omega⟩;subst hn;obtain ⟨r,e2,hr⟩:=ajg h mW sB ht KI (k:=n) (by omega) (by omega);have hp:(2:Rat)^n=p2 n:=(uM _ _).symm;rw [hp] at hr;have bZ:=hr;obtain ⟨s1,w1,s2,w2,rfl,k1,k2⟩:=hr;obtain ⟨l1,u1⟩:=k1.aJ;obtain ⟨l2,u2⟩:=k2.aJ;refine ⟨_,?_,bZ⟩;unfold ai at e1 e2;unfold ai;rw [aG B1];simp only [go_sem,ya,yd,Dk,bf,c,yv,e1,ft.an,e2,bF,jr u1 u2,dV,dX,yt,dT,js u1 u2]
end
def jj (b:Nat):refs (.aw .f32 b)=[]:=rfl
def jl (f:Nat->Option Nat) (b:Nat):bX f (.aw .f32 b)= .aw .f32 b:=rfl
def nS (n:Nat) (hp:Hp) (b:Nat):freeze (n+1) hp (.aw .f32 b)=some (.aw .f32 b,hp):=rfl
structure Fx (P:aM) (L:Lib):Prop extends Fr' P L where
 mW:Has P L 155 BM
 B1:Has P L 228 Dk
 aAD:Has P L 232 lF
 sB:Has P L 241 Dm
def oR:Hp:=[(0,.cells true true true 4 [.int .i64 0,.ae,.int .i64 0,.ae])]
section
variable {P:aM} {L:Lib}
def awM {s:Bool} {M:Nat} (hM:M<2^277):
  ∀(d:Nat) (st:St),(∃(b:Nat) (N:Nat) (k:Nat),d=N/\Fl b s N/\N*2^k=M/\(M=0->k=0)/\aP [0,2,3] st=⟨[(0,.aw .f32 b),(2,.ptr 0 0),(3,ab k)],oR,1,0⟩)->
   ∃ex s',D P L (.loop [0,2,3] Gv) st=some (ex,s')/\∃tm ct b N,∃k:Nat,s'=⟨tm,oR,ct,0⟩/\ex= .exit 0/\Fl b s N/\N*2^k=M/\N<2^173/\k<277/\aj tm 0= .aw .f32 b/\aj tm 2= .ptr 0 0/\aj tm 3=ab k:=by
 intro dq sq;generalize bq:aP [0,2,3] sq=s0;revert bq s0 sq dq;apply dt;rintro d st ⟨b,N,k,hd,hN,hq,hz,rfl⟩;have hk:k<277:=by
  by_cases h0:M=0
  ·rw [hz h0];decide
  ·have N0:0<N:=by
    rcases xh N with q | q
    ·rw [q,wE] at hq;exact absurd hq.symm h0
    ·exact q
   have h1:2^k<=N*2^k:=uV _ N0;exact aiX k 277 (xJ (by rw [hq] at h1;exact h1) hM)
 obtain ⟨a,e1,ha⟩:=ayr hN;have e2:=agL ha agM;have hc:(aZ false (2^173)<=aZ false N)↔2^173<=N:=Int.ofNat_le;unfold oR;by_cases c:2^173<=N
 ·left
  obtain ⟨b',e3,bJ⟩:=P6 hN (hN.even c);have qY:=hN.even c;rw [y5 (hc.2 c)] at e2;have wk:IntKind.wrap .i64 ((k:Int)+1)=((k+1:Nat):Int):=wrap64 (by omega) (by omega);simp only [go_sem,ya,Gv,G8,lW,e1,e2,e3,wk];have mZ:0<2^k:=y7 _;have rn:M≠0:=fun q=>by
   rw [q] at hq
   have:=vd (show 0<N by omega) mZ
   omega
  refine ⟨_,N/2,rfl,by omega,b',N/2,k+1,rfl,bJ,by rw [yU,xg (2^k),<-xb,show N/2*2=N by omega,hq],fun q=>absurd q rn,?_⟩;simp only [go_sem,ya,yd,aC,jj,jl]<;>rfl
 ·right
  rw [yF (fun q=>c (hc.1 q))] at e2;simp only [go_sem,ya,Gv,G8,lW,e1,e2];exact ⟨_,_,rfl,by simp,_,_,b,N,k,rfl,rfl,hN,hq,by omega,hk,by simp only [go_sem,ya],by simp only [go_sem,ya],by simp only [go_sem,ya]⟩
def awN {s:Bool} {M:Nat}:
  ∀(d:Nat) (st:St),(∃(b:Nat) (N:Nat) (j:Nat) (k:Int),d+j=149/\Fl b s N/\2^j∣N/\N<2^173/\(N:Rat)*p2 k=(M:Rat)/\-149<=k+j/\k+j<=277/\aP [0,2,3] st=⟨[(0,.aw .f32 b),(2,.ptr 0 0),(3,ab k)],oR,1,0⟩)->
   ∃ex s',D P L (.loop [0,2,3] Gw) st=some (ex,s')/\∃tm ct b N,∃k:Int,s'=⟨tm,oR,ct,0⟩/\ex= .exit 2/\Fl b s N/\N%2^149=0/\N<2^173/\(N:Rat)*p2 k=(M:Rat)/\-298<=k/\k<=277/\aj tm 0= .aw .f32 b/\aj tm 2= .ptr 0 0/\aj tm 3=ab k:=by
 intro dq sq;generalize bq:aP [0,2,3] sq=s0;revert bq s0 sq dq;apply dt;rintro d st ⟨b,N,j,k,hd,hN,hj,aF,hq,k1,k2,rfl⟩;have ot:N<2^200:=vj aF (by decide);have e1:=Kr hN ot;have hn:N/2^149<2^24:=by rw [xx (y7 _),<-xj];exact aF
 have ha:(aZ s (N/2^149)).natAbs=N/2^149:=by unfold aZ;split<;>omega
 obtain ⟨c,e2,hc⟩:=PF (n:=aZ s (N/2^149)) (by omega);rw [ha] at hc;have e3:=K9 hN hc;have eB:=xM N (2^149);have hw:(aZ s N=aZ (decide (aZ s (N/2^149)<0)) (N/2^149*2^149))↔N%2^149=0:=by
  have X9:N/2^149=0->N/2^149*2^149=0:=fun h=>by rw [h,wE]
  generalize hQ:N/2^149=q at*
  generalize hR:N%2^149=r at*
  rw [xg] at eB;generalize q*2^149=X at*
  unfold aZ
  cases s with
  | false=>
   have:decide ((if false=true then -(q:Int) else (q:Int))<0)=false:=yF (by simp)
   rw [this];simp;omega
  | true=>
   rw [yL rfl,yL rfl];by_cases q0:q=0
   ·have hX:=X9 q0
    have:decide (-(q:Int)<0)=false:=yF (by omega)
    rw [this,yu (by decide)];omega
   ·have:decide (-(q:Int)<0)=true:=y5 (by omega)
    rw [this,yL rfl];omega
 unfold oR;by_cases w:N%2^149=0
 ·right
  rw [y5 (hw.2 w)] at e3;simp only [go_sem,ya,Gw,e1,e2,e3,yN];have aF0:j<=149:=by omega
  exact ⟨_,_,rfl,by simp,_,_,b,N,k,rfl,rfl,hN,w,aF,hq,by omega,by omega,by simp only [go_sem,ya],by simp only [go_sem,ya],by simp only [go_sem,ya]⟩
 ·left
  rw [yF (fun q=>w (hw.1 q))] at e3;have aAE:N<2^172:=by
   by_cases q:N<2^172
   ·exact q
   ·exact absurd (hN.whole (by omega)) w
  obtain ⟨b',e4,bJ⟩:=P5 hN (vj aF (aiW 173 276 (by decide)));have B6:j<149:=by
   rcases vh j 149 with q | q
   ·exact q
   ·have:j=149:=by omega
    subst this;exact absurd (Nat.mod_eq_zero_of_dvd hj) w
  have wk:IntKind.wrap .i64 (k-1)=k-1:=wrap64 (by omega) (by omega);simp only [go_sem,ya,Gw,e1,e2,e3,yS,e4,wk];refine ⟨_,d-1,rfl,by omega,b',2*N,j+1,k-1,by omega,bJ,by rw [yU,xg (2^j)];exact Nat.mul_dvd_mul_left 2 hj,by omega,?_,by omega,by omega,?_⟩
  ·rw [<-hq,xd]
   have:p2 k=p2 1*p2 (k-1):=by rw [<-du,show 1+(k-1)=k by omega]
   rw [this,oh];show (2:Rat)*(N:Rat)*p2 (k-1)=(N:Rat)*(2*p2 (k-1))
   grind
  ·simp only [go_sem,ya,yd,aC,jj,jl]<;>rfl
def afC {s:Bool} {M N:Nat} {k:Int} (h:(N:Rat)*p2 k=(M:Rat)) (hw:N%2^149=0):((aZ s (N/2^149):Int):Rat)*p2 k=b7 s M:=by
 have e:N=N/2^149*2^149:=by have:=xM N (2^149);omega
 have h1:((N/2^149:Nat):Rat)*p2 149=(N:Rat):=by
  conv=>rhs;rw [e,xd,<-eJ]
  rfl
 generalize N/2^149=n at h1;have h2:((n:Nat):Rat)*p2 k=(M:Rat)*p2 (-149):=by
  rw [<-h,<-h1]
  have:p2 149*p2 (-149)=1:=by rw [<-du];exact me
  have h3:(n:Rat)*p2 149*p2 k*p2 (-149)=(n:Rat)*p2 k*(p2 149*p2 (-149)):=by grind
  rw [h3,this,wj]
 unfold b7 aZ;have c1:(((n:Nat):Int):Rat)=(n:Rat):=rfl;have c2:(((M:Nat):Int):Rat)=(M:Rat):=rfl
 cases s with
 | true=>rw [yL rfl,yL rfl,vn,vn,c1,c2];grind
 | false=>rw [yu (by decide),yu (by decide),c1,c2];exact h2
def QE (k:Int):Hq (k.natAbs+2) (p2 k):=by
 by_cases c:0<=k
 ·obtain ⟨n,rfl⟩:∃n:Nat,k=n:=⟨k.natAbs,by omega⟩;rw [show p2 (n:Int)=((2^n:Nat):Int) from eJ n];exact ⟨by rw [uB];unfold Bd;rw [xn];exact wL (by decide) (by omega),by rw [uC];unfold Bd;exact wU (by omega)⟩
 ·obtain ⟨n,rfl⟩:∃n:Nat,k= -(n:Int):=⟨k.natAbs,by omega⟩
  have:p2 (-(n:Int))=(p2 n)⁻¹:=by unfold p2;rw [ycf]
  rw [this];refine Hq.inv ?_;rw [show p2 (n:Int)=((2^n:Nat):Int) from eJ n];exact ⟨by rw [uB];unfold Bd;rw [xn];exact wL (by decide) (by omega),by rw [uC];unfold Bd;exact wU (by omega)⟩
def M3 (k:Int) (hk:k.natAbs<=900):Hq 1001 (p2 k):=(QE k).mono (by omega)
def aAF (h:Fx P L) {b:Nat} {s:Bool} {M:Nat} (hb:Fl b s M):∃r,ai P L 232 [.aw .f32 b] r/\dG r (b7 s M):=by
 have key:∀(b' N:Nat) (k:Int) (tm:Env) (ct:Nat),Fl b' s N->N%2^149=0->N<2^173->(N:Rat)*p2 k=(M:Rat)-> -298<=k->k<=277->aj tm 0= .aw .f32 b'->aj tm 2= .ptr 0 0->aj tm 3=ab k->∃r,db lF.dj (D P L (bT 3 lF.body) ⟨[(0,.aw .f32 b'),(2,.ptr 0 0),(3,ab k)],oR,1,0⟩)=some r/\dG r (b7 s M):=by
  intro b' N k tm ct hN hw aF hq k1 k2 _ _ _;have e1:=Kr hN (vj aF (by decide));have hn:N/2^149<2^24:=by rw [xx (y7 _),<-xj];exact aF
  have ha:(aZ s (N/2^149)).natAbs=N/2^149:=by unfold aZ;split<;>omega
  have hx:=afC (s:=s) hq hw;generalize aZ s (N/2^149)=z at*
  obtain ⟨u,e2,hu⟩:=m69 h.toFr' (z:=z) (by omega) (by omega);obtain ⟨v,e3,hv⟩:=WD h.toFr' h.mW h.sB h.B1 (k:=k) (by omega);have ku:Hq 25 ((z:Int):Rat):=⟨by rw [uB];unfold Bd;omega,by rw [uC];unfold Bd;decide⟩
  obtain ⟨r,e4,hr⟩:=m49 h.toFr' hu hv (ku.mono (show 25<=1001 by decide)) (M3 k (by omega)) (by decide);rw [hx] at hr;have bZ:=hr;obtain ⟨u1,u2,u3,u4,rfl,fu⟩:=hu.gen;obtain ⟨v1,v2,v3,v4,rfl,fG⟩:=hv.gen;obtain ⟨r1,r2,r3,r4,rfl,fr⟩:=hr.gen;refine ⟨_,?_,bZ⟩;unfold ai at e2 e3 e4;unfold oR;simp only [go_sem,ya,lF,bT,au,e1,e2,fu.an,e3,fG.an,e4,fr.dj,fr.st,bF,dV,dX,yt,dT]
 have l1:=awM (P:=P) (L:=L) (s:=s) hb.lt M;unfold ai;rw [aG h.aAD];have cut:lF.body= .seq (aW lF.body) (.seq (aW (bT 0 lF.body)) (.seq (aW (bT 1 lF.body)) (.seq (aW (bT 2 lF.body)) (bT 3 lF.body)))):=rfl;show ∃r,db lF.dj (D P L lF.body _)=some r/\_
 rw [cut];generalize bT 3 lF.body=T at key ⊢;simp only [go_sem,yd,lF,bT,au,aW,bf];generalize hq:D P L (.loop [0,2,3] Gv) _=q;obtain ⟨ex,st,rfl,tm,ct,b',N,k,rfl,rfl,hN,Ya,aF,hk,t0,t2,t3⟩:=cr hq l1 ⟨b,M,0,rfl,hb,by rw [vL,ym],fun _=>rfl,by unfold oR;simp only [go_sem,ya,yd,aC,jj,jl]<;>rfl⟩
 unfold oR;simp only [go_sem,yd,aC,t0,t2,t3,jj,jl];generalize hq:D P L (.loop [0,2,3] Gw) _=q;have l2:=awN (P:=P) (L:=L) (s:=s) (M:=M) 149;obtain ⟨ex,st,rfl,tm,ct,b2,N2,k2,rfl,rfl,Yb,hw,ot,ri,k3,k4,u0,u2,u3⟩:=cr hq l2 ⟨b',N,0,k,rfl,hN,by rw [vL];exact Nat.one_dvd N,aF,by rw [<-Ya,xd,eJ],by omega,by omega,by unfold oR;simp only [go_sem,ya,yd,aC,jj,jl]<;>rfl⟩
 unfold oR;simp only [go_sem,yd,aC,u0,u2,u3,jj,jl];exact key b2 N2 k2 tm ct Yb hw ot ri k3 k4 u0 u2 u3
end
def Pm {a b:Nat} (h:aq a=aq b):a=b:=by
 have h1:=rC a;rw [h,rC b] at h1;exact (tu h1).symm
def aeq:∀(k n:Nat),n<k->n≠0->∃b r,aq n=b::r/\b≠48
 | 0,n,h,_=>absurd h (Nat.not_lt_zero n)
 | k+1,n,h,h0=>by
  by_cases h1:n<10
  ·exact ⟨48+n,[],my h1,by omega⟩
  ·obtain ⟨b,r,e,hb⟩:=aeq k (n/10) (by omega) (by omega);exact ⟨b,r++[48+n%10],by rw [nI (by omega),e];rfl,hb⟩
def aa6 (n:Nat):di (aq n)=true:=by
 unfold di;rw [ze,wq];by_cases h0:n=0
 ·subst h0;decide
 ·obtain ⟨b,r,e,hb⟩:=aeq (n+1) n (by omega) h0;rw [e]
  have:yp b 48=false:=by
   cases hq:yp b 48 with
   | false=>rfl
   | true=>exact absurd (yj hq) hb
  simp [this]
def aa7 (n:Nat):eW (aq n)=n:=by unfold eW;rw [rC];rfl
def aqq {z:Int} (h:¬z<0):aU z=aq z.natAbs:=by
 obtain ⟨m,rfl⟩:∃m:Nat,z=m:=⟨z.toNat,by omega⟩;rw [km,xn]
def QF (r:Rat):RT r=aU r.num++iP r.den:=rfl
def awO {r:Rat} (h1:(aq r.num.natAbs).length<=600) (h2:(aq r.den).length<=600):jE (RT r)=0:=by
 have key:∀neg:Bool,(neg=true->r.num.natAbs≠0)->lI neg (aq r.num.natAbs++iP r.den)=0:=by
  intro neg eQ;have hco:wo r.num.natAbs r.den=1:=r.reduced;have fE:r.den≠0:=r.den_nz;generalize r.num.natAbs=m at*
  generalize r.den=d at*
  have hs:bR (aq m++iP d)=(aq m).length:=by rw [FB _ (ze m),Zc];rfl
  have c1:¬((true=false)\/(neg=true/\aq m=[48])):=by
   rintro (h | ⟨h,h'⟩)
   ·cases h
   ·exact eQ h (Pm (h'.trans (by decide)))
  unfold lI;rw [hs,ue,aa6,yu c1];by_cases hd:d=1
  ·have hr:iP d=[]:=yL hd;rw [hr,xV,yu (by omega),yu (by omega),yu (by omega)]
  ·have hr:iP d=47::aq d:=yu hd;have gM:(aq m++iP d).drop ((aq m).length+1)=aq d:=by
    rw [hr,show aq m++47::aq d=(aq m++[47])++aq d by simp,show (aq m).length+1=(aq m++[47]).length by simp,uf]
   have hl:(aq m++iP d).length=(aq m).length+1+(aq d).length:=by rw [hr];simp;omega
   rw [gM,hl,aa6,aa7,aa7];have n0:aq d≠[48]:=fun e=>fE (Pm (e.trans (by decide)))
   have n1:aq d≠[49]:=fun e=>hd (Pm (e.trans (by decide)))
   rw [yu (by simp [n0,n1]),yu (by omega),yu (by simp [hco])]
 rw [QF];by_cases h0:r.num<0
 ·rw [lR h0];show (if 45=45 then lI true (aq r.num.natAbs++iP r.den) else lI false (45::(aq r.num.natAbs++iP r.den)))=0
  rw [yL rfl];exact key true (fun _=>by omega)
 ·rw [aqq h0];have k:=key false (fun h=>by cases h);have hp:=rG r.num.natAbs;have j8:=ze r.num.natAbs
  cases hq:aq r.num.natAbs with
  | nil=>rw [hq] at hp;simp at hp
  | cons b t=>
   rw [hq] at k j8
   have:=Z5 j8
   show (if b=45 then lI true (t++iP r.den) else lI false (b::(t++iP r.den)))=0
   rw [yu (by omega)];exact k
def afD {r:Rat} {K:Nat} (h:Hq K r) (hK:K<=1800):(aq r.num.natAbs).length<=600/\(aq r.den).length<=600:=by
 refine ⟨Zk (B:=K) hK (by decide) h.1,Zk (B:=K) hK (by decide) ?_⟩
 have:=h.2
 unfold Bd at this
 rwa [xn] at this
def P7 {r:Rat} {K:Nat} (h:Hq K r) (hK:K<=1800):jE (RT r)=0:=awO (afD h hK).1 (afD h hK).2
noncomputable def DW (k:Nat) (s:List Nat):Bool:=decide (s.length<=2*k+2)&&(decide (jE s=0)&&(decide ((aq (jN s).num.natAbs).length<=k)&&decide ((aq (jN s).den).length<=k)))
section
variable {P:aM} {L:Lib}
def agX (h:Rm P L) (M4:Has P L 359 zY) {k:Nat} (hk:k<=1000) {s:List Nat} (hs:s.length<9223372036854775808):ai P L 359 [.str s,ab k] (.bool (DW k s)):=by
 unfold ai DW;rw [aG M4];by_cases h1:s.length<=2*k+2
 ·have e1:=Wz h (s:=s) (by omega);unfold ai at e1;rw [y5 (show s.length<=2*k+2 from h1),wq];by_cases h2:jE s=0
  ·rw [h2] at e1;obtain ⟨hR,_⟩:=J8 h2;have kr:=asN h2 (yA 2400);obtain ⟨e2,e3,e4⟩:=asM h kr (by omega);rw [<-hR] at e2 e4;have l1:=Kt kr.1;have l2:=Kt kr.2;rw [xn] at l2;rw [y5 h2,wq];by_cases h3:(aq (jN s).num.natAbs).length<=k
   ·rw [y5 h3,wq];by_cases h4:(aq (jN s).den).length<=k
    ·rw [y5 h4]
     simp only [go_sem,ya,zY,wrap64 (n:=2*(k:Int)) (by omega) (by omega),wrap64 (n:=2*(k:Int)+2) (by omega) (by omega),yq,show (s.length:Int)<=2*(k:Int)+2 by omega,e1,e2,e3,e4,show ((aq (jN s).num.natAbs).length:Int)<=(k:Int) by omega,show ((aq (jN s).den).length:Int)<=(k:Int) by omega]
    ·rw [yF h4]
     simp only [go_sem,ya,zY,wrap64 (n:=2*(k:Int)) (by omega) (by omega),wrap64 (n:=2*(k:Int)+2) (by omega) (by omega),yq,show (s.length:Int)<=2*(k:Int)+2 by omega,e1,e2,e3,e4,show ((aq (jN s).num.natAbs).length:Int)<=(k:Int) by omega,show ¬((aq (jN s).den).length:Int)<=(k:Int) by omega,yv]
   ·rw [yF h3,wh]
    simp only [go_sem,ya,zY,wrap64 (n:=2*(k:Int)) (by omega) (by omega),wrap64 (n:=2*(k:Int)+2) (by omega) (by omega),yq,show (s.length:Int)<=2*(k:Int)+2 by omega,e1,e2,e3,show ¬((aq (jN s).num.natAbs).length:Int)<=(k:Int) by omega,yv]
  ·rw [yF h2,wh];have WV:¬jE s=0:=h2
   simp only [go_sem,ya,zY,wrap64 (n:=2*(k:Int)) (by omega) (by omega),wrap64 (n:=2*(k:Int)+2) (by omega) (by omega),yq,show (s.length:Int)<=2*(k:Int)+2 by omega,e1,WV,yv]
 ·rw [yF (show ¬s.length<=2*k+2 from h1),wh]
  simp only [go_sem,ya,zY,wrap64 (n:=2*(k:Int)) (by omega) (by omega),wrap64 (n:=2*(k:Int)+2) (by omega) (by omega),show ¬(s.length:Int)<=2*(k:Int)+2 by omega,yv]
end
def Am:dD (.int .i64 1)=some 1:=rfl
structure Spn (P:aM) (L:Lib):Prop extends Ck P L where
 h88:Has P L 88 jW
 aGi:Has P L 161 ahk
 aGj:Has P L 188 ahl
 aGk:Has P L 189 ahm
 aGl:Has P L 191 ahn
 aGm:Has P L 209 aho
 aGn:Has P L 210 ahp
 aGo:Has P L 211 ahq
 aGp:Has P L 214 ahr
 aGq:Has P L 233 ahs
 aGr:Has P L 234 aht
section
variable {P:aM} {L:Lib}
def aAG (Ih:Has P L 150 Hn) {v:AV} {z:Int} (hv:cw v z) (h1: -9223372036854775808<z) (h2:z<9223372036854775808):ai P L 150 [v] (.aa [ab z,.bool true]):=by
 obtain ⟨s,w,rfl,hn⟩:=hv;rcases hn with ⟨rfl,rfl,_,_⟩ | ⟨e,l,rfl,g,n,hb,hs,h3⟩
 ·unfold ai;rw [aG Ih];simp only [go_sem,ya,yd,Hn,bf,bQ,yh,cO,fR,dR];rfl
 ·omega
end
def pw (b:Rat):Nat->Rat
 | 0=>1
 | n+1=>pw b n*b
def afE (b:Rat) (m:Nat):∀n,pw b (m+n)=pw b m*pw b n
 | 0=>by rw [yZ,pw,wj]
 | n+1=>by rw [<-ug,pw,pw,afE b m n,xB]
def Hc {b:Rat} {K:Nat} (h:Hq K b):∀n,Hq (K*n+2) (pw b n)
 | 0=>aAB.mono (by omega)
 | n+1=>((Hc h n).mul h).mono (by rw [Nat.mul_succ];omega)
section
variable {P:aM} {L:Lib}
def awP (h:Rn P L) {b:Rat} {K k0:Nat} (hb:Hq K b) (hK:K*k0<=1000000000):
  ∀m st,(∃i e o:Nat,aP [0,1,5] st=⟨[(0,.str (RT (pw b i))),(1,ab e),(5,.str (RT (pw b o)))],[],0,0⟩/\o+i*e=k0/\e<9223372036854775808/\e=m)->
   ∃ex st',D P L (.loop [0,1,5] C0) st=some (ex,st')/\∃tm ct,st'=⟨tm,[],ct,0⟩/\ex= .exit 0/\aj tm 5= .str (RT (pw b k0)):=by
 intro dq sq;generalize bq:aP [0,1,5] sq=s0;revert bq s0 sq dq;apply dt;rintro m st ⟨i,e,o,rfl,ho,he,rfl⟩;by_cases h0:0<e
 ·left
  have hi:i<=k0:=by have:=uL i h0;omega
  have ki:K*i<=1000000000:=xe (yP K hi) hK;have ko:K*o<=1000000000:=xe (yP K (show o<=k0 by omega)) hK;have e1:=Lc h (Hc hb i) (Hc hb i) (by omega);have e2:=Lc h (Hc hb o) (Hc hb i) (by omega);rw [<-afE] at e1 e2;have r2:(e:Int).tmod 2=((e%2:Nat):Int):=rfl;have q2:(e:Int).tdiv 2=((e/2:Nat):Int):=rfl;have d0:(2:Int)≠0:=by decide
  have hs:e=2*(e/2)+e%2:=by omega
  have hm:e%2<2:=by omega
  unfold ai at e1 e2;generalize e/2=f at*
  generalize e%2=g at*
  have w1:IntKind.wrap .i64 (g:Int)=g:=wrap64 (by omega) (by omega);have w2:IntKind.wrap .i64 (f:Int)=f:=wrap64 (by omega) (by omega);by_cases h1:g=1
  ·have d1:decide ((g:Int)=1)=true:=y5 (by omega);simp only [go_sem,ya,C0,show (0:Int)<(e:Int) by omega,yq,fo _ _ _ d0,eI _ _ _ d0,r2,q2,w2,d1,e1,e2];refine ⟨_,f,rfl,by omega,i+i,f,o+i,by simp only [go_sem,ya,aC],?_,by omega,rfl⟩;rw [<-ho,hs,h1];grind
  ·have d1:decide ((g:Int)=1)=false:=yF (by omega);simp only [go_sem,ya,C0,show (0:Int)<(e:Int) by omega,yq,fo _ _ _ d0,eI _ _ _ d0,r2,q2,w2,d1,e1];refine ⟨_,f,rfl,by omega,i+i,f,o,by simp only [go_sem,ya,aC],?_,by omega,rfl⟩;have hg:g=0:=by omega
   rw [<-ho,hs,hg];grind
 ·right
  obtain rfl:e=0:=by omega
  obtain rfl:o=k0:=by omega
  simp only [go_sem,ya,C0,show ¬(0:Int)<((0:Nat):Int) by omega,yv];exact ⟨_,_,rfl,by simp,_,_,rfl,rfl,by simp only [go_sem,ya]⟩
def ajh (h:Rn P L) (B2:Has P L 389 Ds) {b:Rat} {K k:Nat} (hb:Hq K b) (hK:K*k<=1000000000) (hk:k<9223372036854775808):ai P L 389 [.str (RT b),ab k] (.str (RT (pw b k))):=by
 unfold ai;rw [aG B2];simp only [go_sem,ya,Ds,show ¬(k:Int)<0 by omega,yv];generalize hq:D P L (.loop [0,1,5] C0) _=q;obtain ⟨ex,st,rfl,tm,ct,rfl,rfl,t5⟩:=cr hq (awP h hb hK k) ⟨1,k,0,by simp only [go_sem,ya,aC,pw,Rat.one_mul,aAz],by omega,hk,rfl⟩;simp only [go_sem,aC,t5]
def ayD (h:Rn P L) (Ie:Has P L 283 Hy) (B2:Has P L 389 Ds) {b:Rat} {K k:Nat} (hb:Hq K b) (hK:K*k<=1000000000) (hk:k<9223372036854775808) (k0:0<k) (b0:b≠0) (hK2:K<=1000000000):ai P L 389 [.str (RT b),ab (-(k:Int))] (.str (RT (pw b⁻¹ k))):=by
 have e1:=ayB h Ie hb (by omega) b0;have e2:=ajh h B2 (hb.inv) hK hk;unfold ai at e1 e2 ⊢;rw [aG B2];have w:IntKind.wrap .i64 (0 - -(k:Int))=k:=by rw [show (0:Int) - -(k:Int)=k by omega];exact wrap64 (by omega) (by omega)
 simp only [go_sem,ya,Ds,show -(k:Int)<0 by omega,yq,e1,w,e2]
end
end VE
