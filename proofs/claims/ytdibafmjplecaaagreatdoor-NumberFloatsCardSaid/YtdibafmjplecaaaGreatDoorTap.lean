import Ieee.Arith
import Derived.Test.YtdibafmjplecaaaGreatDoorTan
import Derived.Test.YtdibafmjplecaaaGreatDoorTad
import Derived.Test.YtdibafmjplecaaaGreatDoorTam
import Derived.Test.YtdibafmjplecaaaGreatDoorTaf
set_option linter.all false
set_option maxRecDepth 100000
open Bool renaming and_eq_true→yf,and_self→uz,and_true→uT,false_and→wB,false_eq_true→yC,false_or→uU,not_false→yP,not_true→yN,toNat_false→yaY,true_and→wK,true_eq_false→yaG,true_or→yah,xor_false→ybn
open Int renaming add_zero→ybZ,gcd→wE,le_of_lt→uR,le_refl→ycn,lt_trichotomy→vU,mul_add→ycq,mul_le_mul→ybB,mul_le_mul_of_nonneg_left→vQ,mul_neg→ycp,mul_nonneg→tj,natAbs_ediv_of_dvd→uo,natAbs_natCast→xm,natCast_add→ybl,natCast_ediv→ybd,natCast_mul→wG,natCast_nonneg→tS,neg_neg→tP,ofNat_eq_natCast→yaB,ofNat_lt→uQ,pow_pos→ycr,pow_succ→tB,sub_self→ycb,tdiv_eq_ediv_of_nonneg→xE,tmod_eq_emod_of_nonneg→xz,toNat_natCast→wo,toNat_of_nonneg→yaF
open Int.ofNat renaming inj→tJ
open List renaming append_assoc→xx,append_nil→xZ,cons_append→xh,drop→vZ,drop_drop→vN,drop_eq_getElem_cons→yX,drop_eq_nil_of_le→xk,drop_left→th,drop_zero→yu,eq_nil_of_length_eq_zero→yD,getD_eq_getElem?_getD→xG,getElem?_eq_getElem→wx,getElem_cons_zero→uI,length_append→y5,length_cons→yO,length_drop→xK,length_map→xt,length_nil→yR,length_pos_iff→uv,length_take→yW,map_append→xI,map_cons→xi,map_nil→vX,mem_cons→wV,nil_append→xT,replicate→yL,set_eq_of_length_le→yab,take_append_drop→xR,take_left→tg,take_length→xH,take_of_length_le→yQ,take_set→yac
open List.cons renaming injEq→tu
open Nat renaming add_assoc→uf,add_comm→ybj,add_mod_left→ybf,add_mul→xS,add_zero→yV,beq→yq,ble→yy,ble_eq_true_of_le→yt,blt→yK,div_add_mod→xF,div_eq_of_lt→xD,div_le_self→wI,div_lt_iff_lt_mul→xy,div_pos→yco,eq_of_beq_eq_true→yj,eq_zero_or_pos→xe,gcd→wm,gcd_comm→tr,le_log2→ycm,le_mul_of_pos_left→uO,le_mul_of_pos_right→uE,le_of_ble_eq_true→yp,le_of_lt_succ→vn,le_of_not_lt→ybc,le_refl→yB,le_trans→xb,log2→ybA,log2_lt→yaA,lt_log2_self→ybg,lt_of_le_of_lt→xB,lt_of_lt_of_le→yE,lt_or_ge→wX,lt_trans→vc,min_eq_left→xA,mod_add_div→vH,mod_eq_of_lt→yF,mod_lt→xu,mul_add→xr,mul_add_div→tx,mul_add_mod→yat,mul_assoc→xd,mul_comm→xg,mul_div_cancel→uh,mul_le_mul→wa,mul_le_mul_left→yS,mul_le_mul_right→yU,mul_lt_mul''→tn,mul_lt_mul_of_pos_right→xQ,mul_mod_left→uD,mul_one→ym,mul_pos→wY,mul_zero→xp,ne_of_gt→vV,one_lt_two_pow→wS,one_shiftLeft→yaX,pow_add→xn,pow_le_pow_left→wU,pow_le_pow_right→yT,pow_lt_pow_iff_right→uy,pow_lt_pow_right→wJ,pow_mul→tO,pow_pos→yal,pow_succ→yZ,pow_zero→vL,reduceAdd→yd,reduceEqDiff→ya,reduceLT→yI,reduceLeDiff→yA,reduceMul→xN,shiftLeft_eq→ue,succ_mul→yca,two_pow_pos→y9,zero_add→yh,zero_le→uN,zero_mul→wh
open Option.some renaming injEq→yb
open Rat renaming den_intCast→vj,den_pow→yct,divInt→wj,floor_def→yad,intCast_neg→uX,lt_irrefl→ui,mul_assoc→xU,mul_comm→ybm,mul_lt_mul_right→wg,mul_one→we,natCast_mul→xv,num_intCast→vI,num_pow→ycs,zpow_natCast→uF,zpow_neg→ycc
namespace VE
open Go (IntKind)
def amT:∀(cs:List AV) (l:List Nat),qg cs=some l->cs=l.map uc/\lo 18446744073709551616 l:=by
 intro cs
 induction cs with
 | nil=>
  intro l h;simp only [qg,yb] at h;subst h;exact ⟨rfl,fun _ h=>by cases h⟩
 | cons c cs ih=>
  intro l h;unfold qg at h
  split at h
  ·grind
  ·rename_i d r nj;cases nj
   cases hb:yK d 18446744073709551616 with
   | false=>rw [hb] at h;cases h
   | true=>
    rw [hb] at h
    cases hw:qg cs with
    | none=>rw [hw] at h;cases h
    | some l'=>
     rw [hw] at h;cases h;obtain ⟨k1,k2⟩:=ih l' hw;refine ⟨by rw [k1];rfl,fun x hx=>?_⟩
     rcases wV.1 hx with rfl | hx
     ·simp_all
     ·exact k2 x hx
  ·cases h
def aam:∀{l:List Nat},zT l=true->fT l
 | [],h=>by cases h
 | [a],h=>by
  have h0:a≠0:=fun e=>by subst e;cases h
  exact CK h0 []
 | a::b::r,h=>by
  have h1:dE (b::r)=b::r:=aam (l:=b::r) h;show dE (a::(b::r))=_
  simp only [dE] at h1 ⊢;rw [h1]
section
variable {P:aK} {L:Lib}
def asD (h:Has P L 99 Co) (WH:L.pure 135=some Hd) {s:Int} (hs:zQ s=true):bG P L (D P L) 99 [.agg [ab s,.ae]]=some (.str (aW s)):=by
 have e1:bG P L (D P L) 135 [ab s]=some (.str (aW s)):=by
  rw [gK WH];show (bif zQ s then some (AV.str (aW s)) else none)=_
  rw [hs];rfl
 rw [aF h];simp only [go_sem,ya,yd,Co,aY,bI,yh,cx,fO,dM,e1]
end
section
open Go
variable {O:a8}
def aor (hO:ef O) (hN:Nu O.prog O.az) (WH:O.az.pure 135=some Hd) (B3:O.az.pure 138=some zd) (sD:O.az.pure 139=some zy) (EE:Has O.prog O.az 99 Co) {fn:Func} {c:Code} (jS:O.P.funcs[O.af 99]? =some fn) (iA:fn.body=some c) (NB:fn.ntmps=69)
  (WD:M9 5 c) (ht:PT O.P c):∀ao r,KE ao=some r->dN O 99 ao r:=by
 intro ao r h;unfold KE at h
 split at h
 ·rename_i s
  cases hs:zQ s with
  | false=>rw [hs] at h;cases h
  | true=>
   rw [hs] at h;cases h;obtain ⟨k,hk⟩:=afu (asD (P:=O.prog) (L:=O.az) EE WH hs);exact sound hO hk
 ·rename_i s e n cs
  cases hw:qg cs with
  | none=>rw [hw] at h;cases h
  | some l=>
   rw [hw] at h;simp only at h
   cases hb:(yq l.length n&&(yy n 4000000000&&(zT l&&yy 9223372036854775808 (qK l)))) with
   | false=>rw [hb] at h;cases h
   | true=>
    rw [hb] at h;simp only [yf] at hb;obtain ⟨h1,h2,h3,h4⟩:=hb;obtain ⟨rfl,a6⟩:=amT cs l hw;have h1:=yj h1;subst h1;have h2:=yp h2;have h4:=yp h4;have h3:=aam h3;rw [PQ] at h4 h;have aG:=kZ a6;have key:=fun (s z:Int) (hz:z.natAbs=bv 18446744073709551616 l) (hs:s=if z<0 then -1 else 1)=>
     aqt hO hN B3 sD EE.code jS iA NB WD ht (s:=s) (z:=z) (e:=e) (l:=l) (.inr ⟨e,l,rfl,a6,h3,hz.symm,hs,by omega⟩) (by omega) h2 (by omega)
    split at h
    ·cases h
     have:=key 1 (bv 18446744073709551616 l:Nat) (by simp) (by rw [yv (by omega)])
     exact this
    ·cases h
     have:=key (-1) (-(bv 18446744073709551616 l:Nat):Int) (by simp) (by rw [yG (by omega)])
     rw [nF (by omega)] at this
     grind
    ·cases h
 ·cases h
end
section
open Go
def G2 (L:Lib) (n:Nat) (sp:List AV->Option AV):Lib:=⟨fun i=>bif yq i n then some sp else L.pure i,L.heap⟩
def O6 {O:a8} (hO:ef O) {n:Nat} {sp:List AV->Option AV} (h:∀ao r,sp ao=some r->dN O n ao r):ef (O.nK (G2 O.az n sp)) where
 hint:=hO.hint
 mixed:=hO.mixed
 prog:=hO.prog
 az i NM ao r hi hs:=by
  show dN O i ao r
  simp only [G2] at hi
  cases hb:yq i n with
  | true=>
   simp_all
  | false=>
   rw [hb] at hi;exact hO.az i NM ao r hi hs
 Dp i NM hp ct ao v ap aX hi hs:=Z7 (hO.Dp i NM hp ct ao v ap aX hi hs)
end
def Gp (n:Nat):10^n<=2^(4*n):=by
 rw [tO];exact wU (by decide) n
def aos {b:Nat} {r:List Nat} (h:cN (b::r)=true):48<=b/\b<=57:=by
 simp only [cN,yf] at h
 simp_all
section
variable {P:aK} {L:Lib}
def afI (h:Tx P L) {ds:List Nat} {N:Nat} (hD:cy ds 0=some N) (hl:ds.length<=4000000000) {neg:Bool} {o1 o2:AV}:
  ∀m st,(∃(pre rest:List Nat) (a:Nat) (s:Int) (w:AV),aQ [0,2,3,4] st=⟨[(0,.str rest),(2,.ptr 0 0),(3,.bool neg),(4,.ptr 1 0)],[(1,.cells true true true 2 [ab s,w]),(0,.cells true true true 2 [o1,o2])],2,0⟩/\ds=pre++rest/\cy pre 0=some a/\cV s w a/\rest.length=m)->
   ∃ex st',D P L (.loop [0,2,3,4] CZ) st=some (ex,st')/\∃tm s w,st'=⟨tm,[(1,.cells true true true 2 [ab s,w]),(0,.cells true true true 2 [o1,o2])],2,0⟩/\ex= .exit 0/\aj tm 2= .ptr 0 0/\aj tm 3= .bool neg/\aj tm 4= .ptr 1 0/\cV s w N:=by
 intro dq sq;generalize bq:aQ [0,2,3,4] sq=s0;revert bq s0 sq dq;apply dh;rintro m st ⟨pre,rest,a,s,w,rfl,Cw,eF,hn,rfl⟩;obtain ⟨l1,u1⟩:=hn.aJ;have li:=hD;rw [Cw,Gb,eF] at li;have li:cy rest a=some N:=li;have hlen:pre.length+rest.length<=4000000000:=by rw [Cw,y5] at hl;exact hl
 by_cases h0:rest.length=0
 ·right
  have hr:rest=[]:=yD h0;subst hr
  have:a=N:=by simpa [cy] using li
  subst this;simp only [go_sem,CZ,yR,show ¬(0:Int)<((0:Nat):Int) by omega];exact ⟨_,_,rfl,by simp,_,s,w,rfl,rfl,by simp only [go_sem,ya],by simp only [go_sem,ya],by simp only [go_sem,ya],hn⟩
 ·left
  obtain ⟨n,q8⟩:∃n,n=min 18 rest.length:=⟨_,rfl⟩;have aho:(if (rest.length:Int)<18 then (rest.length:Int) else 18)=(n:Int):=by split<;>omega
  have iy:rest.take n++rest.drop n=rest:=xR n rest;obtain ⟨a',Cg⟩:∃a',cy (rest.take n) a=some a':=by
   rw [<-iy,Gb] at li
   cases hq:cy (rest.take n) a with
   | none=>rw [hq] at li;cases li
   | some a'=>exact ⟨a',rfl⟩
  obtain ⟨v,hv⟩:∃v,cy (rest.take n) 0=some v:=by
   have:∀(l:List Nat) (x y b:Nat),cy l x=some y->∃z,cy l b=some z:=by
    intro l
    induction l with
    | nil=>intro x y b _;exact ⟨b,rfl⟩
    | cons c l ih=>
     intro x y b hh;simp only [cy] at hh ⊢
     cases hb:(yy 48 c&&yy c 57) with
     | false=>rw [hb] at hh;cases hh
     | true=>rw [hb] at hh;exact ih _ _ _ hh
   exact this _ _ _ 0 Cg
  have aja:=aqr (a:=a) hv;have Ye:(rest.take n).length=n:=by rw [yW];omega
  rw [Ye,Cg,yb] at aja;have WI:=PR hv;rw [Ye] at WI;have aGC:v<1000000000000000000:=yE WI (yT (n:=10) (by decide) (show n<=18 by omega));have e1:=asA (P:=P) h.Wz (f:=D P L) (s:=rest.take n) (by omega) (by omega) hv;obtain ⟨t1,t2⟩:=sB h.toNu (z:=10) (by decide) (by decide);obtain ⟨t3,t4⟩:=sB h.toNu (z:=(v:Int)) (by omega) (by omega);obtain ⟨p,e2,hp⟩:=WB h.toNu h.mR t2 (K:=4) (k:=n) (by unfold Bd;decide) (by omega) (by omega)
  have halt:=PR eF;have ba:Bd (4*pre.length) (a:Int):=yE halt (Gp _);have bp:Bd (4*n+1) ((10:Int)^n):=Bd.pow (k:=4) (by unfold Bd;decide) n
  obtain ⟨q,e3,hq⟩:=qJ h.toNu (v:= .agg [ab s,w]) ⟨s,w,rfl,hn⟩ hp (K:=4*pre.length+4*n+1) (ba.mono (by omega)) (bp.mono (by omega)) (by omega);have bv':Bd (4*n) (v:Int):=yE WI (Gp _);obtain ⟨r,e4,hr⟩:=Im h.toNu hq t4 (K:=4*pre.length+4*n+1) ((ba.mul bp).mono (by omega)) (bv'.mono (by omega)) (by omega);have aH:(a:Int)*10^n+(v:Int)=(a':Int):=by
   rw [aja]
   simp
  rw [aH] at hr;obtain ⟨s2,w2,rfl,h2⟩:=hp;obtain ⟨s3,w3,rfl,h3⟩:=hq;obtain ⟨s4,w4,rfl,h4⟩:=hr;obtain ⟨l2,u2⟩:=h2.aJ;obtain ⟨l3,u3⟩:=h3.aJ;obtain ⟨l4,u4⟩:=h4.aJ;have un:=oW;have c1:gF rest (some 0) (some n)=some (.str (rest.take n)):=by rw [jY (by omega) (by omega),yu]
  have c2:gF rest (some n) (some rest.length)=some (.str (rest.drop n)):=by rw [jY (by omega) (by omega),xH]
  simp only [go_sem,ya,CZ,show (0:Int)<(rest.length:Nat) by omega,afx,aa4,aho,eb,eE,df,c1,c2,e1,cf,t1,t3,b5,u1.an,u2.an,u3.an,un.an,e2,e3,e4,bt,cf,yu,cQ u4];refine ⟨_,(rest.drop n).length,rfl,by rw [xK];omega,pre++rest.take n,rest.drop n,a',s4,w4,by simp only [go_sem,ya,yd,aB],by rw [xx,iy];exact Cw,by rw [Gb,eF];exact Cg,h4,rfl⟩
def aan {b:Nat} {r:List Nat} (h:48<=b):gN [45] (b::r)=false:=by
 show (yq 45 b&&true)=false
 rw [gn (by omega)];rfl
def Ip (h:Tx P L) {z:Int} (hz:(aW z).length<=4000000000):∃r,ai P L 110 [.str (aW z)] r/\ck r z:=by
 have hN:=CN z.natAbs;have un:=oW;have pI:(ax z.natAbs).length<=4000000000:=by
  by_cases h0:z<0
  ·rw [nF h0] at hz;simp at hz;omega
  ·rw [<-mq,yv h0] at hz;simpa using hz
 have ba:Bd (4*(ax z.natAbs).length) (z.natAbs:Int):=yE (PR hN) (Gp _);by_cases h0:z<0
 ·have hs:aW z=45::ax z.natAbs:=nF h0;have e1:bG P L (D P L) 152 [.str (45::ax z.natAbs),.str [45]]=some (.bool true):=by rw [gK h.ai4];rfl
  have e2:bG P L (D P L) 153 [.str (45::ax z.natAbs),.str [45]]=some (.str (ax z.natAbs)):=by rw [gK h.ai5];rfl
  have ij:∃s w r,ai P L 110 [.str (aW z)] r/\cV s w (z.natAbs:Int)/\ai P L 147 [.agg [ab s,w]] r/\ck r (-(z.natAbs:Int)):=by
   rw [hs];unfold ai;rw [aF h.ai6];simp only [go_sem,ya,yd,LB,aY,e1,e2,un.pu,un.one,cQ un];generalize hq:D P L (.loop [0,2,3,4] CZ) _=q;obtain ⟨ex,st,rfl,tm,s,w,rfl,rfl,t2,t3,t4,h5⟩:=b6 hq (afI (P:=P) (L:=L) h hN pI (neg:=true) (o1:= .int .i64 0) (o2:= .ae) (ax z.natAbs).length) ⟨[],ax z.natAbs,0,0,.ae,by simp only [go_sem,ya,yd,aB]<;>rfl,rfl,rfl,.inl ⟨rfl,rfl,by decide,by decide⟩,rfl⟩
   obtain ⟨l5,u5⟩:=h5.aJ;obtain ⟨r,e3,hr⟩:=D2 h.toNu (v:= .agg [ab s,w]) ⟨s,w,rfl,h5⟩ (K:=4*(ax z.natAbs).length) ba (by omega);have bW:=hr;obtain ⟨s6,w6,rfl,h6⟩:=hr;obtain ⟨l6,u6⟩:=h6.aJ;refine ⟨s,w,_,?_,h5,e3,bW⟩;simp only [go_sem,ya,yd,aB,t2,t3,t4,cf,b5,u5.an,e3,bt,dQ,dT,cf,yu,lc u6,cQ u6]
  obtain ⟨s,w,r,g1,_,_,g2⟩:=ij;rw [show -((z.natAbs:Nat):Int)=z by omega] at g2;exact ⟨r,g1,g2⟩
 ·have hs:aW z=ax z.natAbs:=by rw [<-mq,yv h0];rfl
  obtain ⟨b,r0,hb,jP,N4⟩:=F2 z.natAbs;have e1:bG P L (D P L) 152 [.str (ax z.natAbs),.str [45]]=some (.bool false):=by
   rw [gK h.ai4,hb];show some (AV.bool (gN [45] (b::r0)))=_
   rw [aan jP]
  have e2:bG P L (D P L) 153 [.str (ax z.natAbs),.str [45]]=some (.str (ax z.natAbs)):=by
   rw [gK h.ai5,hb];show some (AV.str (bif gN [45] (b::r0) then _ else _))=_
   rw [aan jP];rfl
  have ij:∃s w,ai P L 110 [.str (aW z)] (.agg [ab s,w])/\cV s w (z.natAbs:Int):=by
   rw [hs];unfold ai;rw [aF h.ai6];simp only [go_sem,ya,yd,LB,aY,e1,e2,un.pu,un.one,cQ un];generalize hq:D P L (.loop [0,2,3,4] CZ) _=q;obtain ⟨ex,st,rfl,tm,s,w,rfl,rfl,t2,t3,t4,h5⟩:=b6 hq (afI (P:=P) (L:=L) h hN pI (neg:=false) (o1:= .int .i64 0) (o2:= .ae) (ax z.natAbs).length) ⟨[],ax z.natAbs,0,0,.ae,by simp only [go_sem,ya,yd,aB]<;>rfl,rfl,rfl,.inl ⟨rfl,rfl,by decide,by decide⟩,rfl⟩
   obtain ⟨l5,u5⟩:=h5.aJ;refine ⟨s,w,?_,h5⟩;simp only [go_sem,ya,yd,aB,t2,t3,t4,cf,dQ,dT,cf,yu,lc u5,cQ u5]
  obtain ⟨s,w,g1,g2⟩:=ij;rw [show ((z.natAbs:Nat):Int)=z by omega] at g2;exact ⟨_,g1,s,w,rfl,g2⟩
def F5 (b:Nat) (r:List Nat) (c:Nat):gN [c] (b::r)=yq c b:=by
 show (yq c b&&true)=_
 grind
def Y0:∀(l r:List Nat) (k:Nat),(∀x,x∈l->x≠47)->kV [47] (l++47::r) k=some (k+l.length)
 | [],r,k,_=>by
  show (bif gN [47] (47::r) then some k else _)=_
  rw [F5];rfl
 | b::l,r,k,h=>by
  show (bif gN [47] (b::(l++47::r)) then some k else kV [47] (l++47::r) (k+1))=_
  rw [F5,gn (fun e=>h b (by simp) e.symm),yY,Y0 l r (k+1) (fun x hx=>h x (by simp [hx])),yO]
  grind
def index_none:∀(l:List Nat) (k:Nat),(∀x,x∈l->x≠47)->kV [47] l k=none
 | [],k,_=>rfl
 | b::l,k,h=>by
  show (bif gN [47] (b::l) then some k else kV [47] l (k+1))=_
  rw [F5,gn (fun e=>h b (by simp) e.symm),yY,index_none l (k+1) (fun x hx=>h x (by simp [hx]))]
def abg:∀{l:List Nat},cN l=true->∀x,x∈l->48<=x/\x<=57
 | [],_,x,hx=>by simp at hx
 | b::l,h,x,hx=>by
  have h1:=aos h;simp only [cN,yf] at h;rcases wV.1 hx with rfl | hx
  ·grind
  ·exact abg h.2 x hx
def alo (z:Int):∀x,x∈aW z->x≠47:=fun x hx=>by
 rw [<-mq] at hx;rcases List.mem_append.1 hx with h | h
 ·grind
 ·have:=abg (F1 _) x h;omega
def m62 (h:Tx P L) {a:Rat} (hl:(RT a).length<4000000000):∃r,ai P L 62 [.str (RT a)] r/\dC r a:=by
 have Eg:=alo a.num;unfold RT at hl ⊢;by_cases hd:a.den=1
 ·rw [yG hd,xZ] at hl ⊢;obtain ⟨p,e1,hp⟩:=Ip h (z:=a.num) (by omega);obtain ⟨r,e2,hr⟩:=M8 h.toFr' hp;rw [<-KD a hd] at hr;have bW:=hr;obtain ⟨s1,w1,rfl,h1⟩:=hp;obtain ⟨s2,w2,s3,w3,rfl,h2,h3⟩:=hr;obtain ⟨l1,u1⟩:=h1.aJ;obtain ⟨l2,u2⟩:=h2.aJ;obtain ⟨l3,u3⟩:=h3.aJ;have e0:bG P L (D P L) 109 [.str (aW a.num),.str [47]]=some (.aa [.str (aW a.num),.str [],.bool false]):=by
   rw [gK h.WA];show (bif yK (aW a.num).length 4294967281 then (match kV [47] (aW a.num) 0 with | some i=>_ | none=>some (AV.aa [.str (aW a.num),.str [],.bool false])) else none)=_
   rw [jI (by omega),index_none _ _ Eg];rfl
  refine ⟨_,?_,bW⟩;unfold ai;rw [aF h.Og];simp only [go_sem,ya,yd,Et,aY,e0,e1,bt,u1.an,b5,e2,js u2 u3,dQ,dT,yu,dO,jt u2 u3]
 ·rw [yv hd] at hl ⊢;simp only [y5,yO] at hl;obtain ⟨p,e1,hp⟩:=Ip h (z:=a.num) (by omega);obtain ⟨q,e2,hq⟩:=Ip h (z:=(a.den:Int)) (by rw [kQ];omega);rw [kQ] at e2;obtain ⟨s1,w1,rfl,h1⟩:=hp;obtain ⟨s2,w2,rfl,h2⟩:=hq;obtain ⟨l1,u1⟩:=h1.aJ;obtain ⟨l2,u2⟩:=h2.aJ;have e0:bG P L (D P L) 109 [.str (aW a.num++47::ax a.den),.str [47]]=some (.aa [.str (aW a.num),.str (ax a.den),.bool true]):=by
   rw [gK h.WA];show (bif yK (aW a.num++47::ax a.den).length 4294967281 then (match kV [47] (aW a.num++47::ax a.den) 0 with | some i=>some (AV.aa [.str ((aW a.num++47::ax a.den).take i),.str ((aW a.num++47::ax a.den).drop (i+1)),.bool true]) | none=>_) else none)=_
   rw [jI (by simp;omega),Y0 _ _ _ Eg];simp only [yh,yz,tg];rw [show (aW a.num).length+1=(aW a.num++[47]).length by simp,show aW a.num++47::ax a.den=(aW a.num++[47])++ax a.den by simp,th]
  refine ⟨.agg [ab s1,w1,ab s2,w2],?_,s1,w1,s2,w2,rfl,h1,h2⟩;unfold ai;rw [aF h.Og];simp only [go_sem,ya,yd,Et,aY,e0,e1,e2,bt,u1.one,u2.one,zB,zC,js u1 u2,dQ,dT,yu,dO,jt u1 u2]
end
def dB (p:List Nat):Bool:=cN p&&(match p with | []=>false | b::r=> !(yq b 48)||r.isEmpty)
def fg (p:List Nat):Nat:=(cy p 0).getD 0
def sE (neg:Bool) (t:List Nat):Int:=
 if dB (t.take (bJ t))=false\/(neg=true/\t.take (bJ t)=[48]) then 1
 else if bJ t<t.length/\(dB (t.drop (bJ t+1))=false\/t.drop (bJ t+1)=[48]\/t.drop (bJ t+1)=[49]) then 1
 else if 600<bJ t\/600<t.length-bJ t-1 then 4
 else if bJ t<t.length/\wm (fg (t.take (bJ t))) (fg (t.drop (bJ t+1)))≠1 then 1
 else 0
def kM:List Nat->Int
 | []=>sE false []
 | b::t=>if b=45 then sE true t else sE false (b::t)
def abh:∀{p:List Nat} (a:Nat),cN p=true->∃n,cy p a=some n
 | [],a,_=>⟨a,rfl⟩
 | b::r,a,h=>by
  have h':=h;simp only [cN,yf] at h';obtain ⟨n,hn⟩:=abh (p:=r) (10*a+(b-48)) h'.2;exact ⟨n,by simp only [cy,h'.1.1,h'.1.2,uz,yz];exact hn⟩
def CO:∀(k:Nat) {p:List Nat},p.length=k->dB p=true->ax (fg p)=p:=by
 intro k
 induction k with
 | zero=>intro p hl h;rw [yD hl] at h;simp [dB] at h
 | succ k ih=>
  intro p hl h;rcases snoc p with rfl | ⟨m,a,rfl⟩
  ·grind
  ·simp only [dB,yf,JB] at h;obtain ⟨⟨h1,h2⟩,h3⟩:=h;simp only [cN,yf] at h2;have ha1:=yp h2.1.1;have ha2:=yp h2.1.2;obtain ⟨n,hn⟩:=abh 0 h1;have hv:fg (m++[a])=10*n+(a-48):=by
    unfold fg;rw [Gb,hn];simp only [Option.bind_some,cy,h2.1.1,h2.1.2,uz,yz,Option.getD_some]
   cases m with
   | nil=>
    have:n=0:=by simpa [cy] using hn.symm
    rw [hv,nD (by omega)]
    simp;omega
   | cons b r=>
    have hd:dB (b::r)=true:=by
     simp only [dB,h1,wK]
     cases r with
     | nil=>simp
     | cons c r=>simp at h3 ⊢;exact h3
    have hm:=ih (p:=b::r) (by simpa using hl) hd;have hnv:fg (b::r)=n:=by unfold fg;rw [hn];rfl
    rw [hnv] at hm;have qY:n≠0:=fun e=>by
     rw [nD (by omega)] at hm
     simp_all
    rw [hv,oU (by omega),show (10*n+(a-48))/10=n by omega,show 48+(10*n+(a-48))%10=a by omega,hm]
def YC (t:List Nat):bJ t<t.length->t=t.take (bJ t)++47::t.drop (bJ t+1):=by
 induction t with
 | nil=>simp
 | cons b r ih=>
  intro h;simp only [bJ] at h ⊢
  grind
def aao {n:Int} {d:Nat} (hd:0<d) (hg:wm n.natAbs d=1):∃r:Rat,r.num=n/\r.den=d:=⟨⟨n,d,by omega,hg⟩,rfl,rfl⟩
def awz {s:List Nat} (h:kM s=0):∃r:Rat,s=RT r/\(ax r.num.natAbs).length<=600/\(ax r.den).length<=600:=by
 have key:∀(neg:Bool) (t:List Nat),sE neg t=0->∃r:Rat,(if neg=true then [45] else [])++t=RT r/\(ax r.num.natAbs).length<=600/\(ax r.den).length<=600:=by
  intro neg t h;unfold sE at h
  split at h
  ·grind
  rename_i h1
  split at h
  ·grind
  rename_i h2
  split at h
  ·grind
  rename_i h3
  split at h
  ·grind
  rename_i h4;have hle:=F0 t;have hp:dB (t.take (bJ t))=true:=by
   cases hb:dB (t.take (bJ t)) with
   | true=>rfl
   | false=>exact absurd (.inl hb) h1
  have pT:=CO _ rfl hp;generalize hn:fg (t.take (bJ t))=n at*
  have ayz:neg=true->n≠0:=fun hh e=>by
   subst e;exact h1 (.inr ⟨hh,by rw [<-pT];rfl⟩)
  have hint:(if neg=true then [45] else [])++ax n=aW (if neg=true then -(n:Int) else n):=by
   cases neg with
   | true=>
    have:=ayz rfl
    simp only [xO];rw [nF (by omega)]
    simp
   | false=>simp [kQ]
  have WJ:(if neg=true then -(n:Int) else n).natAbs=n:=by split<;>omega
  have hln:(ax n).length<=600:=by rw [pT,yW];omega
  by_cases hs:bJ t<t.length
  ·have hq:dB (t.drop (bJ t+1))=true:=by
    cases hb:dB (t.drop (bJ t+1)) with
    | true=>rfl
    | false=>exact absurd ⟨hs,.inl hb⟩ h2
   have nv:=CO _ rfl hq;have hg:wm n (fg (t.drop (bJ t+1)))=1:=by
    grind
   have jn:=YC t hs;have EF:(t.drop (bJ t+1)).length<=600:=by rw [xK];omega
   rw [<-nv] at jn EF;have fU:fg (t.drop (bJ t+1))≠0:=fun e=>by
    rw [e] at nv;exact h2 ⟨hs,.inr (.inl (by rw [<-nv];rfl))⟩
   have jy:fg (t.drop (bJ t+1))≠1:=fun e=>by
    rw [e] at nv;exact h2 ⟨hs,.inr (.inr (by rw [<-nv];rfl))⟩
   generalize fg (t.drop (bJ t+1))=d at*
   obtain ⟨r,dK,lE⟩:=aao (n:=if neg=true then -(n:Int) else n) (d:=d) (by omega) (by rw [WJ];exact hg)
   refine ⟨r,?_,by rw [dK,WJ];exact hln,by rw [lE];exact EF⟩
   unfold RT;rw [dK,lE,yv jy,<-hint,xx]
   congr 1
   rw [pT];exact jn
  ·have ht:t.take (bJ t)=t:=yQ (by omega);rw [ht] at pT;obtain ⟨r,dK,lE⟩:=aao (n:=if neg=true then -(n:Int) else n) (d:=1) (by omega) (Nat.gcd_one_right _);refine ⟨r,?_,by rw [dK,WJ];exact hln,by rw [lE];decide⟩
   unfold RT;rw [dK,lE,yG rfl,<-hint,xZ,pT]
 cases s with
 | nil=>exact absurd h (by decide)
 | cons b t=>
  simp only [kM] at h
  split at h
  ·rename_i hb;subst hb;exact key true t h
  ·exact key false (b::t) h
namespace Nd
structure Ord (n:Nat) (l:List Int):Prop where
 len:l.length=n
 ol:∀a,a<n->0<=l.getD a 0/\l.getD a 0<n
 inj:∀a b,a<n->b<n->l.getD a 0=l.getD b 0->a=b
end Nd
namespace Nd
open Go (IntKind)
section
variable {P:aK} {L:Lib}
abbrev ai (P:aK) (L:Lib) (f:Nat) (ao:List AV) (r:AV):Prop:=bG P L (D P L) f ao=some r
def qM (h:Has P L 124 sd) (b:Bool) (n:Int):ai P L 124 [.bool b,ab n] (ab (if b=true then n else 0)):=by
 unfold ai;rw [aF h]
 cases b with
 | true=>simp only [go_sem,ya,sd,xO]
 | false=>simp only [go_sem,ya,sd];rfl
def aAa (h:Has P L 125 LD) {v:AV} {l:List Int} (hv:bn v l) (hl:l.length<=1000000):ai P L 125 [v] (ab (fG l)):=by
 unfold ai;rw [aF h];simp only [go_sem,ya,LD,hv.len];have key:=aa1 (P:=P) (L:=L) (live:=[5,6,7]) (a:=KJ)
  (I:=fun k s=>∃tm ct i,s=⟨tm,[],ct,0⟩/\aj tm 5=v/\aj tm 6=ab l.length/\aj tm 7=ab (i:Nat)/\i+k=l.length/\fG (l.drop i)=fG l)
  (Q:=fun ex s=>∃tm,s=⟨tm,[],0,0⟩/\((ex= .ret/\aj tm 2=ab (fG l))\/(ex= .exit 0/\fG l=0))) ?_ l.length
 ·generalize hq:D P L (.loop [5,6,7] KJ) _=q;obtain ⟨ex,s,rfl,tm,rfl,h2⟩:=b6 hq key ⟨_,_,0,rfl,rfl,rfl,rfl,by omega,rfl⟩;rcases h2 with ⟨rfl,h2⟩ | ⟨rfl,h2⟩
  ·simp only [go_sem,h2]
  ·rw [h2];simp only [go_sem]
 ·rintro k s ⟨tm,ct,i,rfl,h5,h6,h7,hk,hf⟩;rw [alx (by simp only [go_sem,h5,h6,h7,hv.pu])];simp only [go_sem,ya,h5,h6,h7,KJ];by_cases hi:i<l.length
  ·have fB:(i:Int)<l.length:=by omega
   rw [alU hi] at hf;by_cases hz:l[i]=0
   ·left
    simp only [go_sem,ya,fB,hv.cd hi,hz];refine ⟨_,k-1,rfl,by omega,_,_,i+1,rfl,?_⟩;rw [wrap64 (by omega) (by omega)];rw [yG hz] at hf;simp only [go_sem,ya];exact ⟨trivial,trivial,rfl,by omega,hf⟩
   ·right
    simp only [go_sem,ya,fB,hv.cd hi,hz];rw [yv hz] at hf;refine ⟨_,_,rfl,by simp,_,rfl,.inl ⟨rfl,?_⟩⟩;simp only [go_sem,hf]
  ·right
   have fB:¬(i:Int)<l.length:=by omega
   simp only [go_sem,fB];refine ⟨_,_,rfl,by simp,_,rfl,.inr ⟨rfl,?_⟩⟩;rw [<-hf,xk (by omega)];rfl
end
end Nd
def abi (i:Nat):Ds i [48,49,50,51,52,53,54,55,56,57]=(yy 48 i&&yy i 57):=by
 by_cases h:48<=i/\i<=57
 ·obtain ⟨h1,h2⟩:=h;obtain ⟨k,rfl⟩:∃k,i=48+k:=⟨i-48,by omega⟩;rcases (show k=0\/k=1\/k=2\/k=3\/k=4\/k=5\/k=6\/k=7\/k=8\/k=9 by omega) with rfl | rfl | rfl | rfl | rfl | rfl | rfl | rfl | rfl | rfl<;>rfl
 ·have e:(yy 48 i&&yy i 57)=false:=by
   cases h1:yy 48 i with
   | false=>rfl
   | true=>
    cases h2:yy i 57 with
    | false=>rfl
    | true=>exact absurd ⟨yp h1,yp h2⟩ h
  rw [e];have ne:∀c,48<=c->c<=57->yq c i=false:=fun c h1 h2=>gn (by omega)
  simp only [Ds,ne 48 (by decide) (by decide),ne 49 (by decide) (by decide),ne 50 (by decide) (by decide),ne 51 (by decide) (by decide),ne 52 (by decide) (by decide),ne 53 (by decide) (by decide),ne 54 (by decide) (by decide),ne 55 (by decide) (by decide),ne 56 (by decide) (by decide),ne 57 (by decide) (by decide),yY]
def O7:∀l:List Nat,jH [48,49,50,51,52,53,54,55,56,57] l=[]↔cN l=true
 | []=>by simp [jH,cN]
 | b::r=>by
  simp only [jH,cN,abi]
  cases hb:(yy 48 b&&yy b 57) with
  | true=>simp only [yz,wK];exact O7 r
  | false=>simp
def Kk:∀l:List Nat,cN l.reverse=cN l
 | []=>rfl
 | b::r=>by rw [List.reverse_cons,JB,Kk r];simp [cN,Bool.and_comm]
def YG:∀l:List Nat,cN l=false->cN (jH [48,49,50,51,52,53,54,55,56,57] l)=false
 | [],h=>by simp [cN] at h
 | b::r,h=>by
  simp only [jH,abi]
  cases hb:(yy 48 b&&yy b 57) with
  | true=>
   simp only [cN,hb,wK] at h;exact YG r h
  | false=>simp only [yY];exact h
def aqx (p:List Nat):cG (jH [48,49,50,51,52,53,54,55,56,57] (jH [48,49,50,51,52,53,54,55,56,57] p.reverse).reverse) []=cN p:=by
 cases hd:cN p with
 | true=>
  have h1:=(O7 p.reverse).2 (by rw [Kk];exact hd)
  rw [h1];rfl
 | false=>
  have h1:=YG p.reverse (by rw [Kk];exact hd)
  have h2:cN (jH [48,49,50,51,52,53,54,55,56,57] p.reverse).reverse=false:=by rw [Kk];exact h1
  cases hq:jH [48,49,50,51,52,53,54,55,56,57] (jH [48,49,50,51,52,53,54,55,56,57] p.reverse).reverse with
  | nil=>have:=(O7 _).1 hq;rw [h2] at this;exact absurd this (by decide)
  | cons b r=>rfl
def YH:∀(t:List Nat) (k:Nat),kV [47] t k=if bJ t<t.length then some (k+bJ t) else none
 | [],k=>by simp [kV,gN,bJ]
 | b::r,k=>by
  by_cases hb:b=47
  ·subst hb;have e:bJ (47::r)=0:=by simp [bJ]
   rw [e,yG (by simp)];rfl
  ·have e:bJ (b::r)=bJ r+1:=by simp [bJ,hb]
   have hp:gN [47] (b::r)=false:=by rw [F5];exact gn (fun e=>hb e.symm)
   rw [e,kV,hp,yY,YH r (k+1)]
   grind
def Ba (a b:List Nat):binOp .neq (.str a) (.str b)=some (.bool (!(cG a b))):=rfl
structure Ck (P:aK) (L:Lib):Prop extends Tx P L where
 aAb:L.pure 128=some JK
 aAc:L.pure 162=some trimS
 h86:Has P L 86 dl
 lX:Has P L 124 sd
 aAd:Has P L 125 LD
 aAe:Has P L 129 Dt
section
variable {P:aK} {L:Lib}
def qM (h:Has P L 124 sd) (b:Bool) (n:Int):ai P L 124 [.bool b,ab n] (ab (if b=true then n else 0)):=Nd.qM h b n
def ajb (h:Ck P L) {p:List Nat} (hl:p.length<=4000000000):ai P L 129 [.str p] (.bool (dB p)):=by
 have e1:bG P L (D P L) 162 [.str p,.str [48,49,50,51,52,53,54,55,56,57]]=some (.str (jH [48,49,50,51,52,53,54,55,56,57] (jH [48,49,50,51,52,53,54,55,56,57] p.reverse).reverse)):=by
  rw [gK h.aAc];show (bif CY [48,49,50,51,52,53,54,55,56,57]&&(yK p.length 4294967281&&yK 10 4294967281) then _ else none)=_
  rw [jI (by omega)];rfl
 have e2:=aqx p;unfold ai;rw [aF h.aAe]
 match p,e1,e2 with
 | [],_,_=>
  simp only [go_sem,ya,Dt,Ba,show cG [] []=true from rfl,yN];rfl
 | b::r,e1,e2=>
  have hI:lS 0 (.str (b::r))=some (.int .u8 (b:Nat)):=rfl;have h0:cG (b::r) []=false:=rfl;have hd:dB (b::r)=(cN (b::r)&&(!(yq b 48)||r.isEmpty)):=rfl;rw [hd]
  cases ml:cN (b::r) with
  | false=>
   rw [ml] at e2;simp only [go_sem,ya,Dt,Ba,h0,yP,e1,jk,e2,wB]
  | true=>
   rw [ml] at e2;by_cases hb:b=48
   ·subst hb;have e3:cG (48::r) [48]=r.isEmpty:=by
     cases r with
     | nil=>rfl
     | cons c r=>rfl
    have Xn:lS 0 (.str (48::r))=some (.int .u8 48):=rfl;simp only [go_sem,ya,Dt,Ba,h0,yP,e1,jk,e2,Xn,yo,yN,e3];rfl
   ·have:yq b 48=false:=gn hb
    rw [this];simp only [go_sem,ya,Dt,Ba,h0,yP,e1,jk,e2,hI,show ¬((b:Nat):Int)=48 by omega,yr,yP];rfl
def aAf (h:Ck P L) (s:List Nat):bG P L (D P L) 128 [.str s,.str [45]]=some (if s.head? =some 45 then .aa [.str s.tail,.bool true] else .aa [.str s,.bool false]):=by
 rw [gK h.aAb];show some (bif gN [45] s then AV.aa [.str (s.drop 1),.bool true] else .aa [.str s,.bool false])=_
 cases s with
 | nil=>rfl
 | cons b r=>
  by_cases hb:b=45
  ·subst hb;rfl
  ·have:gN [45] (b::r)=false:=by rw [F5];exact gn (fun e=>hb e.symm)
   grind
def aAg (h:Ck P L) {t:List Nat} (hl:t.length<=4000000000):bG P L (D P L) 109 [.str t,.str [47]]=some (.aa [.str (t.take (bJ t)),.str (t.drop (bJ t+1)),.bool (decide (bJ t<t.length))]):=by
 rw [gK h.WA];show (bif yK t.length 4294967281 then (match kV [47] t 0 with | some i=>some (AV.aa [.str (t.take i),.str (t.drop (i+1)),.bool true]) | none=>some (AV.aa [.str t,.str [],.bool false])) else none)=_
 rw [jI (by omega),YH];by_cases hs:bJ t<t.length
 ·grind
 ·rw [yv hs,yM hs,yQ (by omega),xk (by omega)];rfl
def amU {P:aK} {L:Lib} (a b c d:VC) (s:St):D P L (.seq a (.seq b (.seq c d))) s=kj P L (D P L (.seq a (.seq b c)) s) d:=by
 have e:=A4 (P:=P) (L:=L) b c d;rw [jq,jq]
 cases D P L a s with
 | none=>rfl
 | some q=>
  obtain ⟨ex,st⟩:=q
  cases ex with
  | normal=>rw [fp,fp];exact e st
  | ret=>rfl
  | exit id=>rfl
def aot {P:aK} {L:Lib} (a b c d f:VC) (s:St):D P L (.seq a (.seq b (.seq c (.seq d f)))) s=kj P L (D P L (.seq a (.seq b (.seq c d))) s) f:=by
 have e:=amU (P:=P) (L:=L) b c d f;rw [jq,jq]
 cases D P L a s with
 | none=>rfl
 | some q=>
  obtain ⟨ex,st⟩:=q
  cases ex with
  | normal=>rw [fp,fp];exact e st
  | ret=>rfl
  | exit id=>rfl
def KF {a b:List Nat} (h:a=b):cG a b=true:=by
 subst h
 induction a with
 | nil=>rfl
 | cons x a ih=>simp [cG,ih]
def PU {a b:List Nat} (h:a≠b):cG a b=false:=by
 cases hb:cG a b with
 | false=>rfl
 | true=>
  exact absurd (by
   clear h;revert b
   induction a with
   | nil=>intro b hb;cases b with | nil=>rfl | cons y b=>simp [cG] at hb
   | cons x a ih=>
    intro b hb
    cases b with
    | nil=>simp [cG] at hb
    | cons y b=>
     simp only [cG,yf] at hb
     rw [yj hb.1,ih hb.2]) h
def ayA (h:Ck P L) {p q:List Nat} {ok found:Bool} (lp:p.length<=1000000000) (lq:q.length<=1000000000) (iE:ok=true->dB p=true/\(found=true->dB q=true)) {tm:Env} (t5:aj tm 5= .str p) (t6:aj tm 6= .str q) (t7:aj tm 7= .bool found) (t8:aj tm 8= .bool ok):
  cX [.t 2] (D P L (aq (aq (aq (aq (aq dl.body))))) ⟨tm,[],0,0⟩)=some (ab (
   if ok=false then 1
   else if 600<p.length\/600<q.length then 4
   else if found=true/\wm (fg p) (fg q)≠1 then 1
   else 0)):=by
 have w1:=qM h.lX (!ok) 1;have Ok:∀a b:Int,ai P L 125 [.aC true 2 [ab a,ab b]] (ab (fG [a,b])):=fun a b=>Nd.aAa h.aAd (lM true [a,b]) (by simp)
 cases ok with
 | false=>
  have f1:=Ok 1 0;have f2:=Ok 1 4;have w2:=qM h.lX false 4;have w3:=qM h.lX true 4;simp only [yP,xO,yC,xj] at w1 w2 w3;rw [show fG [1,0]=1 by decide] at f1;rw [show fG [1,4]=1 by decide] at f2;unfold ai at w1 w2 w3 f1 f2;by_cases h1:600<p.length
  ·simp only [go_sem,ya,yd,yI,yA,ym,dl,aq,show ¬(1:Int)=0 by decide,yP,t5,t8,yP,w1,show (600:Int)<(p.length:Int) by omega,yo,w3,f2,yr]
   simp
  ·by_cases h2:600<q.length
   ·simp only [go_sem,ya,yd,yI,yA,ym,dl,aq,show ¬(1:Int)=0 by decide,yP,t5,t6,t8,yP,w1,show ¬(600:Int)<(p.length:Int) by omega,show (600:Int)<(q.length:Int) by omega,yo,yr,w3,f2]
    simp
   ·simp only [go_sem,ya,yd,yI,yA,ym,dl,aq,show ¬(1:Int)=0 by decide,yP,t5,t6,t8,yP,w1,show ¬(600:Int)<(p.length:Int) by omega,show ¬(600:Int)<(q.length:Int) by omega,yr,w2,f1]
    simp
 | true=>
  obtain ⟨hp,hq⟩:=iE rfl;have f1:=Ok 0 0;have f2:=Ok 0 4;have w2:=qM h.lX false 4;have w3:=qM h.lX true 4;have w4:=qM h.lX false 1;have w5:=qM h.lX true 1;simp only [yN,xO,yC,xj] at w1 w2 w3 w4 w5;rw [show fG [0,0]=0 by decide] at f1;rw [show fG [0,4]=4 by decide] at f2;unfold ai at w1 w2 w3 w4 w5 f1 f2;rw [yv (by decide)];by_cases h1:600<p.length
  ·rw [yG (.inl h1)];simp only [go_sem,ya,yd,yI,yA,ym,dl,aq,show ¬(4:Int)=0 by decide,yP,t5,t8,yN,w1,show (600:Int)<(p.length:Int) by omega,yo,w3,f2,yr]
  ·by_cases h2:600<q.length
   ·rw [yG (.inr h2)];simp only [go_sem,ya,yd,yI,yA,ym,dl,aq,show ¬(4:Int)=0 by decide,yP,t5,t6,t8,yN,w1,show ¬(600:Int)<(p.length:Int) by omega,show (600:Int)<(q.length:Int) by omega,yo,yr,w3,f2]
   ·rw [yv (by omega)]
    cases found with
    | false=>
     rw [yv (by simp)];simp only [go_sem,ya,yd,yI,yA,ym,dl,aq,t5,t6,t7,t8,yN,w1,show ¬(600:Int)<(p.length:Int) by omega,show ¬(600:Int)<(q.length:Int) by omega,yo,yr,w2,f1]
    | true=>
     have pT:=CO _ rfl hp;have nv:=CO _ rfl (hq rfl);generalize fg p=n at*
     generalize fg q=d at*
     subst pT;subst nv;obtain ⟨M,hM⟩:∃M:Nat,M=2400:=⟨_,rfl⟩;have bd:∀{m:Nat},(ax m).length<=600->Bd M (m:Int):=fun {m} hm=>by
      have h1:=Gn m;have h2:=Gp (ax m).length;have h3:(2:Nat)^(4*(ax m).length)<=2^M:=yT (by decide) (by omega);unfold Bd;rw [xm];exact yE h1 (xb h2 h3)
     obtain ⟨x,e1,hx⟩:=Ip h.toTx (z:=(n:Int)) (by rw [kQ];omega);obtain ⟨y,e2,hy⟩:=Ip h.toTx (z:=(d:Int)) (by rw [kQ];omega);rw [kQ] at e1 e2;have kn:=bd (m:=n) (by omega);have kd:=bd (m:=d) (by omega);obtain ⟨g,e3,hg⟩:=ai2 h.toNu hx hy kn kd (by omega);obtain ⟨e4,W7⟩:=sB h.toNu (z:=1) (by decide) (by decide);have kg:Bd M ((wE (n:Int) (d:Int):Nat):Int):=by
      rcases xe d with h0 | h0
      ·subst h0;simpa using kn
      ·exact kd.le (by have:=Nat.gcd_le_right n h0;simpa using this)
     have e5:=aiY h.toNu hg W7 (K:=M) kg (by unfold Bd;exact wS (by omega)) (by omega)
     have aAh:wE (n:Int) (d:Int)=wm n d:=rfl;rw [aAh] at e5;obtain ⟨xs,xw,rfl,rA⟩:=hx;obtain ⟨ys,yw,rfl,Jn⟩:=hy;obtain ⟨gs,gw,rfl,Yf⟩:=hg;obtain ⟨l1,u1⟩:=rA.aJ;obtain ⟨l2,u2⟩:=Jn.aJ;obtain ⟨l3,u3⟩:=Yf.aJ;by_cases gH:wm n d=1
     ·rw [yv (by simp [gH])];have hs:bL (((wm n d:Nat):Int)-1)=0:=by rw [gH];rfl
      rw [hs] at e5;simp only [go_sem,ya,yd,yI,yA,ym,dl,aq,t5,t6,t7,t8,yN,w1,show ¬(600:Int)<((ax n).length:Int) by omega,show ¬(600:Int)<((ax d).length:Int) by omega,yo,yr,w2,f1,e1,e2,u1.an,u2.an,u3.an,bt,b5,e3,e4,e5]
     ·rw [yG ⟨rfl,gH⟩];obtain ⟨c,hc,jQ⟩:∃c,bL (((wm n d:Nat):Int)-1)=c/\c≠0:=⟨_,rfl,fun e=>gH (by
       unfold bL at e
       split at e
       ·exact absurd e (by decide)
       ·split at e
        ·omega
        ·exact absurd e (by decide))⟩
      rw [hc] at e5;simp only [go_sem,ya,yd,yI,yA,ym,dl,aq,yP,t5,t6,t7,t8,yN,w1,show ¬(600:Int)<((ax n).length:Int) by omega,show ¬(600:Int)<((ax d).length:Int) by omega,yo,yr,w2,f1,e1,e2,u1.an,u2.an,u3.an,bt,b5,e3,e4,e5,jQ,yP,w5]
def m86 (h:Ck P L) {s:List Nat} (hl:s.length<=1000000000):ai P L 86 [.str s] (ab (kM s)):=by
 have key:∀(neg:Bool) (t:List Nat),t.length<=1000000000->bG P L (D P L) 128 [.str s,.str [45]]=some (.aa [.str t,.bool neg])->ai P L 86 [.str s] (ab (sE neg t)):=by
  intro neg t hl e0;have e1:=aAg h (t:=t) (by omega);obtain ⟨k,hk⟩:∃k,k=bJ t:=⟨_,rfl⟩;have Yg:k<=t.length:=by rw [hk];exact F0 t
  have e2:=ajb h (p:=t.take k) (by rw [yW];omega);have e3:=ajb h (p:=t.drop (k+1)) (by rw [xK];omega);have lp:(t.take k).length=k:=by rw [yW];omega
  have lq:(t.drop (k+1)).length=t.length-k-1:=by rw [xK];omega
  unfold sE;rw [<-hk] at e1 ⊢;generalize hp:t.take k=p at*
  generalize hq:t.drop (k+1)=q at*
  obtain ⟨AM,qO⟩:∃ok:Bool,ok=(dB p&&(!neg|| !(cG p [48]))):=⟨_,rfl⟩;obtain ⟨ok,iE⟩:∃ok:Bool,ok=(AM&&(!(decide (k<t.length))||(dB q&&(!(cG q [48])&& !(cG q [49]))))):=⟨_,rfl⟩
  have lB:(if dB p=false\/(neg=true/\p=[48]) then 1
    else if k<t.length/\(dB q=false\/q=[48]\/q=[49]) then 1
    else if 600<k\/600<t.length-k-1 then 4
    else if k<t.length/\wm (fg p) (fg q)≠1 then 1 else 0:Int)=(if ok=false then 1
    else if 600<p.length\/600<q.length then 4
    else if decide (k<t.length)=true/\wm (fg p) (fg q)≠1 then 1
    else 0):=by
   rw [lp,lq];have a1:(dB p=false\/(neg=true/\p=[48]))↔AM=false:=by
    rw [qO];cases dB p<;>cases neg<;>simp
    by_cases e:p=[48]
    ·simp [e,KF]
    ·simp [e,PU e]
   have a2:ok=false↔(AM=false\/(k<t.length/\(dB q=false\/q=[48]\/q=[49]))):=by
    rw [iE];by_cases hs:k<t.length
    ·simp only [hs,yo,yN,uU,tE];cases AM<;>cases dB q<;>simp
     by_cases e:q=[48]
     ·simp [e,KF]
     ·by_cases e':q=[49]
      ·simp [e',KF]
      ·simp [e,e',PU e,PU e']
    ·simp [hs]
   by_cases h1:AM=false
   ·rw [yG (a1.2 h1),yG (a2.2 (.inl h1))]
   ·rw [yv (fun e=>h1 (a1.1 e))];by_cases h2:k<t.length/\(dB q=false\/q=[48]\/q=[49])
    ·rw [yG h2,yG (a2.2 (.inr h2))]
    ·rw [yv h2,yv (fun e=>(a2.1 e).elim h1 h2)];simp only [tY]
  rw [lB];have aAi:ok=true->dB p=true/\(decide (k<t.length)=true->dB q=true):=fun e=>by
   rw [iE,yf] at e;obtain ⟨e1,e2⟩:=e;rw [qO,yf] at e1;refine ⟨e1.1,fun hs=>?_⟩;rw [hs,yN,uU,yf] at e2;exact e2.1
  have tail:∀tm,aj tm 5= .str p->aj tm 6= .str q->aj tm 7= .bool (decide (k<t.length))->aj tm 8= .bool ok->cX [.t 2] (D P L (aq (aq (aq (aq (aq dl.body))))) ⟨tm,[],0,0⟩)=_:=fun tm t5 t6 t7 t8=>
   ayA h (by omega) (by omega) aAi t5 t6 t7 t8
  have mid:∀tm,aj tm 5= .str p->aj tm 6= .str q->aj tm 7= .bool (decide (k<t.length))->aj tm 8= .bool AM->
    ∃bU,D P L (aS (aq (aq (aq (aq dl.body))))) ⟨tm,[],0,0⟩=some (.normal,⟨bU,[],0,0⟩)/\aj bU 5= .str p/\aj bU 6= .str q/\aj bU 7= .bool (decide (k<t.length))/\aj bU 8= .bool ok:=fun tm t5 t6 t7 t8=>by
   unfold ai at e3;by_cases hs:k<t.length
   ·rw [xa hs] at t7 iE ⊢;simp only [yN,uU] at iE
    cases AM with
    | false=>
     rw [wB] at iE;subst iE;refine ⟨_,by simp only [go_sem,ya,dl,aS,aq,t7,t8]<;>rfl,?_⟩
     simp only [go_sem,ya,t5,t6,t7,tE]
    | true=>
     rw [wK] at iE
     cases hd:dB q with
     | false=>
      rw [hd] at e3 iE;rw [wB] at iE;subst iE;refine ⟨_,by simp only [go_sem,ya,dl,aS,aq,t6,t7,t8,e3]<;>rfl,?_⟩
      simp only [go_sem,ya,t5,t6,t7,tE]
     | true=>
      rw [hd] at e3 iE;rw [wK] at iE
      cases iQ:cG q [48] with
      | true=>
       rw [iQ,yN,wB] at iE;subst iE;refine ⟨_,by simp only [go_sem,ya,dl,aS,aq,t6,t7,t8,e3,Ba,iQ,yN]<;>rfl,?_⟩
       simp only [go_sem,ya,t5,t6,t7,tE]
      | false=>
       rw [iQ,yP,wK] at iE;subst iE;refine ⟨_,by simp only [go_sem,ya,dl,aS,aq,t6,t7,t8,e3,Ba,iQ,yP]<;>rfl,?_⟩
       simp only [go_sem,ya,t5,t6,t7,tE]
   ·rw [yM hs] at t7 iE ⊢;simp only [yP,yah,uT] at iE;subst iE;refine ⟨_,by simp only [go_sem,dl,aS,aq,t7]<;>rfl,?_⟩
    simp only [go_sem,ya,t5,t6,t7,t8,tE]
  have fin:∀tm,aj tm 5= .str p->aj tm 6= .str q->aj tm 7= .bool (decide (k<t.length))->aj tm 8= .bool AM->
    D P L (.seq (aS dl.body) (.seq (aS (aq dl.body)) (.seq (aS (aq (aq dl.body))) (aS (aq (aq (aq dl.body))))))) ⟨[(0,.str s)],[],0,0⟩=some (.normal,⟨tm,[],0,0⟩)->ai P L 86 [.str s] _:=fun tm t5 t6 t7 t8 e=>by
   obtain ⟨bU,e',f5,f6,f7,f8⟩:=mid tm t5 t6 t7 t8;unfold ai;rw [aF h.h86];show cX [.t 2] (D P L (.seq (aS dl.body) (.seq (aS (aq dl.body)) (.seq (aS (aq (aq dl.body))) (.seq (aS (aq (aq (aq dl.body)))) (.seq (aS (aq (aq (aq (aq dl.body))))) (aq (aq (aq (aq (aq dl.body)))))))))) ⟨[(0,.str s)],[],0,0⟩)=_
   rw [aot,e,fp,jq,e',fp];exact tail bU f5 f6 f7 f8
  unfold ai at e2
  cases hd:dB p with
  | false=>
   rw [hd] at e2 qO;rw [wB] at qO;subst qO;refine fin _ ?_ ?_ ?_ ?_ (by simp only [go_sem,ya,dl,aS,aq,e0,e1,e2]<;>rfl)<;>simp only [go_sem,ya]
  | true=>
   rw [hd] at e2 qO
   cases neg with
   | false=>
    simp only [yP,yah] at qO;subst qO;refine fin _ ?_ ?_ ?_ ?_ (by simp only [go_sem,ya,dl,aS,aq,e0,e1,e2,yP]<;>rfl)<;>simp only [go_sem,ya]
   | true=>
    simp only [yN,uU] at qO;subst qO;refine fin _ ?_ ?_ ?_ ?_ (by simp only [go_sem,ya,dl,aS,aq,e0,e1,e2,yN,Ba]<;>rfl)<;>simp only [go_sem,ya]
 unfold kM;have e0:=aAf h s
 cases s with
 | nil=>exact key false [] (by simp) e0
 | cons b r=>
  by_cases hb:b=45
  ·subst hb;exact key true r (by simp at hl;omega) e0
  ·simp only [hb,xj];rw [yv (by simpa using hb)] at e0;exact key false (b::r) hl e0
end
def LN (z:Int):Bool:=decide (600<(ax z.natAbs).length)
def LG (r:Rat):Bool:=LN r.num||LN (r.den:Int)
def ZB {m B k:Nat} (hB:B<=3*k) (hk:0<k) (h:m<2^B):(ax m).length<=k:=by
 obtain ⟨j,rfl⟩:∃j,k=j+1:=⟨k-1,by omega⟩;refine oV (yE h (xb (yT (by decide) hB) ?_));rw [tO];exact wU (by decide) _
def PV:∀f n:Nat,dG f n<=f
 | 0,_=>yB _
 | f+1,n=>by
  unfold dG
  cases yq n 0 with
  | true=>exact uN _
  | false=>have:=PV f (n/2);simp only [yY];omega
def awA {P:aK} {L:Lib} {f:cm} (h:L.pure 175=some Gw) {x:Nat} (hx:x<18446744073709551616):bG P L f 175 [uc x]=some (ab (dG 64 x:Nat)):=by
 rw [gK h];show (bif yK x 18446744073709551616 then _ else none)=_
 rw [jI hx];rfl
def asE {V n top low:Nat} (hn:0<n) (h0:0<top) (ht:top<18446744073709551616) (hV:V=low+18446744073709551616^(n-1)*top) (hl:low<18446744073709551616^(n-1)):V<2^(64*(n-1)+dG 64 top):=by
 obtain ⟨l1,l2,l3⟩:=Px h0 ht;have hle:=PV 64 top;have h1:top<2^dG 64 top:=by
  have e:(18446744073709551616:Nat)=2^dG 64 top*2^(64-dG 64 top):=by rw [<-xn,show dG 64 top+(64-dG 64 top)=64 by omega]
  rw [e] at l3;exact Nat.lt_of_mul_lt_mul_right l3
 have h3:=yS (18446744073709551616^(n-1)) (show top+1<=2^dG 64 top from h1);rw [xn,tO]
 grind
section
variable {P:aK} {L:Lib}
def aqy (K:Nat):2^K<=18446744073709551616^(K/64+1):=by
 rw [show (18446744073709551616:Nat)=2^64 from rfl,<-tO];exact yT (by decide) (by omega)
end
section
def ajc (a b:Nat) (h:a<b):2^a<2^b:=wJ (by decide) h
def ajd (a b:Nat) (h:2^a<2^b):a<b:=(uy (by decide)).1 h
def Qo (m a b c:Nat) (h:m<2^a) (hc:a+b=c):m*2^b<2^c:=by
 subst hc;rw [xn];exact xQ h (y9 _)
def asF (a b k:Nat) (h:a<b):a<b*2^k:=yE h (uE _ (y9 _))
def awB (m a b c:Nat) (h:2^a<=m) (hc:c<=a+b):2^c<=m*2^b:=
 xb (yT (by decide) hc) (by rw [xn];exact yU _ h)
open Ieee
def p2 (e:Int):Rat:=(2:Rat)^e
def dU (a b:Int):p2 (a+b)=p2 a*p2 b:=Rat.zpow_add (by decide) a b
def jZ (e:Int):0<p2 e:=Rat.zpow_pos (by decide)
def Lh (e:Int):p2 e≠0:=fun h=>by have:=jZ e;rw [h] at this;exact absurd this (by decide)
def eI (n:Nat):p2 n=((2^n:Nat):Rat):=by
 unfold p2;rw [uF,Rat.natCast_pow];rfl
def awC (n:Nat) (h:n≠0):1<p2 n:=by
 rw [eI n]
 have:((1:Nat):Rat)<((2^n:Nat):Rat):=by rw [Rat.natCast_lt_natCast];exact wS h
 exact this
def lY:p2 0=1:=by have:=eI 0;simpa using this
def oc:p2 1=2:=by have:=eI 1;simpa using this
def Dd (e:Int):p2 (-e)*p2 e=1:=by rw [<-dU,show -e+e=0 by omega,lY]
structure Can (f:Format) (m:Nat) (e:Int):Prop where
 lp:f.leastPlace<=e
 lt:m<2^(f.fractionBits+1)
 ge:2^f.fractionBits<=m\/e=f.leastPlace
def eT (f:Format) (m:Nat) (e:Int):Nat:=(e-f.leastPlace).toNat*2^f.fractionBits+m
def afJ (f:Format):f.infRung<f.signWeight:=by
 have h:0<2^f.exponentBits:=y9 _;have hb:0<2^f.fractionBits:=y9 _;unfold Format.infRung Format.signWeight Format.binade;rw [xn];exact xQ (by omega) hb
def aou {f:Format} {m:Nat} {e:Int} (h:Can f m e) (s:Bool) (hr:eT f m e<f.infRung):f.read (f.word s (eT f m e))= .number s m e:=by
 have fo:=afJ f;have hb:0<2^f.fractionBits:=y9 _;have lp:=h.lp;have lt:=h.lt;have ge:=h.ge;rw [yZ] at lt;have eL:(f.word s (eT f m e)/f.signWeight%2==1)=s:=by
  unfold Format.word
  cases s with
  | true=>rw [yG rfl,Nat.add_div_left _ (by omega),xD (by omega)];rfl
  | false=>rw [yv (by decide),xD (by omega)];rfl
 have kG:f.word s (eT f m e)%f.signWeight=eT f m e:=by
  unfold Format.word
  cases s with
  | true=>rw [yG rfl,ybf,yF (by omega)]
  | false=>rw [yv (by decide),yF (by omega)]
 unfold Format.read;simp only [eL,kG];obtain ⟨d,hd⟩:∃d:Nat,e=f.leastPlace+d:=⟨(e-f.leastPlace).toNat,by omega⟩;have fR:eT f m e=d*2^f.fractionBits+m:=by unfold eT;rw [hd,show (f.leastPlace+(d:Int)-f.leastPlace).toNat=d by omega]
 unfold Format.binade;by_cases c:eT f m e<2^f.fractionBits
 ·rw [yG c];have fU:d=0:=by
   rcases ge with ge | ge
   ·exfalso
    have:=uN (d*2^f.fractionBits)
    omega
   ·omega
  subst fU;rw [wh,yh] at fR;rw [fR,hd,Int.natCast_zero,ybZ]
 ·rw [yv c,yG hr];have hm:2^f.fractionBits<=m:=by
   rcases ge with ge | ge
   ·exact ge
   ·have:d=0:=by omega
    subst this;rw [wh,yh] at fR;omega
  obtain ⟨x,hx⟩:∃x,m=2^f.fractionBits+x:=⟨m-2^f.fractionBits,by omega⟩;have hdiv:eT f m e/2^f.fractionBits=d+1:=by
   rw [fR,hx,<-uf,<-yca,xg,tx hb,xD (by omega)]
  have Ca:eT f m e%2^f.fractionBits=x:=by
   rw [fR,hx,<-uf,<-yca,xg,yat,yF (by omega)]
  rw [hdiv,Ca,hx,hd,show d+1-1=d by omega]
def aap {n d:Nat} {neg:Bool}:Toward.even.cut neg (n*2^d) d=n:=by
 unfold Toward.cut;by_cases h0:n=0
 ·subst h0
  simp
 ·have hl:d<=(n*2^d).log2:=(ycm (vV (wY (by omega) (y9 _)))).2 (uO _ (by omega));have hp:0<2^d:=y9 _;rw [xA (by omega),yaX];simp only [uD,uh _ hp,xp];have h1:decide (2^d<0)=false:=by simp
  have h2:((2^d==0):Bool)=false:=by simpa using vV hp
  simp [h2]
def Ou {n:Nat} (h:n≠0):∀d,(n*2^d).log2=n.log2+d
 | 0=>by simp
 | d+1=>by
  rw [yZ,<-xd,xg (n*2^d) 2,Nat.log2_two_mul (vV (wY (by omega) (y9 _))),Ou h d];omega
def Can.last {f:Format} {m:Nat} {e:Int} (h:Can f m e) (h0:m≠0):max (e+m.log2-f.fractionBits) f.leastPlace=e:=by
 have lp:=h.lp;have h1:m.log2<f.fractionBits+1:=(yaA h0).2 h.lt;rcases h.ge with g | g
 ·have:=(ycm h0).2 g
  omega
 ·omega
def abj {f:Format} {m:Nat} {e:Int} (h:Can f m e) (h0:m≠0) {m0:Nat} {e0:Int} (s:Bool) (hv:(m0:Rat)*p2 e0=(m:Rat)*p2 e):f.nearest s m0 e0=f.word s (min (eT f m e) f.infRung):=by
 have hl:=h.last h0;have lp:=h.lp;by_cases c:e0<=e
 ·obtain ⟨d,hd⟩:∃d:Nat,e=e0+d:=⟨(e-e0).toNat,by omega⟩;have hm:m0=m*2^d:=by
   rw [hd,dU,eI] at hv;have h1:(m0:Rat)=((m*2^d:Nat):Rat):=by
    rw [xv];have h2:p2 e0*p2 (-e0)=1:=by rw [ybm];exact Dd e0
    have h3:(m0:Rat)*p2 e0*p2 (-e0)=(m:Rat)*(p2 e0*((2^d:Nat):Rat))*p2 (-e0):=congrArg (·*p2 (-e0)) hv;rw [xU,h2,we] at h3;rw [h3]
    have:(m:Rat)*(p2 e0*((2^d:Nat):Rat))*p2 (-e0)=(m:Rat)*((2^d:Nat):Rat)*(p2 e0*p2 (-e0)):=by grind
    rw [this,h2,we]
   exact_mod_cast h1
  have pR:m0≠0:=by rw [hm];exact vV (wY (by omega) (y9 _))
  unfold Format.nearest;rw [yv pR];have mF:max (e0+m0.log2-f.fractionBits) f.leastPlace=e:=by
   rw [hm,Ou h0,<-hl];omega
  dsimp only
  rw [mF];rw [show (e0-e).toNat=0 by omega,Nat.shiftLeft_zero,show (e-e0).toNat=d by omega,hm,aap];rfl
 ·obtain ⟨d,hd⟩:∃d:Nat,e0=e+d:=⟨(e0-e).toNat,by omega⟩;have hm:m=m0*2^d:=by
   rw [hd,dU,eI] at hv;have h1:(m:Rat)=((m0*2^d:Nat):Rat):=by
    rw [xv];have h2:p2 e*p2 (-e)=1:=by rw [ybm];exact Dd e
    have h3:(m0:Rat)*(p2 e*((2^d:Nat):Rat))*p2 (-e)=(m:Rat)*p2 e*p2 (-e):=congrArg (·*p2 (-e)) hv;have h4:(m:Rat)*p2 e*p2 (-e)=m:=by rw [xU,h2,we]
    rw [h4] at h3;rw [<-h3]
    have:(m0:Rat)*(p2 e*((2^d:Nat):Rat))*p2 (-e)=(m0:Rat)*((2^d:Nat):Rat)*(p2 e*p2 (-e)):=by grind
    rw [this,h2,we]
   exact_mod_cast h1
  have pR:m0≠0:=fun q=>by rw [q,wh] at hm;exact h0 hm
  unfold Format.nearest;rw [yv pR];have mF:max (e0+m0.log2-f.fractionBits) f.leastPlace=e:=by
   rw [hm,Ou pR] at hl;rw [<-hl];omega
  dsimp only
  rw [mF];rw [show (e0-e).toNat=d by omega,show (e-e0).toNat=0 by omega,ue,<-hm]
  have:=aap (n:=m) (d:=0) (neg:=s)
  rw [vL,ym] at this;rw [this];rfl
end
section
open Ieee
structure lI (f:Format) (b:Nat) (s:Bool) (m:Nat) (e:Int):Prop where
 can:Can f m e
 lt:eT f m e<f.infRung
 eq:b=f.word s (eT f m e)
def lI.read {f:Format} {b:Nat} {s:Bool} {m:Nat} {e:Int} (h:lI f b s m e):f.read b= .number s m e:=by
 rw [h.eq];exact aou h.can s h.lt
def sg (s:Bool):Rat:=if s then -1 else 1
def fv (s:Bool) (m:Nat) (e:Int):Rat:=sg s*((m:Rat)*p2 e)
def aez {f:Format} {m:Nat} {e:Int} (h:Can f m e) (he:(e-f.leastPlace).toNat+2<=2^f.exponentBits-1):eT f m e<f.infRung:=by
 have aG:=h.lt;rw [yZ] at aG;unfold eT Format.infRung Format.binade
 have:=yU (2^f.fractionBits) he
 rw [xS] at this;omega
def awD {f:Format} {n:Nat} {k:Int} (h0:n≠0) (hn:n<2^(f.fractionBits+1)) (hk:f.leastPlace<=k):∃m e,Can f m e/\m≠0/\e<=k/\(m:Rat)*p2 e=(n:Rat)*p2 k:=by
 have hl:=(yaA h0).2 hn;obtain ⟨j,hj⟩:∃j:Nat,j=min (f.fractionBits-n.log2) (k-f.leastPlace).toNat:=⟨_,rfl⟩;have h1:2^n.log2<=n:=Nat.log2_self_le h0;have h2:n<2^(n.log2+1):=ybg;refine ⟨n*2^j,k-j,⟨by omega,?_,?_⟩,vV (wY (by omega) (y9 _)),by omega,?_⟩
 ·have:n*2^j<2^(n.log2+1)*2^j:=xQ h2 (y9 _)
  rw [<-xn] at this;exact yE this (yT (by decide) (by omega))
 ·by_cases c:f.fractionBits-n.log2<=(k-f.leastPlace).toNat
  ·left
   have:=yU (2^j) h1
   rw [<-xn,show n.log2+j=f.fractionBits by omega] at this;exact this
  ·right;omega
 ·rw [xv,<-eI,xU,<-dU,show (j:Int)+(k-j)=k by omega]
def wr {f:Format} {n:Nat} {k:Int} (h0:n≠0) (hn:n<2^(f.fractionBits+1)) (hk:f.leastPlace<=k) (gU:(k-f.leastPlace).toNat+2<=2^f.exponentBits-1) {m0:Nat} {e0:Int} (s:Bool) (hv:(m0:Rat)*p2 e0=(n:Rat)*p2 k):∃m e,lI f (f.write (.number s m0 e0)) s m e/\m≠0/\(m:Rat)*p2 e=(n:Rat)*p2 k:=by
 obtain ⟨m,e,hc,hm,he,hq⟩:=awD h0 hn hk;have hr:=aez hc (by have:=hc.lp;omega);refine ⟨m,e,⟨hc,hr,?_⟩,hm,hq⟩;show f.nearest s m0 e0=_
 rw [abj hc hm s (hv.trans hq.symm),xA (by omega)]
def agZ (f:Format):Can f 0 f.leastPlace:=⟨ycn _,y9 _,.inr rfl⟩
def wr0 {f:Format} (s:Bool) (e0:Int) (hi:0<f.infRung):lI f (f.write (.number s 0 e0)) s 0 f.leastPlace:=by
 have hr:eT f 0 f.leastPlace=0:=by unfold eT;rw [ycb];simp
 refine ⟨agZ f,by rw [hr];exact hi,?_⟩
 rw [hr];show f.nearest s 0 e0=_
 unfold Format.nearest;rw [yG rfl]
def awE {f:Format} {b:Nat} (hb:b<2*f.signWeight) (pK:f.binade<=f.infRung):(∃s m e,lI f b s m e)\/(∀s m e,f.read b≠.number s m e):=by
 have fo:=afJ f;have hp:0<2^f.fractionBits:=y9 _;obtain ⟨s,r,hr,rfl⟩:∃(s:Bool) (r:Nat),r<f.signWeight/\b=f.word s r:=by
  by_cases c:b<f.signWeight
  ·exact ⟨false,b,c,by unfold Format.word;rw [yv (by decide)]⟩
  ·exact ⟨true,b-f.signWeight,by omega,by unfold Format.word;rw [yG rfl];omega⟩
 by_cases c:r<f.infRung
 ·left
  by_cases c1:r<2^f.fractionBits
  ·have e:eT f r f.leastPlace=r:=by unfold eT;rw [ycb];simp
   exact ⟨s,r,f.leastPlace,⟨ycn _,by rw [yZ];omega,.inr rfl⟩,by rw [e];exact c,by rw [e]⟩
  ·obtain ⟨d,hd⟩:∃d,r/2^f.fractionBits=d+1:=⟨r/2^f.fractionBits-1,by have:=yco (ybc c1) hp;omega⟩;have hm:=xu r hp;have hq:=xF r (2^f.fractionBits);rw [hd,xr,ym,xg] at hq;have e:eT f (2^f.fractionBits+r%2^f.fractionBits) (f.leastPlace+d)=r:=by
    unfold eT;rw [show (f.leastPlace+(d:Int)-f.leastPlace).toNat=d by omega];omega
   exact ⟨s,2^f.fractionBits+r%2^f.fractionBits,f.leastPlace+d,⟨by omega,by rw [yZ];omega,.inl (by omega)⟩,by rw [e];exact c,by rw [e]⟩
 ·right
  intro s' m e h;unfold Format.read at h;have kG:f.word s r%f.signWeight=r:=by
   unfold Format.word
   cases s with
   | true=>rw [yG rfl,ybf,yF hr]
   | false=>rw [yv (by decide),yF hr]
  simp only [kG] at h;rw [yv (by omega),yv c] at h
  split at h<;>cases h
end
section
open Ieee
abbrev lJ (b:Nat) (s:Bool) (m:Nat) (e:Int):Prop:=lI single b s m e
def FJ:single.leastPlace= -149:=by decide
def lJ.b {b m:Nat} {s:Bool} {e:Int} (h:lJ b s m e): -149<=e/\m<16777216/\(8388608<=m\/e= -149)/\e<=104:=by
 have h1:=h.can.lp;have h2:=h.can.lt;have h3:=h.can.ge;have h4:=h.lt;rw [FJ] at h1 h3;have h4:(e-single.leastPlace).toNat*8388608+m<2139095040:=h4;rw [FJ] at h4;have h2:m<16777216:=h2;have h3:8388608<=m\/e= -149:=h3;exact ⟨h1,h2,h3,by omega⟩
def zb {n:Nat} {k:Int} (h0:n≠0) (hn:n<16777216) (hk: -149<=k) (gU:k<=104) {m0:Nat} {e0:Int} (s:Bool) (hv:(m0:Rat)*p2 e0=(n:Rat)*p2 k):∃m e,lJ (single.write (.number s m0 e0)) s m e/\m≠0/\(m:Rat)*p2 e=(n:Rat)*p2 k:=
 wr (f:=single) h0 hn (by rw [FJ];exact hk) (by rw [FJ];show _<=255;omega) s hv
def Nc (s:Bool) (e0:Int):lJ (single.write (.number s 0 e0)) s 0 (-149):=by
 have:=wr0 (f:=single) s e0 (by decide)
 rwa [FJ] at this
def ag0:single.read 1073741824= .number false 8388608 (-22):=by decide
def WK {b m:Nat} {s:Bool} {e:Int} (h:lJ b s m e) (he:e<=103\/m=0):∃b' m' e',single.mul b 1073741824=some b'/\lJ b' s m' e'/\(m':Rat)*p2 e'=2*((m:Rat)*p2 e):=by
 obtain ⟨b1,b2,b3,b4⟩:=h.b;have hr:=h.read;unfold Format.mul;rw [hr,ag0];show ∃b' m' e',some (single.write (.number (s^^false) (m*8388608) (e+ -22)))=some b'/\_
 rw [ybn];by_cases h0:m=0
 ·subst h0;rw [wh];exact ⟨_,_,_,rfl,Nc s _,by simp⟩
 ·obtain ⟨m',e',k1,k2,k3⟩:=zb (n:=m) (k:=e+1) h0 b2 (by omega) (by omega) (m0:=m*8388608) (e0:=e+ -22) s (by
   have:((8388608:Nat):Rat)=p2 23:=(eI 23).symm
   rw [xv,this,xU,<-dU,show (23:Int)+(e+ -22)=e+1 by omega])
  exact ⟨_,m',e',rfl,k1,by rw [k3,dU,oc];grind⟩
def WL {b m:Nat} {s:Bool} {e:Int} (h:lJ b s m e) (he: -148<=e\/m%2=0):∃b' m' e',single.div b 1073741824=some b'/\lJ b' s m' e'/\2*((m':Rat)*p2 e')=(m:Rat)*p2 e:=by
 obtain ⟨b1,b2,b3,b4⟩:=h.b;have hr:=h.read;unfold Format.div;rw [hr,ag0];have hl:(8388608:Nat).log2=23:=by decide
 have e0:Datum.quotient (single.fractionBits+2) (.number s m e) (.number false 8388608 (-22))=some (.number (s^^false) (2*((m<<<(25+23-m.log2))/8388608)+((m<<<(25+23-m.log2))%8388608 !=0).toNat) (e - -22-(25+23-m.log2:Nat)-1)):=by
  show (if (8388608:Nat)=0 then (if m=0 then none else some (Datum.infinity (s^^false))) else some (Datum.number (s^^false) (2*((m<<<(25+ybA 8388608-m.log2))/8388608)+((m<<<(25+ybA 8388608-m.log2))%8388608 !=0).toNat) (e - -22-((25+ybA 8388608-m.log2:Nat):Int)-1)))=_
  rw [yv (by decide),hl]
 rw [e0,ybn];show ∃b' m' e',some (single.write (.number s _ _))=some b'/\_
 by_cases h0:m=0
 ·subst h0;simp only [Nat.zero_shiftLeft,Nat.zero_div,Nat.zero_mod,xp];exact ⟨_,_,_,rfl,Nc s _,by simp⟩
 ·have Ap:m.log2<24:=(yaA h0).2 b2;obtain ⟨t,ht⟩:∃t,25+23-m.log2=t+23:=⟨25-m.log2,by omega⟩;have iC:m<<<(t+23)=(m*2^t)*8388608:=by rw [ue,xn,<-xd]
  rw [ht,iC,uh _ (by decide),uD];simp only [bne_self_eq_false,yaY,yV];have aH:((2*(m*2^t):Nat):Rat)*p2 (e - -22-(t+23:Nat)-1)=(m:Rat)*p2 (e-1):=by
   have:((2:Nat):Rat)=p2 1:=(eI 1).symm
   rw [xv,xv,<-eI,this];have h2:p2 1*((m:Rat)*p2 t)*p2 (e - -22-(t+23:Nat)-1)=(m:Rat)*(p2 1*p2 t*p2 (e - -22-(t+23:Nat)-1)):=by grind
   rw [h2,<-dU,<-dU,show (1:Int)+t+(e - -22-(t+23:Nat)-1)=e-1 by omega]
  have fin:∀{m':Nat} {e':Int},(m':Rat)*p2 e'=(m:Rat)*p2 (e-1)->2*((m':Rat)*p2 e')=(m:Rat)*p2 e:=fun {m' e'} q=>by
   rw [q]
   have:p2 e=p2 1*p2 (e-1):=by rw [<-dU,show 1+(e-1)=e by omega]
   rw [this,oc];grind
  by_cases c: -148<=e
  ·obtain ⟨m',e',k1,k2,k3⟩:=zb (n:=m) (k:=e-1) h0 b2 (by omega) (by omega) s aH;exact ⟨_,m',e',rfl,k1,fin k3⟩
  ·have IT:m%2=0:=by omega
   have hm:((m:Nat):Rat)=((m/2:Nat):Rat)*2:=by
    have:m=m/2*2:=by omega
    conv=>lhs;rw [this,xv]
    rfl
   have hq:(m:Rat)*p2 (e-1)=((m/2:Nat):Rat)*p2 e:=by
    have:p2 e=p2 1*p2 (e-1):=by rw [<-dU,show 1+(e-1)=e by omega]
    rw [hm,this,oc];grind
   obtain ⟨m',e',k1,k2,k3⟩:=zb (n:=m/2) (k:=e) (by omega) (by omega) (by omega) (by omega) s (aH.trans hq);exact ⟨_,m',e',rfl,k1,fin (k3.trans hq.symm)⟩
def ofInt {n:Int} (h:n.natAbs<=16777216):∃m e,lJ (single.write (.number (n<0) n.natAbs 0)) (n<0) m e/\(m:Rat)*p2 e=(n.natAbs:Rat):=by
 by_cases h0:n.natAbs=0
 ·rw [h0];exact ⟨0,-149,Nc _ _,by simp⟩
 ·by_cases h1:n.natAbs<16777216
  ·obtain ⟨m,e,k1,k2,k3⟩:=zb (n:=n.natAbs) (k:=0) h0 h1 (by omega) (by omega) (m0:=n.natAbs) (e0:=0) (n<0) rfl;exact ⟨m,e,k1,by rw [k3,lY,we]⟩
  ·have h2:n.natAbs=16777216:=by omega
   obtain ⟨m,e,k1,k2,k3⟩:=zb (n:=8388608) (k:=1) (by decide) (by decide) (by omega) (by omega) (m0:=n.natAbs) (e0:=0) (n<0) (by rw [h2,lY,oc];decide+kernel)
   exact ⟨m,e,k1,by rw [k3,h2,oc];decide+kernel⟩
def aqz (n d:Nat) (s:Bool):Toward.zero.cut s n d=n/2^d:=by
 unfold Toward.cut;simp only [yaX,yaY,yV];by_cases c:d<=n.log2+2
 ·rw [xA c]
 ·have h1:n<2^(n.log2+1):=ybg;rw [Nat.min_eq_right (by omega),xD (vc h1 (wJ (by decide) (by omega))),xD (vc h1 (wJ (by decide) (by omega)))]
def lJ.toInt {b m:Nat} {s:Bool} {e:Int} (h:lJ b s m e):(single.read b).toInt .zero=some (if s=true then -((m*2^e.toNat/2^(-e).toNat:Nat):Int) else ((m*2^e.toNat/2^(-e).toNat:Nat):Int)):=by
 rw [h.read];unfold Datum.toInt Datum.integral;simp only [aqz,ue,signed,vL,ym]
def KG {m:Nat} {s:Bool} {e base:Int} (h:base<=e):((signed s m (e-base).toNat:Int):Rat)*p2 base=fv s m e:=by
 have:p2 e=p2 ((e-base).toNat:Nat)*p2 base:=by rw [<-dU,show ((e-base).toNat:Int)+base=e by omega]
 unfold signed fv sg;rw [this,ue,eI]
 cases s with
 | true=>
  rw [yG rfl,yG rfl,uX]
  have:(((m*2^(e-base).toNat:Nat):Int):Rat)=(m:Rat)*((2^(e-base).toNat:Nat):Rat):=by rw [<-xv];rfl
  rw [this];grind
 | false=>
  rw [yv (by decide),yv (by decide)]
  have:(((m*2^(e-base).toNat:Nat):Int):Rat)=(m:Rat)*((2^(e-base).toNat:Nat):Rat):=by rw [<-xv];rfl
  rw [this];grind
def asG {x y m n:Nat} {s t:Bool} {e j:Int} (hx:lJ x s m e) (hy:lJ y t n j):single.order x y=some (if fv s m e<fv t n j then .lt else if fv s m e=fv t n j then .eq else .gt):=by
 unfold Format.order;rw [hx.read,hy.read];unfold Datum.order;have h1:=KG (m:=m) (s:=s) (show min e j<=e by omega);have h2:=KG (m:=n) (s:=t) (show min e j<=j by omega);have hp:=jZ (min e j)
 dsimp only
 generalize signed s m (e-min e j).toNat=a at*
 generalize signed t n (j-min e j).toNat=b at*
 rw [<-h1,<-h2]
 congr 1
 have lt_iff:(a:Rat)*p2 (min e j)<(b:Rat)*p2 (min e j)↔a<b:=by
  constructor
  ·intro q
   have:=(wg hp).1 q
   exact_mod_cast this
  ·intro q;exact (wg hp).2 (by exact_mod_cast q)
 have eq_iff:(a:Rat)*p2 (min e j)=(b:Rat)*p2 (min e j)↔a=b:=by
  constructor
  ·intro q;rcases vU a b with c | c | c
   ·have:=lt_iff.2 c;rw [q] at this;exact absurd this (ui)
   ·exact c
   ·have:=(wg hp).2 (show (b:Rat)<a by exact_mod_cast c);rw [q] at this;exact absurd this (ui)
  ·intro q;rw [q]
 rcases vU a b with c | c | c
 ·rw [yG (lt_iff.2 c)];exact Int.compare_eq_lt.2 c
 ·rw [yv (fun q=>by have:=lt_iff.1 q;omega),yG (eq_iff.2 c)];exact Int.compare_eq_eq.2 c
 ·rw [yv (fun q=>by have:=lt_iff.1 q;omega),yv (fun q=>by have:=eq_iff.1 q;omega)];exact Int.compare_eq_gt.2 c
end
section
open Ieee
def cz (m:Nat) (e:Int):Nat:=m*2^(e+149).toNat
structure Fl (b:Nat) (s:Bool) (M:Nat):Prop where
 ex:∃m e,lJ b s m e/\M=cz m e
def oZ {m:Nat} {e:Int} (h: -149<=e):((cz m e:Nat):Rat)=(m:Rat)*p2 e*p2 149:=by
 unfold cz;rw [xv,<-eI,xU,<-dU,show ((e+149).toNat:Int)=e+149 by omega]
def awF:p2 149≠0:=Lh 149
def PW {m n:Nat} {e j:Int} (h1: -149<=e) (h2: -149<=j) (h:(m:Rat)*p2 e=(n:Rat)*p2 j):cz m e=cz n j:=by
 have:((cz m e:Nat):Rat)=((cz n j:Nat):Rat):=by rw [oZ h1,oZ h2,h]
 exact_mod_cast this
def Fl.lt {b:Nat} {s:Bool} {M:Nat} (h:Fl b s M):M<2^277:=by
 obtain ⟨m,e,h1,rfl⟩:=h.ex;obtain ⟨b1,b2,b3,b4⟩:=h1.b;unfold cz;have h3:2^(e+149).toNat<=2^253:=yT (by decide) (by omega);have h4:=wa (vn (show m<16777215+1 from b2)) h3;exact xB h4 (Qo 16777215 24 253 277 (by decide) rfl)
def Fl.WK {b:Nat} {s:Bool} {M:Nat} (h:Fl b s M) (hM:M<2^276):∃b',single.mul b 1073741824=some b'/\Fl b' s (2*M):=by
 obtain ⟨m,e,h1,rfl⟩:=h.ex;obtain ⟨b1,b2,b3,b4⟩:=h1.b;have he:e<=103\/m=0:=by
  by_cases c:e<=103
  ·exact .inl c
  ·exfalso
   have hm:8388608<=m:=by omega
   unfold cz at hM;have h3:2^253<=2^(e+149).toNat:=yT (by decide) (by omega);have h4:=wa hm h3;have h5:(2:Nat)^275<=8388608*2^253:=awB 8388608 23 253 275 (by decide) (by decide);omega
 obtain ⟨b',m',e',k1,k2,k3⟩:=VE.WK h1 he;have Yh:=k2.b.1;refine ⟨b',k1,m',e',k2,?_⟩
 have:((2*cz m e:Nat):Rat)=((cz m' e':Nat):Rat):=by
  rw [xv,oZ b1,oZ Yh,k3];show (2:Rat)*_=_
  grind
 exact_mod_cast this
def Fl.WL {b:Nat} {s:Bool} {M:Nat} (h:Fl b s M) (hM:M%2=0):∃b',single.div b 1073741824=some b'/\Fl b' s (M/2):=by
 obtain ⟨m,e,h1,rfl⟩:=h.ex;obtain ⟨b1,b2,b3,b4⟩:=h1.b;have he: -148<=e\/m%2=0:=by
  by_cases c: -148<=e
  ·exact .inl c
  ·have:e= -149:=by omega
   subst this;unfold cz at hM;right
   simpa using hM
 obtain ⟨b',m',e',k1,k2,k3⟩:=VE.WL h1 he;have Yh:=k2.b.1;refine ⟨b',k1,m',e',k2,?_⟩
 have:((cz m e:Nat):Rat)=((2*cz m' e':Nat):Rat):=by
  rw [xv,oZ b1,oZ Yh,<-k3];show _=(2:Rat)*_
  grind
 have:cz m e=2*cz m' e':=by exact_mod_cast this
 omega
def bc (s:Bool) (M:Nat):Int:=if s then -(M:Int) else M
def ag1 {s:Bool} {m:Nat} {e:Int} (h: -149<=e):fv s m e*p2 149=((bc s (cz m e):Int):Rat):=by
 unfold fv sg bc
 cases s with
 | true=>
  rw [yG rfl,yG rfl,uX]
  have:=oZ (m:=m) h
  have h2:(((cz m e:Nat):Int):Rat)=((cz m e:Nat):Rat):=rfl;rw [h2,this];grind
 | false=>
  rw [yv (by decide),yv (by decide)]
  have:=oZ (m:=m) h
  have h2:(((cz m e:Nat):Int):Rat)=((cz m e:Nat):Rat):=rfl;rw [h2,this];grind
def Fl.ord {x y:Nat} {s t:Bool} {M N:Nat} (hx:Fl x s M) (hy:Fl y t N):single.order x y=some (if bc s M<bc t N then .lt else if bc s M=bc t N then .eq else .gt):=by
 obtain ⟨m,e,h1,rfl⟩:=hx.ex;obtain ⟨n,j,h2,rfl⟩:=hy.ex;rw [asG h1 h2];have q1:=ag1 (s:=s) (m:=m) h1.b.1;have q2:=ag1 (s:=t) (m:=n) h2.b.1;have hp:=jZ 149;have lt_iff:fv s m e<fv t n j↔bc s (cz m e)<bc t (cz n j):=by
  rw [<-wg hp,q1,q2];exact Rat.intCast_lt_intCast
 have eq_iff:fv s m e=fv t n j↔bc s (cz m e)=bc t (cz n j):=by
  constructor
  ·intro q;rw [q,q2] at q1;exact (Rat.intCast_inj.1 q1).symm
  ·intro q
   have:fv s m e*p2 149=fv t n j*p2 149:=by rw [q1,q2,q]
   have h3:=congrArg (·*(p2 149)⁻¹) this;simpa only [xU,Rat.mul_inv_cancel _ awF,we] using h3
 congr 1
 by_cases c1:bc s (cz m e)<bc t (cz n j)
 ·rw [yG c1,yG (lt_iff.2 c1)]
 ·rw [yv c1,yv (fun q=>c1 (lt_iff.1 q))];by_cases c2:bc s (cz m e)=bc t (cz n j)
  ·rw [yG c2,yG (eq_iff.2 c2)]
  ·rw [yv c2,yv (fun q=>c2 (eq_iff.1 q))]
def Fl.ofInt {n:Int} (h:n.natAbs<=16777216):Fl (single.write (.number (n<0) n.natAbs 0)) (n<0) (n.natAbs*2^149):=by
 obtain ⟨m,e,k1,k2⟩:=VE.ofInt h;refine ⟨m,e,k1,?_⟩;have b1:=k1.b.1
 have:((n.natAbs*2^149:Nat):Rat)=((cz m e:Nat):Rat):=by
  rw [oZ b1,k2,xv,<-eI];rfl
 exact_mod_cast this
def Fl.toInt {b:Nat} {s:Bool} {M:Nat} (h:Fl b s M):(single.read b).toInt .zero=some (bc s (M/2^149)):=by
 obtain ⟨m,e,h1,rfl⟩:=h.ex;have b1:=h1.b.1;rw [h1.toInt]
 have:m*2^e.toNat/2^(-e).toNat=cz m e/2^149:=by
  unfold cz;by_cases c:0<=e
  ·rw [show (-e).toNat=0 by omega,vL,Nat.div_one,show (e+149).toNat=e.toNat+149 by omega,xn,<-xd,uh _ (y9 _)]
  ·obtain ⟨d,hd⟩:∃d:Nat,e= -(d:Int):=⟨(-e).toNat,by omega⟩;have fK:(e+149).toNat+d=149:=by omega
   rw [show e.toNat=0 by omega,vL,ym,show (-e).toNat=d by omega];have hp:0<2^(e+149).toNat:=y9 _;rw [<-fK,xn,xg m,Nat.mul_div_mul_left _ _ hp]
 rw [this];unfold bc;cases s<;>rfl
def Fl.zero:Fl 0 false 0:=⟨0,-149,⟨by rw [<-FJ];exact agZ single,by decide,by decide⟩,by decide⟩
def Fl.neg {b:Nat} {s:Bool} {M:Nat} (h:Fl b s M):Fl (b^^^2147483648) (!s) M:=by
 obtain ⟨m,e,h1,rfl⟩:=h.ex;refine ⟨m,e,⟨h1.can,h1.lt,?_⟩,rfl⟩;have hr:eT single m e<2^31:=vc h1.lt (by decide);have sw:single.signWeight=2^31:=by decide
 rw [h1.eq];unfold Format.word;rw [sw];have hx:eT single m e^^^2147483648=2^31+eT single m e:=by
  rw [show (2147483648:Nat)=2^31*1 by decide,Nat.xor_comm]
  have:=Nat.two_pow_add_eq_or_of_lt hr 1
  have h2:=Nat.xor_mod_two_pow (a:=eT single m e) (b:=2^31*1) (n:=31);refine Nat.eq_of_testBit_eq fun i=>?_
  rw [Nat.testBit_xor,show 2^31+eT single m e=2^31*1+eT single m e by omega,Nat.testBit_two_pow_mul_add _ hr,Nat.testBit_two_pow_mul];by_cases c:i<31
  ·simp [c,show ¬31<=i by omega]
  ·have:Nat.testBit (eT single m e) i=false:=Nat.testBit_lt_two_pow (yE hr (yT (by decide) (by omega)))
   simp [c,this,show 31<=i by omega]
 cases s with
 | false=>rw [yv (by decide),hx];rfl
 | true=>
  rw [yG rfl]
  have:(2^31+eT single m e)^^^2147483648=eT single m e:=by rw [<-hx,Nat.xor_assoc,Nat.xor_self,Nat.xor_zero]
  rw [this];rfl
end
section
open Go (IntKind)
open Ieee
def Fl.even {b:Nat} {s:Bool} {M:Nat} (h:Fl b s M) (hM:2^173<=M):M%2=0:=by
 obtain ⟨m,e,h1,rfl⟩:=h.ex;obtain ⟨b1,b2,b3,b4⟩:=h1.b;by_cases c:e<=0
 ·exfalso
  unfold cz at hM;have h3:2^(e+149).toNat<=2^149:=yT (by decide) (by omega);have h4:=wa (vn (show m<16777215+1 from b2)) h3;have h5:16777215*(2:Nat)^149<2^173:=by decide
  omega
 ·obtain ⟨d,hd⟩:∃d,(e+149).toNat=d+1:=⟨(e+148).toNat,by omega⟩;unfold cz;rw [hd,yZ,<-xd,uD]
def Fl.whole {b:Nat} {s:Bool} {M:Nat} (h:Fl b s M) (hM:2^172<=M):M%2^149=0:=by
 obtain ⟨m,e,h1,rfl⟩:=h.ex;obtain ⟨b1,b2,b3,b4⟩:=h1.b;by_cases c:e<0
 ·exfalso
  unfold cz at hM;have h3:2^(e+149).toNat<=2^148:=yT (by decide) (by omega);have h4:=wa (vn (show m<16777215+1 from b2)) h3;have h5:16777215*(2:Nat)^148<2^172:=by decide
  omega
 ·obtain ⟨d,hd⟩:∃d,(e+149).toNat=d+149:=⟨e.toNat,by omega⟩;unfold cz;rw [hd,xn,<-xd,uD]
def Qp {b:Nat} {s:Bool} {M:Nat} (h:Fl b s M) (hM:M<2^276):∃b',binOp .mul (.aw .f32 b) (.aw .f32 1073741824)=some (.aw .f32 b')/\Fl b' s (2*M):=by
 obtain ⟨b',k1,k2⟩:=h.WK hM;refine ⟨b',?_,k2⟩;show (match single.mul b 1073741824 with | some b=>some (AV.aw .f32 b) | none=>none)=_
 rw [k1]
def Qq {b:Nat} {s:Bool} {M:Nat} (h:Fl b s M) (hM:M%2=0):∃b',binOp .quo (.aw .f32 b) (.aw .f32 1073741824)=some (.aw .f32 b')/\Fl b' s (M/2):=by
 obtain ⟨b',k1,k2⟩:=h.WL hM;refine ⟨b',?_,k2⟩;show (match single.div b 1073741824 with | some b=>some (AV.aw .f32 b) | none=>none)=_
 rw [k1]
section
variable {x y M N:Nat} {s t:Bool} (hx:Fl x s M) (hy:Fl y t N)
include hx hy
theorem ag2:binOp .lss (.aw .f32 x) (.aw .f32 y)=some (.bool (decide (bc s M<bc t N))):=by
 show some (AV.bool (single.order x y==some .lt))=_
 rw [hx.ord hy];by_cases c:bc s M<bc t N
 ·rw [yG c,xa c];rfl
 ·rw [yv c,yM c];split<;>rfl
theorem ag3:binOp .geq (.aw .f32 x) (.aw .f32 y)=some (.bool (decide (bc t N<=bc s M))):=by
 show some (AV.bool (single.order x y==some .gt||single.order x y==some .eq))=_
 rw [hx.ord hy];by_cases c:bc s M<bc t N
 ·rw [yG c,yM (by omega)];rfl
 ·rw [yv c,xa (by omega)];split<;>rfl
theorem Li:binOp .eql (.aw .f32 x) (.aw .f32 y)=some (.bool (decide (bc s M=bc t N))):=by
 show some (AV.bool (single.order x y==some .eq))=_
 rw [hx.ord hy];by_cases c:bc s M<bc t N
 ·rw [yG c,yM (by omega)];rfl
 ·rw [yv c];by_cases d:bc s M=bc t N
  ·rw [yG d,xa d];rfl
  ·rw [yv d,yM d];rfl
theorem QS:binOp .neq (.aw .f32 x) (.aw .f32 y)=some (.bool (!decide (bc s M=bc t N))):=by
 show some (AV.bool (single.order x y !=some .eq))=_
 rw [hx.ord hy];by_cases c:bc s M<bc t N
 ·rw [yG c,yM (by omega)];rfl
 ·rw [yv c];by_cases d:bc s M=bc t N
  ·rw [yG d,xa d];rfl
  ·rw [yv d,yM d];rfl
end
def Lj (b:Nat):unOp .neg (.aw .f32 b)=some (.aw .f32 (b^^^2147483648)):=rfl
def ayB {b:Nat} {s:Bool} {M:Nat} (h:Fl b s M):∃a,max2 (.aw .f32 b) (.aw .f32 (b^^^2147483648))=some (.aw .f32 a)/\Fl a false M:=by
 have hn:=h.neg;have ho:=h.ord hn
 have e:max2 (.aw .f32 b) (.aw .f32 (b^^^2147483648))=(match single.order b (b^^^2147483648) with
  | none=>none
  | some .lt=>some (.aw .f32 (b^^^2147483648))
  | some .gt=>some (.aw .f32 b)
  | some .eq=>some (.aw .f32 (if (single.read b).neg then (b^^^2147483648) else b))):=rfl
 rw [e,ho];obtain ⟨m,j,h1,hM⟩:=h.ex;have hr:(single.read b).neg=s:=by rw [h1.read];rfl
 cases s with
 | true=>
  by_cases c:bc true M<bc (!true) M
  ·rw [yG c];exact ⟨_,rfl,hn⟩
  ·have:bc true M=bc (!true) M:=by
    unfold bc at c ⊢;simp at c ⊢;omega
   rw [yv c,yG this]
   dsimp only
   rw [hr,yG rfl];exact ⟨_,rfl,hn⟩
 | false=>
  have c:¬bc false M<bc (!false) M:=by
   show ¬(M:Int)< -(M:Int)
   omega
  rw [yv c];by_cases d:bc false M=bc (!false) M
  ·rw [yG d]
   dsimp only
   rw [hr,yv (by decide)];exact ⟨_,rfl,h⟩
  ·rw [yv d];exact ⟨_,rfl,h⟩
def KH {b:Nat} {s:Bool} {M:Nat} (h:Fl b s M) (hM:M<2^200):fZ (.toInt .i64) (.aw .f32 b)=some (.int .i64 (bc s (M/2^149))):=by
 have e:fZ (.toInt .i64) (.aw .f32 b)=(match (single.read b).toInt .zero with
  | some n=>if IntKind.min .i64<=n/\n<=IntKind.max .i64 then some (.int .i64 n) else none
  | none=>none):=rfl
 rw [e,h.toInt];have h1:M/2^149<2^51:=by rw [xy (y9 _),<-xn];exact hM
 generalize M/2^149=n at h1
 have:IntKind.min .i64<=bc s n/\bc s n<=IntKind.max .i64:=by
  rw [show IntKind.min .i64= -9223372036854775808 from rfl,show IntKind.max .i64=9223372036854775807 from rfl];unfold bc
  split<;>omega
 exact yG this
def PX {n:Int} (h:n.natAbs<=16777216):∃b,fZ (.toFlt .f32) (.int .i64 n)=some (.aw .f32 b)/\Fl b (n<0) (n.natAbs*2^149):=
 ⟨_,rfl,Fl.ofInt h⟩
def ag4:Fl 1266679808 false (2^173):=⟨8388608,1,⟨⟨by decide,by decide,.inl (by decide)⟩,by decide,by decide⟩,by decide⟩
end
def aov (p s:Nat):p*(s%1000000000)+p*1000000000*(s/1000000000)=p*s:=by
 rw [xd,<-xr,vH]
def Gc {l:List Int} {i:Nat} (h:l.length<=i):l.getD i 0=0:=by simp_all
def aqA {a b out:List Int} {i c:Nat} {x y:Int} (hx:x=a.getD i 0) (hy:y=b.getD i 0) (h1:0<=x) (h2:0<=y) (hl:out.length=i) (hv:dv out+1000000000^i*c=dv (a.take i)+dv (b.take i)):
  dv (out++[(((x.toNat+y.toNat+c)%1000000000:Nat):Int)])+1000000000^(i+1)*((x.toNat+y.toNat+c)/1000000000)=dv (a.take (i+1))+dv (b.take (i+1)):=by
 rw [nL,nL,kN,hl,<-hx,<-hy];simp only [dv,wo,xp,yV,yZ]
 have:=aov (1000000000^i) (x.toNat+y.toNat+c)
 grind
section
variable {P:aK} {L:Lib}
def awG (lC:Has P L 302 qF) {v w:AV} {a b:List Int} (hv:bn v a) (hw:bn w b) (ha:dg a) (hb:dg b) {N:Nat} (la:a.length<=N) (lb:b.length<=N) (lN:N<=20000000000):
  ∀k s,(∃(i c:Nat) (out:List Int),2*(N-i)+c=k/\out.length=i/\c<=1/\dg out/\dv out+1000000000^i*c=dv (a.take i)+dv (b.take i)/\i<=N+1/\(i<=N\/c=0)/\
    ((i=0/\aQ [0,1,5,6,7] s=⟨[(0,v),(1,w),(5,.ae),(6,ab c),(7,ab i)],[],0,0⟩)\/
    (0<i/\aQ [0,1,5,6,7] s=⟨[(0,v),(1,w),(5,.aE 0 0 i),(6,ab c),(7,ab i)],[(0,.cells true true false 1 (out.map ab))],1,0⟩)))->
   ∃ex s',D P L (.loop [0,1,5,6,7] nO) s=some (ex,s')/\∃tm out,ex= .exit 0/\dg out/\dv out=dv a+dv b/\out.length<=N+1/\((out=[]/\aj tm 5= .ae/\s'=⟨tm,[],0,0⟩)\/(0<out.length/\aj tm 5= .aE 0 0 out.length/\s'=⟨tm,[(0,.cells true true false 1 (out.map ab))],1,0⟩)):=by
 intro dq sq;generalize bq:aQ [0,1,5,6,7] sq=s0;revert bq s0 sq dq;apply dh;rintro k s ⟨i,c,out,hk,hlen,hc,ml,aH,hi,Ef,hs⟩;have e1:=Wk lC hv i;have e2:=Wk lC hw i;unfold ai at e1 e2;have ga:=gA ha i;have gb:=gA hb i;by_cases ri:i<a.length\/i<b.length\/0<c
 ·left
  obtain ⟨x,hx⟩:∃x,x=a.getD i 0:=⟨_,rfl⟩;obtain ⟨y,hy⟩:∃y,y=b.getD i 0:=⟨_,rfl⟩;rw [<-hx] at e1 ga;rw [<-hy] at e2 gb;have jJ:=aqA (c:=c) hx hy ga.1 gb.1 hlen aH;obtain ⟨s0,sJ⟩:∃s0,s0=x.toNat+y.toNat+c:=⟨_,rfl⟩;rw [<-sJ] at jJ;have Ah:x+y+(c:Int)=(s0:Int):=by omega
  have hs9:s0<2000000000:=by omega
  have hr:((s0:Nat):Int).tmod 1000000000=((s0%1000000000:Nat):Int):=by rw [xz (by omega)];rfl
  have hq:((s0:Nat):Int).tdiv 1000000000=((s0/1000000000:Nat):Int):=by rw [xE (by omega)];rfl
  have mh:s0/1000000000<=1:=by omega
  have ayC:2*(N-(i+1))+s0/1000000000<k:=by
   by_cases hm:i<N
   ·omega
   ·have:c=1:=by omega
    have pP:x=0:=by rw [hx];exact Gc (by omega)
    have fm:y=0:=by rw [hy];exact Gc (by omega)
    subst pP;subst fm
    have:s0=1:=by rw [sJ,this];rfl
    subst this;omega
  have pC:dg (out++[((s0%1000000000:Nat):Int)]):=fW.2 ⟨ml,iV.2 (by omega)⟩;have QT:(out++[((s0%1000000000:Nat):Int)]).length=i+1:=by simp [hlen]
  have aAj:i+1<=N\/s0/1000000000=0:=by
   by_cases hm:i<N
   ·exact .inl hm
   ·right
    have:c=1:=by omega
    have pP:x=0:=by rw [hx];exact Gc (by omega)
    have fm:y=0:=by rw [hy];exact Gc (by omega)
    subst pP;subst fm
    have:s0=1:=by rw [sJ,this];rfl
    subst this;rfl
  have fin:∃s',D P L nO s=some (.normal,s')/\aQ [0,1,5,6,7] s'=⟨[(0,v),(1,w),(5,.aE 0 0 (i+1)),(6,ab (s0/1000000000:Nat)),(7,ab (i+1:Nat))],[(0,.cells true true false 1 ((out++[((s0%1000000000:Nat):Int)]).map ab))],1,0⟩:=by
   have three:((i:Int)<a.length)\/(¬(i:Int)<a.length/\(i:Int)<b.length)\/(¬(i:Int)<a.length/\¬(i:Int)<b.length/\(0:Int)<c):=by omega
   rcases three with t1 | ⟨t1,t2⟩ | ⟨t1,t2,t3⟩
   ·rcases hs with ⟨h0,rfl⟩ | ⟨h0,rfl⟩
    ·subst h0;have ik:out=[]:=yD hlen;subst ik
     simp only [go_sem,ya,yd,xN,yI,yA,ym,nO,hv.len,hv.an,hw.an,t1,e1,e2,wrap64 (n:=x+y) (by omega) (by omega),Ah,wrap64 (n:=(s0:Int)) (by omega) (by omega),eP _ _ _ (show (1000000000:Int)≠0 by decide),eH _ _ _ (show (1000000000:Int)≠0 by decide),hr,hq,wrap64 (n:=((s0/1000000000:Nat):Int)) (by omega) (by omega),kP];refine ⟨_,rfl,?_⟩;rw [wrap64 (by omega) (by omega)];simp only [go_sem,ya,yd,aB,aO hv.pu,aV _ hv.pu,aO hw.pu,aV _ hw.pu]<;>rfl
    ·simp only [go_sem,ya,yd,yA,ym,nO,hv.len,hv.an,hw.an,t1,e1,e2,wrap64 (n:=x+y) (by omega) (by omega),Ah,wrap64 (n:=(s0:Int)) (by omega) (by omega),eP _ _ _ (show (1000000000:Int)≠0 by decide),hr]
     rw [jX (ex:=false) (pu:=true) (cs:=out.map ab) (by simp only [go_sem,ya]) (by rw [xt,hlen,ym]) (by omega) (by omega) (by decide) (by simp only [go_sem])]
     simp only [go_sem,ya,yd,eH _ _ _ (show (1000000000:Int)≠0 by decide),hq,wrap64 (n:=((s0/1000000000:Nat):Int)) (by omega) (by omega)];refine ⟨_,rfl,?_⟩;rw [wrap64 (by omega) (by omega),xI];simp only [go_sem,ya,yd,aB,aO hv.pu,aV _ hv.pu,aO hw.pu,aV _ hw.pu]<;>rfl
   ·rcases hs with ⟨h0,rfl⟩ | ⟨h0,rfl⟩
    ·subst h0;have ik:out=[]:=yD hlen;subst ik
     simp only [go_sem,ya,yd,xN,yI,yA,ym,nO,hv.len,hv.an,hw.len,hw.an,t1,t2,e1,e2,wrap64 (n:=x+y) (by omega) (by omega),Ah,wrap64 (n:=(s0:Int)) (by omega) (by omega),eP _ _ _ (show (1000000000:Int)≠0 by decide),eH _ _ _ (show (1000000000:Int)≠0 by decide),hr,hq,wrap64 (n:=((s0/1000000000:Nat):Int)) (by omega) (by omega),kP];refine ⟨_,rfl,?_⟩;rw [wrap64 (by omega) (by omega)];simp only [go_sem,ya,yd,aB,aO hv.pu,aV _ hv.pu,aO hw.pu,aV _ hw.pu]<;>rfl
    ·simp only [go_sem,ya,yd,yA,ym,nO,hv.len,hv.an,hw.len,hw.an,t1,t2,e1,e2,wrap64 (n:=x+y) (by omega) (by omega),Ah,wrap64 (n:=(s0:Int)) (by omega) (by omega),eP _ _ _ (show (1000000000:Int)≠0 by decide),hr]
     rw [jX (ex:=false) (pu:=true) (cs:=out.map ab) (by simp only [go_sem,ya]) (by rw [xt,hlen,ym]) (by omega) (by omega) (by decide) (by simp only [go_sem])]
     simp only [go_sem,ya,yd,eH _ _ _ (show (1000000000:Int)≠0 by decide),hq,wrap64 (n:=((s0/1000000000:Nat):Int)) (by omega) (by omega)];refine ⟨_,rfl,?_⟩;rw [wrap64 (by omega) (by omega),xI];simp only [go_sem,ya,yd,aB,aO hv.pu,aV _ hv.pu,aO hw.pu,aV _ hw.pu]<;>rfl
   ·rcases hs with ⟨h0,rfl⟩ | ⟨h0,rfl⟩
    ·subst h0;have ik:out=[]:=yD hlen;subst ik
     simp only [go_sem,ya,yd,xN,yI,yA,ym,nO,hv.len,hv.an,hw.len,hw.an,t1,t2,t3,e1,e2,wrap64 (n:=x+y) (by omega) (by omega),Ah,wrap64 (n:=(s0:Int)) (by omega) (by omega),eP _ _ _ (show (1000000000:Int)≠0 by decide),eH _ _ _ (show (1000000000:Int)≠0 by decide),hr,hq,wrap64 (n:=((s0/1000000000:Nat):Int)) (by omega) (by omega),kP];refine ⟨_,rfl,?_⟩;rw [wrap64 (by omega) (by omega)];simp only [go_sem,ya,yd,aB,aO hv.pu,aV _ hv.pu,aO hw.pu,aV _ hw.pu]<;>rfl
    ·simp only [go_sem,ya,yd,yA,ym,nO,hv.len,hv.an,hw.len,hw.an,t1,t2,t3,e1,e2,wrap64 (n:=x+y) (by omega) (by omega),Ah,wrap64 (n:=(s0:Int)) (by omega) (by omega),eP _ _ _ (show (1000000000:Int)≠0 by decide),hr]
     rw [jX (ex:=false) (pu:=true) (cs:=out.map ab) (by simp only [go_sem,ya]) (by rw [xt,hlen,ym]) (by omega) (by omega) (by decide) (by simp only [go_sem])]
     simp only [go_sem,ya,yd,eH _ _ _ (show (1000000000:Int)≠0 by decide),hq,wrap64 (n:=((s0/1000000000:Nat):Int)) (by omega) (by omega)];refine ⟨_,rfl,?_⟩;rw [wrap64 (by omega) (by omega),xI];simp only [go_sem,ya,yd,aB,aO hv.pu,aV _ hv.pu,aO hw.pu,aV _ hw.pu]<;>rfl
  obtain ⟨s',f1,f2⟩:=fin;exact ⟨s',_,f1,ayC,i+1,s0/1000000000,_,rfl,QT,mh,pC,jJ,by omega,aAj,.inr ⟨by omega,f2⟩⟩
 ·right
  have jQ:c=0:=by omega
  subst jQ;rw [xp,yV,yQ (by omega),yQ (by omega)] at aH;rcases hs with ⟨h0,rfl⟩ | ⟨h0,rfl⟩
  ·simp only [go_sem,ya,nO,hv.len,hw.len,show ¬(i:Int)<a.length by omega,show ¬(i:Int)<b.length by omega,show ¬(0:Int)<((0:Nat):Int) by omega];exact ⟨_,_,rfl,by simp,_,out,rfl,ml,aH,by omega,.inl ⟨yD (by omega),by simp only [go_sem,ya],rfl⟩⟩
  ·simp only [go_sem,ya,nO,hv.len,hw.len,show ¬(i:Int)<a.length by omega,show ¬(i:Int)<b.length by omega,show ¬(0:Int)<((0:Nat):Int) by omega];exact ⟨_,_,rfl,by simp,_,out,rfl,ml,aH,by omega,.inr ⟨by omega,by rw [hlen];simp only [go_sem,ya],rfl⟩⟩
def aje (h:Has P L 295 HN) (lC:Has P L 302 qF) {v w:AV} {a b:List Int} (hv:bn v a) (hw:bn w b) (ha:dg a) (hb:dg b) (la:a.length<=20000000000) (lb:b.length<=20000000000):
  ∃r out,ai P L 295 [v,w] r/\bn (shut r) out/\dg out/\dv out=dv a+dv b/\out.length<=max a.length b.length+1:=by
 have ij:∃out,ai P L 295 [v,w] (if out=[] then .ae else .bE false 1 out.length (out.map ab))/\dg out/\dv out=dv a+dv b/\out.length<=max a.length b.length+1:=by
  unfold ai;rw [aF h];simp only [go_sem,HN];generalize hq:D P L (.loop [0,1,5,6,7] nO) _=q;obtain ⟨ex,s,rfl,tm,out,rfl,hd,aH,hl,hs⟩:=b6 hq (awG (P:=P) (L:=L) lC hv hw ha hb (N:=max a.length b.length) (by omega) (by omega) (by omega) (2*(max a.length b.length))) ⟨0,0,[],by omega,rfl,by omega,rfl,by simp [dv],by omega,.inr rfl,.inl ⟨rfl,by simp only [go_sem,ya,aB,aO hv.pu,aV _ hv.pu,aO hw.pu,aV _ hw.pu]<;>rfl⟩⟩
  refine ⟨out,?_,hd,aH,hl⟩;rcases hs with ⟨h0,h5,rfl⟩ | ⟨h0,h5,rfl⟩
  ·rw [yG h0];simp only [go_sem,aB,h5]
  ·rw [yv (by intro e;subst e;simp at h0)];simp only [go_sem,yd,aB,h5];exact Zs (Pu _ _ _) (by simp) (by decide)
 obtain ⟨out,g1,g2,g3,g4⟩:=ij;refine ⟨_,out,g1,?_,g2,g3,g4⟩
 split
 ·rename_i e;subst e;exact zt
 ·exact lM false out
def WM (h:Has P L 296 qD) {v w:AV} {a b:List Int} (hv:bn v a) (hw:bn w b) (ha:dg a) (hb:dg b) (na:nz a) (nb:nz b) (la:a.length<=20000000000) (lb:b.length<=20000000000):
  ai P L 296 [v,w] (ab (dA (dv a) (dv b))):=by
 unfold ai;rw [aF h];by_cases hlen:a.length=b.length
 ·have key:=kO (P:=P) (L:=L) (live:=[0,1,5]) (a:=Bm)
   (I:=fun k st=>∃j:Nat,st=⟨[(0,v),(1,w),(5,ab ((j:Int)-1))],[],0,0⟩/\j<=a.length/\j=k/\a.drop j=b.drop j)
   (Q:=fun ex st=>∃tm ct,st=⟨tm,[],ct,0⟩/\((ex= .ret/\aj tm 4=ab (dA (dv a) (dv b)))\/(ex= .exit 0/\a=b))) ?_
  ·simp only [go_sem,ya,qD,hv.len,hw.len,show (a.length:Int)=b.length by omega];generalize hq:D P L (.loop [0,1,5] Bm) _=q;obtain ⟨ex,st,rfl,tm,ct,rfl,h2⟩:=b6 hq (key a.length) ⟨a.length,by
    rw [wrap64 (by omega) (by omega)];rw [hlen]
    simp only [go_sem,ya,aB,aO hv.pu,aV _ hv.pu,aO hw.pu,aV _ hw.pu]<;>rfl,yB _,rfl,by rw [xk (yB _),xk (by omega)]⟩
   rcases h2 with ⟨rfl,h2⟩ | ⟨rfl,h2⟩
   ·simp only [go_sem,h2]
   ·simp only [go_sem,aB];subst h2;simp [dA]
  ·rintro k st ⟨j,rfl,hj,rfl,he⟩
   cases j with
   | zero=>
    right
    simp only [go_sem,ya,Bm,show ¬(0:Int)<=((0:Nat):Int)-1 by omega];exact ⟨_,_,rfl,by simp,_,_,rfl,.inr ⟨rfl,by simpa using he⟩⟩
   | succ i=>
    have h1:i<a.length:=by omega
    have h2:i<b.length:=by omega
    have El:=aem ha hb h1 h2 he;have aG:=aem hb ha h2 h1 he.symm;by_cases c1:a[i]<b[i]
    ·right
     simp only [go_sem,ya,Bm,show ((i+1:Nat):Int)-1=(i:Int) by omega,show (0:Int)<=(i:Int) by omega,hv.cd h1,hw.cd h2,c1];refine ⟨_,_,rfl,by simp,_,_,rfl,.inl ⟨rfl,?_⟩⟩;simp only [go_sem];unfold dA;rw [yG (El c1)]
    ·by_cases c2:b[i]<a[i]
     ·right
      simp only [go_sem,ya,Bm,show ((i+1:Nat):Int)-1=(i:Int) by omega,show (0:Int)<=(i:Int) by omega,hv.cd h1,hw.cd h2,c1,c2];refine ⟨_,_,rfl,by simp,_,_,rfl,.inl ⟨rfl,?_⟩⟩;simp only [go_sem];unfold dA;rw [yv (by omega),yG (by omega)]
     ·left
      simp only [go_sem,ya,Bm,show ((i+1:Nat):Int)-1=(i:Int) by omega,show (0:Int)<=(i:Int) by omega,hv.cd h1,hw.cd h2,c1,c2];refine ⟨_,i,rfl,by omega,i,?_,by omega,rfl,?_⟩
      ·rw [wrap64 (by omega) (by omega)];simp only [go_sem,ya,aB,aO hv.pu,aV _ hv.pu,aO hw.pu,aV _ hw.pu]<;>rfl
      ·rw [yX h1,yX h2,he,show a[i]=b[i] by omega]
 ·by_cases c1:a.length<b.length
  ·have:=Qb ha nb hb c1
   simp only [go_sem,ya,qD,hv.len,hw.len,show ¬(a.length:Int)=b.length by omega,show (a.length:Int)<b.length by omega];unfold dA;rw [yG this]
  ·have:=Qb hb na ha (show b.length<a.length by omega)
   simp only [go_sem,ya,qD,hv.len,hw.len,show ¬(a.length:Int)=b.length by omega,show ¬(a.length:Int)<b.length by omega];unfold dA;rw [yv (by omega),yG this]
def aqB {a b out:List Int} {i c:Nat} {x y z:Int} {c':Nat} (hx:x=a.getD i 0) (hy:y=b.getD i 0) (h1:0<=x) (h2:0<=y) (h3:0<=z) (hz:z=x-y-c+1000000000*c') (hl:out.length=i) (hv:dv out+dv (b.take i)=dv (a.take i)+1000000000^i*c):
  dv (out++[z])+dv (b.take (i+1))=dv (a.take (i+1))+1000000000^(i+1)*c':=by
 rw [nL,nL,kN,hl,<-hx,<-hy];simp only [dv,xp,yV,yZ];have e:z.toNat+y.toNat+c=x.toNat+1000000000*c':=by omega
 grind
def awH (lC:Has P L 302 qF) {v w:AV} {a b:List Int} (hv:bn v a) (hw:bn w b) (ha:dg a) (hb:dg b) (la:a.length<=20000000000) (hle:dv b<=dv a) (Cy:b.length<=a.length):
  ∀k s,(∃(i c:Nat) (out:List Int),i+k=a.length/\out.length=i/\c<=1/\dg out/\dv out+dv (b.take i)=dv (a.take i)+1000000000^i*c/\
    ((i=0/\aQ [0,1,5,6,7] s=⟨[(0,v),(1,w),(5,.ae),(6,ab c),(7,ab i)],[],0,0⟩)\/
    (0<i/\aQ [0,1,5,6,7] s=⟨[(0,v),(1,w),(5,.aE 0 0 i),(6,ab c),(7,ab i)],[(0,.cells true true false 1 (out.map ab))],1,0⟩)))->
   ∃ex s',D P L (.loop [0,1,5,6,7] qc) s=some (ex,s')/\∃tm out,ex= .exit 0/\dg out/\dv out+dv b=dv a/\out.length<=20000000000/\((out=[]/\aj tm 5= .ae/\s'=⟨tm,[],0,0⟩)\/(0<out.length/\aj tm 5= .aE 0 0 out.length/\s'=⟨tm,[(0,.cells true true false 1 (out.map ab))],1,0⟩)):=by
 intro dq sq;generalize bq:aQ [0,1,5,6,7] sq=s0;revert bq s0 sq dq;apply dh;rintro k s ⟨i,c,out,hk,hlen,hc,ml,aH,hs⟩;have e2:=Wk lC hw i;unfold ai at e2;have ga:=gA ha i;have gb:=gA hb i;by_cases ri:i<a.length
 ·left
  obtain ⟨x,hx⟩:∃x,x=a.getD i 0:=⟨_,rfl⟩;obtain ⟨y,hy⟩:∃y,y=b.getD i 0:=⟨_,rfl⟩;have rA:a[i]=x:=by rw [hx];simp [xG,wx ri]
  have e1:=hv.cd ri;rw [rA] at e1;rw [<-hx] at ga;rw [<-hy] at e2 gb;obtain ⟨z,c',hz,mh,lG,kI,BE⟩:∃(z:Int) (c':Nat),z=x-y-c+1000000000*c'/\c'<=1/\0<=z/\z<1000000000/\((x-y-c<0/\c'=1)\/(¬x-y-c<0/\c'=0)):=by
   by_cases h:x-y-c<0
   ·exact ⟨x-y-c+1000000000,1,by omega,by omega,by omega,by omega,.inl ⟨h,rfl⟩⟩
   ·exact ⟨x-y-c,0,by omega,by omega,by omega,by omega,.inr ⟨h,rfl⟩⟩
  have jJ:=aqB hx hy ga.1 gb.1 lG hz hlen aH;have pC:dg (out++[z]):=fW.2 ⟨ml,iV.2 ⟨lG,kI⟩⟩;have QT:(out++[z]).length=i+1:=by simp [hlen]
  have fin:∃s',D P L qc s=some (.normal,s')/\aQ [0,1,5,6,7] s'=⟨[(0,v),(1,w),(5,.aE 0 0 (i+1)),(6,ab c'),(7,ab (i+1:Nat))],[(0,.cells true true false 1 ((out++[z]).map ab))],1,0⟩:=by
   rcases BE with ⟨eL,rfl⟩ | ⟨eL,rfl⟩
   ·have fA:x-y-c+1000000000=z:=by omega
    rcases hs with ⟨h0,rfl⟩ | ⟨h0,rfl⟩
    ·subst h0;have ik:out=[]:=yD hlen;subst ik
     simp only [go_sem,ya,yd,xN,yI,yA,ym,qc,hv.len,hw.an,show ((0:Nat):Int)<a.length by omega,e1,e2,wrap64 (n:=x-y) (by omega) (by omega),wrap64 (n:=x-y-(c:Int)) (by omega) (by omega),eL,fA,wrap64 (n:=z) (by omega) (by omega),kP];refine ⟨_,rfl,?_⟩;rw [wrap64 (by omega) (by omega)];simp only [go_sem,ya,yd,aB,aO hv.pu,aV _ hv.pu,aO hw.pu,aV _ hw.pu]<;>rfl
    ·simp only [go_sem,ya,yd,yA,ym,qc,hv.len,hw.an,show (i:Int)<a.length by omega,e1,e2,wrap64 (n:=x-y) (by omega) (by omega),wrap64 (n:=x-y-(c:Int)) (by omega) (by omega),eL,fA,wrap64 (n:=z) (by omega) (by omega)]
     rw [jX (ex:=false) (pu:=true) (cs:=out.map ab) (by simp only [go_sem,ya]) (by rw [xt,hlen,ym]) (by omega) (by omega) (by decide) (by simp only [go_sem])];simp only [go_sem,ya,yd];refine ⟨_,rfl,?_⟩;rw [wrap64 (by omega) (by omega),xI];simp only [go_sem,ya,yd,aB,aO hv.pu,aV _ hv.pu,aO hw.pu,aV _ hw.pu]<;>rfl
   ·have fA:x-y-c=z:=by omega
    have eL:¬z<0:=by omega
    rcases hs with ⟨h0,rfl⟩ | ⟨h0,rfl⟩
    ·subst h0;have ik:out=[]:=yD hlen;subst ik
     simp only [go_sem,ya,yd,xN,yI,yA,ym,qc,hv.len,hw.an,show ((0:Nat):Int)<a.length by omega,e1,e2,wrap64 (n:=x-y) (by omega) (by omega),fA,wrap64 (n:=z) (by omega) (by omega),eL,kP];refine ⟨_,rfl,?_⟩;rw [wrap64 (by omega) (by omega)];simp only [go_sem,ya,yd,aB,aO hv.pu,aV _ hv.pu,aO hw.pu,aV _ hw.pu]<;>rfl
    ·simp only [go_sem,ya,yd,yA,ym,qc,hv.len,hw.an,show (i:Int)<a.length by omega,e1,e2,wrap64 (n:=x-y) (by omega) (by omega),fA,wrap64 (n:=z) (by omega) (by omega),eL]
     rw [jX (ex:=false) (pu:=true) (cs:=out.map ab) (by simp only [go_sem,ya]) (by rw [xt,hlen,ym]) (by omega) (by omega) (by decide) (by simp only [go_sem])];simp only [go_sem,ya,yd];refine ⟨_,rfl,?_⟩;rw [wrap64 (by omega) (by omega),xI];simp only [go_sem,ya,yd,aB,aO hv.pu,aV _ hv.pu,aO hw.pu,aV _ hw.pu]<;>rfl
  obtain ⟨s',f1,f2⟩:=fin;exact ⟨s',k-1,f1,by omega,i+1,c',_,by omega,QT,mh,pC,jJ,.inr ⟨by omega,f2⟩⟩
 ·right
  have ag5:dv out+dv b=dv a:=by
   rw [yQ (by omega),yQ (by omega)] at aH;have aG:=iY ml;rw [hlen] at aG;rcases (show c=0\/c=1 by omega) with rfl | rfl
   ·omega
   ·omega
  rcases hs with ⟨h0,rfl⟩ | ⟨h0,rfl⟩
  ·simp only [go_sem,ya,qc,hv.len,show ¬(i:Int)<a.length by omega];exact ⟨_,_,rfl,by simp,_,out,rfl,ml,ag5,by omega,.inl ⟨yD (by omega),by simp only [go_sem,ya],rfl⟩⟩
  ·simp only [go_sem,ya,qc,hv.len,show ¬(i:Int)<a.length by omega];exact ⟨_,_,rfl,by simp,_,out,rfl,ml,ag5,by omega,.inr ⟨by omega,by rw [hlen];simp only [go_sem,ya],rfl⟩⟩
def ajf (h:Has P L 297 HO) (lC:Has P L 302 qF) (cp:Has P L 300 kC) {v w:AV} {a b:List Int} (hv:bn v a) (hw:bn w b) (ha:dg a) (hb:dg b) (na:nz a) (nb:nz b) (la:a.length<=20000000000) (hle:dv b<=dv a):
  ∃r out,ai P L 297 [v,w] r/\bn r out/\shut r=r/\dg out/\nz out/\dv out+dv b=dv a:=by
 have Cy:b.length<=a.length:=by
  by_cases h:a.length<b.length
  ·have:=Qb ha nb hb h;omega
  ·omega
 unfold ai;rw [aF h];simp only [go_sem,HO];generalize hq:D P L (.loop [0,1,5,6,7] qc) _=q;obtain ⟨ex,s,rfl,tm,out,rfl,hd,aH,hl,hs⟩:=b6 hq (awH (P:=P) (L:=L) lC hv hw ha hb la hle Cy a.length) ⟨0,0,[],by omega,rfl,by omega,rfl,by simp [dv],.inl ⟨rfl,by simp only [go_sem,ya,aB,aO hv.pu,aV _ hv.pu,aO hw.pu,aV _ hw.pu]<;>rfl⟩⟩
 have nc:=lM false out;rcases hs with ⟨h0,h5,rfl⟩ | ⟨h0,h5,rfl⟩
 ·subst h0;obtain ⟨r,e1,hr,iC⟩:=Ad cp (v:= .ae) (l:=[]) zt (by simp);refine ⟨r,dD [],?_,hr,iC,rfl,rfl,by rw [rF];exact aH⟩
  simp only [go_sem,aB,h5,e1,iC,hr.cZ]
 ·obtain ⟨r,e1,hr,iC⟩:=Ad cp nc hl;refine ⟨r,dD out,?_,hr,iC,zn hd,CV out,by rw [rF];exact aH⟩
  have iB:∀hp:Hp,kE 0 out.length (some (false,1,out.map ab,hp))=some (.aC false out.length (out.map ab),hp):=fun hp=>rG false (by simp) (by decide)
  simp only [go_sem,yd,aB,h5,iB,e1,iC,hr.cZ]
end
def AN {hp:Hp} {ct id o:Nat} {v:Int} {ex:Bool} {l:List Int} (h:o<l.length):jT hp ct id o 1 [.int .i64 v] (some (.cells true true ex 1 (l.map ab)))=some (.aa [],bf hp id (.cells true true ex 1 ((l.set o v).map ab)),ct):=by
 rw [Lc (by rfl) (by simp;omega) (by rfl)]
 have:over o [AV.int .i64 v] (l.map ab)=(l.set o v).map ab:=by
  simp only [over,yO,yR,yh];rw [List.map_set,List.set_eq_take_append_cons_drop,yG (by simpa using h)]
  simp
 rw [this];rfl
def qv {l:List Int} {o:Nat} (h:o<l.length):vZ o (l.map ab)=AV.int .i64 (l.getD o 0)::vZ (o+1) (l.map ab):=by
 rw [yX (by simpa using h)]
 grind
def pn {v:AV} {l:List Int} (hv:bn v l) {i:Nat} (h:i<l.length):j8 1 i v=some (.b7 (.int .i64 (l.getD i 0)::(l.map ab).drop (i+1))):=by
 rw [hv.cd h]
 grind
def aqC {o x y c:Int} (ho:0<=o/\o<1000000000) (hx:0<=x/\x<1000000000) (hy:0<=y/\y<1000000000) (hc:0<=c/\c<1000000000):
  (0<=x*y/\x*y<=999999998000000001)/\0<=o+x*y+c/\o+x*y+c<1000000000000000000:=by
 have h1:=tj hx.1 hy.1;have h2:=ybB (show x<=999999999 by omega) (show y<=999999999 by omega) hy.1 (by decide);omega
section
variable {P:aK} {L:Lib}
def awI {v w:AV} {a b:List Int} (hv:bn v a) (hw:bn w b) (ha:dg a) (hb:dg b) (la:a.length<=20000000000) (lb:b.length<=20000000000) {n i:Nat} (hn:n=a.length+b.length) (hi:i<a.length) {out0:List Int}:
  ∀k s,(∃(j:Nat) (c:Int) (out:List Int),aQ [0,1,5,6,7,8] s=⟨[(0,v),(1,w),(5,.aE 0 0 n),(6,ab i),(7,ab c),(8,ab j)],[(0,.cells true true true 1 (out.map ab))],1,0⟩/\j+k=b.length/\out.length=n/\dg out/\(0<=c/\c<1000000000)/\
    dv out+1000000000^i*1000000000^j*c.toNat=dv out0+1000000000^i*((a.getD i 0).toNat*dv (b.take j))/\(∀m,i+b.length<=m->out.getD m 0=out0.getD m 0))->
   ∃ex s',D P L (.loop [0,1,5,6,7,8] GQ) s=some (ex,s')/\∃tm c out,s'=⟨tm,[(0,.cells true true true 1 (out.map ab))],1,0⟩/\ex= .exit 2/\aj tm 0=v/\aj tm 1=w/\aj tm 5= .aE 0 0 n/\aj tm 6=ab i/\aj tm 7=ab c/\out.length=n/\dg out/\(0<=c/\c<1000000000)/\
    dv out+1000000000^i*1000000000^b.length*c.toNat=dv out0+1000000000^i*((a.getD i 0).toNat*dv b)/\(∀m,i+b.length<=m->out.getD m 0=out0.getD m 0):=by
 intro dq sq;generalize bq:aQ [0,1,5,6,7,8] sq=s0;revert bq s0 sq dq;apply dh;rintro k s ⟨j,c,out,rfl,hk,hlen,hd,hc,aH,fk⟩;by_cases hj:j<b.length
 ·left
  obtain ⟨x,hx⟩:∃x,x=a.getD i 0:=⟨_,rfl⟩;obtain ⟨y,hy⟩:∃y,y=b.getD j 0:=⟨_,rfl⟩;obtain ⟨o,ho⟩:∃o,o=out.getD (i+j) 0:=⟨_,rfl⟩;have gx:=gA ha i;have gy:=gA hb j;have mi:=gA hd (i+j);rw [<-hx] at gx;rw [<-hy] at gy;rw [<-ho] at mi;obtain ⟨p1,p2,p3⟩:=aqC mi gx gy hc;obtain ⟨t,ht⟩:∃t:Nat,o+x*y+c=t:=⟨(o+x*y+c).toNat,by omega⟩;have hr:((t:Nat):Int).tmod 1000000000=((t%1000000000:Nat):Int):=by rw [xz (by omega)];rfl
  have hq:((t:Nat):Int).tdiv 1000000000=((t/1000000000:Nat):Int):=by rw [xE (by omega)];rfl
  have e1:=pn hv hi;have e2:=pn hw hj;rw [<-hx] at e1;rw [<-hy] at e2;have e3:=qv (l:=out) (o:=i+j) (by omega);rw [<-ho] at e3;have sP:t=o.toNat+x.toNat*y.toNat+c.toNat:=by
   have:((x.toNat*y.toNat:Nat):Int)=x*y:=by rw [wG,yaF gx.1,yaF gy.1]
   omega
  have bf:=Qc (l:=out) (j:=i+j) (x:=((t%1000000000:Nat):Int)) (by omega);rw [<-ho,wo,xn] at bf;have jJ:=apu (Y:=dv (b.take j)) sP bf (by rw [hx];exact aH)
  simp only [go_sem,ya,ym,GQ,hw.len,show (j:Int)<b.length by omega,wrapN (n:=i+j) (by omega),show (i:Int)+(j:Int)=((i+j:Nat):Int) from rfl,cP 0 0 (show i+j<n by omega),yh,e3,e1,e2,wrap64 (n:=x*y) (by omega) (by omega),wrap64 (n:=o+x*y) (by omega) (by omega),ht,wrapN (n:=t) (by omega),eP _ _ _ (show (1000000000:Int)≠0 by decide),eH _ _ _ (show (1000000000:Int)≠0 by decide),hr,hq,wrapN (n:=t/1000000000) (by omega),AN (l:=out) (o:=i+j) (by omega)];refine ⟨_,k-1,rfl,by omega,j+1,((t/1000000000:Nat):Int),out.set (i+j) ((t%1000000000:Nat):Int),?_,by omega,by simp [hlen],KL hd (by omega),by omega,?_,fun m hm=>?_⟩
  ·rw [wrap64 (by omega) (by omega)];simp only [go_sem,ya,yd,aB,aO hv.pu,aV _ hv.pu,aO hw.pu,aV _ hw.pu]<;>rfl
  ·rw [wo,nL,yZ,<-hx,<-hy];exact jJ
  ·rw [aaY (by omega)];exact fk m hm
 ·right
  have:j=b.length:=by omega
  subst this;rw [xH] at aH;simp only [go_sem,ya,GQ,hw.len,show ¬(b.length:Int)<b.length by omega];exact ⟨_,_,rfl,by simp,_,c,out,rfl,rfl,by simp only [go_sem,ya],by simp only [go_sem,ya],by simp only [go_sem,ya],by simp only [go_sem,ya],by simp only [go_sem,ya],hlen,hd,hc,aH,fk⟩
end
def OO (n:Nat):(yL n [AV.int .i64 0]).flatten=(yL n (0:Int)).map ab:=by simp_all
def asH (b:Bool):Ib true (some b)=some (.bool (!b)):=by cases b<;>rfl
def ZC (n m:Nat):(yL n (0:Int)).getD m 0=0:=by grind
section
variable {P:aK} {L:Lib}
def awJ {v w:AV} {a b:List Int} (hv:bn v a) (hw:bn w b) (ha:dg a) (hb:dg b) (la:a.length<=20000000000) (lb:b.length<=20000000000) {n:Nat} (hn:n=a.length+b.length):
  ∀k s,(∃(i:Nat) (out:List Int),aQ [0,1,5,6] s=⟨[(0,v),(1,w),(5,.aE 0 0 n),(6,ab i)],[(0,.cells true true true 1 (out.map ab))],1,0⟩/\i+k=a.length/\out.length=n/\dg out/\dv out=dv (a.take i)*dv b/\(∀m,i+b.length<=m->out.getD m 0=0))->
   ∃ex s',D P L (.loop [0,1,5,6] GR) s=some (ex,s')/\∃tm out,s'=⟨tm,[(0,.cells true true true 1 (out.map ab))],1,0⟩/\ex= .exit 0/\aj tm 5= .aE 0 0 n/\out.length=n/\dg out/\dv out=dv a*dv b:=by
 intro dq sq;generalize bq:aQ [0,1,5,6] sq=s0;revert bq s0 sq dq;apply dh;rintro k s ⟨i,out,rfl,hk,hlen,hd,aH,fk⟩;by_cases hi:i<a.length
 ·left
  simp only [go_sem,ya,GR,hv.len,show (i:Int)<a.length by omega];generalize hq:D P L (.loop [0,1,5,6,7,8] GQ) _=q;obtain ⟨ex,s,rfl,tm,c,qI,rfl,rfl,t0,t1,t5,t6,t7,QP,jy,hc,QQ,Ig⟩:=b6 hq (awI (P:=P) (L:=L) hv hw ha hb la lb hn hi (out0:=out) b.length) ⟨0,0,out,by simp only [go_sem,ya,yd,aB,aO hv.pu,aV _ hv.pu,aO hw.pu,aV _ hw.pu]<;>rfl,by omega,hlen,hd,by omega,by simp [dv],fun m _=>rfl⟩
  have hz:qI.getD (i+b.length) 0=0:=by rw [Ig _ (yB _),fk _ (yB _)]
  have e3:=qv (l:=qI) (o:=i+b.length) (by omega);rw [hz] at e3;have bf:=Qc (l:=qI) (j:=i+b.length) (x:=c) (by omega);rw [hz,xn] at bf
  simp only [go_sem,ya,ym,aB,t0,t1,t5,t6,t7,hw.len,aO hv.pu,aV _ hv.pu,aO hw.pu,aV _ hw.pu,wrapN (n:=i+b.length) (by omega),show (i:Int)+(b.length:Int)=((i+b.length:Nat):Int) from rfl,cP 0 0 (show i+b.length<n by omega),yh,e3,Int.zero_add,wrap64 (n:=c) (by omega) (by omega),AN (l:=qI) (o:=i+b.length) (by omega)];refine ⟨_,k-1,rfl,by omega,i+1,qI.set (i+b.length) c,?_,by omega,by simp [QP],KL jy hc,?_,fun m hm=>?_⟩
  ·rw [wrap64 (by omega) (by omega)];simp only [go_sem,ya,yd,aB,aO hv.pu,aV _ hv.pu,aO hw.pu,aV _ hw.pu]<;>rfl
  ·rw [nL,xS,<-aH,xd];simp only [Int.toNat_zero,xp,yV] at bf;rw [bf];exact QQ
  ·rw [aaY (by omega),Ig m (by omega),fk m (by omega)]
 ·right
  have:i=a.length:=by omega
  subst this;rw [xH] at aH;simp only [go_sem,ya,GR,hv.len,show ¬(a.length:Int)<a.length by omega];exact ⟨_,_,rfl,by simp,_,out,rfl,rfl,by simp only [go_sem,ya],hlen,hd,aH⟩
def WO (h:Has P L 293 zX) (cp:Has P L 300 kC) {v w:AV} {a b:List Int} (hv:bn v a) (hw:bn w b) (ha:dg a) (hb:dg b) (la:a.length<=8000000000) (lb:b.length<=8000000000):
  ∃r out,ai P L 293 [v,w] r/\bn r out/\shut r=r/\dg out/\nz out/\dv out=dv a*dv b:=by
 obtain ⟨n,hn⟩:∃n,n=a.length+b.length:=⟨_,rfl⟩;have cu:∀ct:Nat,Ac ct 1 8 [.int .i64 0] (some n) (some n)=some (.aE ct 0 n,.cells true true true 1 ((yL n (0:Int)).map ab)):=fun ct=>by
  rw [KN (sz:=1) (by omega) (by omega) (by rfl) (by rfl),OO];rfl
 unfold ai;rw [aF h]
 simp only [go_sem,ya,yd,zX,hv.len,hw.len,wrapN (n:=n) (by omega),show (a.length:Int)+(b.length:Int)=((a.length+b.length:Nat):Int) from rfl,<-hn,cu];generalize hq:D P L (.loop [0,1,5,6] GR) _=q;obtain ⟨ex,s,rfl,tm,out,rfl,rfl,t5,hlen,hd,aH⟩:=b6 hq (awJ (P:=P) (L:=L) hv hw ha hb (by omega) (by omega) hn a.length) ⟨0,yL n 0,by simp only [go_sem,ya,yd,aB,aO hv.pu,aV _ hv.pu,aO hw.pu,aV _ hw.pu]<;>rfl,by omega,by simp,aa0 n,by rw [aaZ];simp [dv],fun m _=>ZC n m⟩
 have nc:=lM true out;rw [hlen] at nc;obtain ⟨r,e1,hr,iC⟩:=Ad cp nc (by omega);refine ⟨r,dD out,?_,hr,iC,zn hd,CV out,by rw [rF];exact aH⟩
 have iB:∀hp:Hp,kE 0 n (some (true,1,out.map ab,hp))=some (.aC true n (out.map ab),hp):=fun hp=>rG true (by simp [hlen]) (by decide)
 simp only [go_sem,yd,aB,t5,iB,e1,iC,hr.cZ]
def Iq (h:Has P L 278 LR) (jN:Has P L 293 zX) (gk:Has P L 294 zY) (cp:Has P L 300 kC) {v w:AV} {n m:Int} {K:Nat} (hK:K<=8000000000) (hv:gW v n) (hw:gW w m) (hn:n.natAbs<1000000000^K) (hm:m.natAbs<1000000000^K):
  ∃r,ai P L 278 [v,w] r/\gW r (n*m):=by
 obtain ⟨x,a,rfl,hx,ha,na,va⟩:=hv;obtain ⟨y,b,rfl,hy,hb,nb,vb⟩:=hw;have la:=xb (gB ha na (by rw [va];exact hn)) hK
 have lb:=xb (gB hb nb (by rw [vb];exact hm)) hK
 obtain ⟨z,out,e1,hz,iC,hd,AH,aH⟩:=WO jN cp hx hy ha hb la lb;have lo:out.length<=20000000000:=by
  refine gB hd AH ?_;rw [aH];have h1:=iY ha;have h2:=iY hb;have h3:dv a*dv b<1000000000^a.length*1000000000^b.length:=tn h1 h2;rw [<-xn] at h3;have hk:∀K,a.length+b.length<=K->dv a*dv b<1000000000^K:=fun K h=>yE h3 (yT (by decide) h)
  exact hk 20000000000 (by omega)
 obtain ⟨r,e2,hr⟩:=mQ gk cp (!(decide (n<0)==decide (m<0))) hz hd lo;have e:bX (!(decide (n<0)==decide (m<0))) (dv out)=n*m:=by
  rw [aH,va,vb];have hnm:((n.natAbs*m.natAbs:Nat):Int)=(n.natAbs:Int)*m.natAbs:=wG _ _;unfold bX;by_cases h0:n<0<;>by_cases h1:m<0<;>simp only [h0,h1,yo,yr,yaj,yN,yC,xj,hnm]
  ·rw [show (n.natAbs:Int)= -n by omega,show (m.natAbs:Int)= -m by omega,Int.neg_mul_neg]
  ·rw [show (true==false)=false from rfl,yP,yG rfl,show (n.natAbs:Int)= -n by omega,show (m.natAbs:Int)=m by omega,Int.neg_mul,tP]
  ·rw [show (false==true)=false from rfl,yP,yG rfl,show (n.natAbs:Int)=n by omega,show (m.natAbs:Int)= -m by omega,ycp,tP]
  ·rw [show (n.natAbs:Int)=n by omega,show (m.natAbs:Int)=m by omega]
 rw [e] at hr;obtain ⟨w2,l2,rfl,gm,fK,jf,sA⟩:=hr;refine ⟨_,?_,w2,l2,rfl,gm,fK,jf,sA⟩;unfold ai at e1 e2 ⊢;rw [aF h];simp only [go_sem,ya,yd,LR,aY,hx.pu,hx.an,hx.one,hy.pu,hy.an,hy.one,hz.an,hz.shut,gm.pu,gm.one,bI,yh,cx,e1,nV,asH,e2,er,bt];rcases gm with ⟨rfl,_⟩ | ⟨e,rfl⟩<;>rfl
end
def asI (i:Nat) (q:List Int) (x:Int):(yL (i+1) (0:Int)++q).set i x=yL i 0++x::q:=by
 rw [List.replicate_succ',xx,List.set_append_right _ _ (by simp)]
 simp
section
variable {P:aK} {L:Lib}
def awK {v:AV} {a:List Int} (hv:bn v a) (ha:dg a) (la:a.length<=20000000000) {d:Nat} (h0:0<d) (h1:d<1000000000):
  ∀k s,(∃(j r:Nat) (q:List Int),aQ [0,1,6,7,8] s=⟨[(0,v),(1,ab d),(6,.aE 0 0 a.length),(7,ab r),(8,ab ((j:Int)-1))],[(0,.cells true true true 1 ((yL j (0:Int)++q).map ab))],1,0⟩/\j=k/\j+q.length=a.length/\r<d/\dg q/\dv (a.drop j)=d*dv q+r)->
   ∃ex s',D P L (.loop [0,1,6,7,8] GS) s=some (ex,s')/\∃tm r q,s'=⟨tm,[(0,.cells true true true 1 (q.map ab))],1,0⟩/\ex= .exit 0/\aj tm 6= .aE 0 0 a.length/\aj tm 7=ab (r:Nat)/\q.length=a.length/\r<d/\dg q/\dv a=d*dv q+r:=by
 intro dq sq;generalize bq:aQ [0,1,6,7,8] sq=s0;revert bq s0 sq dq;apply dh;rintro k s ⟨j,r,q,rfl,rfl,hl,hr,hd,aH⟩
 cases j with
 | zero=>
  right
  simp only [go_sem,ya,GS,show ¬(0:Int)<=((0:Nat):Int)-1 by omega];exact ⟨_,_,rfl,by simp,_,r,q,rfl,rfl,by simp only [go_sem,ya],by simp only [go_sem,ya],by omega,hr,hd,aH⟩
 | succ i=>
  left
  have hi:i<a.length:=by omega
  obtain ⟨x,hx⟩:∃x,x=a.getD i 0:=⟨_,rfl⟩;have e1:=pn hv hi;have gx:=gA ha i;rw [<-hx] at e1 gx;obtain ⟨t,ht⟩:∃t:Nat,t=r*1000000000+x.toNat:=⟨_,rfl⟩;have sP:(r:Int)*1000000000+x=(t:Int):=by omega
  have jC:t<d*1000000000:=by
   omega
  have eZ:t/d<1000000000:=(xy h0).2 (by rw [xg];exact jC)
  have dK:t%d<d:=xu _ h0;have e2:((t:Nat):Int).tdiv d=((t/d:Nat):Int):=by rw [xE (by omega)];rfl
  have e3:((t:Nat):Int).tmod d=((t%d:Nat):Int):=by rw [xz (by omega)];rfl
  have I8:(yL (i+1) (0:Int)++q).length=a.length:=by simp;omega
  have aU:=fun (hp:Hp) (ct id:Nat) (ex:Bool)=>AN (hp:=hp) (ct:=ct) (id:=id) (ex:=ex) (v:=((t/d:Nat):Int)) (l:=yL (i+1) (0:Int)++q) (o:=i) (by rw [I8];exact hi)
  simp only [asI] at aU
  simp only [go_sem,ya,ym,GS,show ((i+1:Nat):Int)-1=(i:Int) by omega,show (0:Int)<=(i:Int) by omega,wrap64 (n:=(r:Int)*1000000000) (by omega) (by omega),e1,sP,wrapN (n:=t) (by omega),eH _ _ _ (show (d:Int)≠0 by omega),eP _ _ _ (show (d:Int)≠0 by omega),e2,e3,wrapN (n:=t/d) (by omega),cP 0 0 (show i<a.length from hi),yh,aU]
  refine ⟨_,i,rfl,by omega,i,t%d,((t/d:Nat):Int)::q,?_,rfl,by simp;omega,dK,(fW (a:=[((t/d:Nat):Int)]) (b:=q)).2 ⟨iV.2 ⟨tS _,uQ.2 eZ⟩,hd⟩,?_⟩
  ·rw [wrap64 (by omega) (by omega)];simp only [go_sem,ya,yd,aB,aO hv.pu,aV _ hv.pu]<;>rfl
  ·have iz:a.drop i=x::a.drop (i+1):=by
    rw [yX hi,hx];simp [xG,wx hi]
   rw [iz];simp only [dv,aH,wo];have e:=xF t d;rw [xr,xr d,Nat.mul_left_comm 1000000000 d];omega
def ajg (h:Has P L 299 zZ) (cp:Has P L 300 kC) {v:AV} {a:List Int} (hv:bn v a) (ha:dg a) (la:a.length<=20000000000) {d:Nat} (h0:0<d) (h1:d<1000000000):
  ∃r q,ai P L 299 [v,ab d] (.aa [r,ab (dv a%d:Nat)])/\bn r q/\shut r=r/\bR r=r/\dg q/\nz q/\dv q=dv a/d:=by
 obtain ⟨n,hn⟩:∃n,n=a.length:=⟨_,rfl⟩;have cu:∀ct:Nat,Ac ct 1 8 [.int .i64 0] (some n) (some n)=some (.aE ct 0 n,.cells true true true 1 ((yL n (0:Int)).map ab)):=fun ct=>by
  rw [KN (sz:=1) (by omega) (by omega) (by rfl) (by rfl),OO];rfl
 unfold ai;rw [aF h];simp only [go_sem,ya,yd,zZ,hv.len,<-hn,cu];generalize hq:D P L (.loop [0,1,6,7,8] GS) _=q;obtain ⟨ex,s,rfl,tm,r,qs,rfl,rfl,t6,t7,hlen,hr,hd,aH⟩:=b6 hq (awK (P:=P) (L:=L) hv ha la h0 h1 a.length) ⟨a.length,0,[],by
  rw [wrap64 (by omega) (by omega),xZ,<-hn]
  simp only [go_sem,ya,yd,aB,aO hv.pu,aV _ hv.pu]<;>rfl,rfl,by simp,h0,rfl,by rw [xk (yB _)];simp [dv]⟩
 have nc:=lM true qs;rw [hlen] at nc;obtain ⟨w,e1,hw,iC⟩:=Ad cp nc (by omega);have dZ:dv a/d=dv qs/\dv a%d=r:=(Nat.div_mod_unique h0).2 ⟨by omega,hr⟩;refine ⟨w,dD qs,?_,hw,iC,hw.bR,zn hd,CV qs,by rw [rF,dZ.1]⟩;have iB:∀hp:Hp,kE 0 a.length (some (true,1,qs.map ab,hp))=some (.aC true a.length (qs.map ab),hp):=fun hp=>rG true (by simp [hlen]) (by decide)
 rw [dZ.2];simp only [go_sem,ya,yd,aB,t6,t7,iB,e1,iC];rcases hw with ⟨rfl,_⟩ | ⟨e,rfl⟩<;>rfl
def aAk (h:Has P L 279 Dz) (Nf:Has P L 295 HN) (mT:Has P L 296 qD) (Ng:Has P L 297 HO) (lC:Has P L 302 qF) (gk:Has P L 294 zY) (cp:Has P L 300 kC) {v w:AV} {n m:Int} {K:Nat} (hK:K<=8000000000) (hv:gW v n) (hw:gW w m) (hn:n.natAbs<1000000000^K) (hm:m.natAbs<1000000000^K):
  ∃r,ai P L 279 [v,w] r/\gW r (n+m):=by
 obtain ⟨x,a,rfl,hx,ha,na,va⟩:=hv;obtain ⟨y,b,rfl,hy,hb,nb,vb⟩:=hw;have la:=xb (gB ha na (by rw [va];exact hn)) hK
 have lb:=xb (gB hb nb (by rw [vb];exact hm)) hK
 by_cases hs:(decide (n<0)==decide (m<0))=true
 ·obtain ⟨z,out,e1,hz,hd,aH,hl⟩:=aje Nf lC hx hy ha hb (by omega) (by omega);have lo:out.length<=20000000000:=by omega
  obtain ⟨r,e2,hr⟩:=mQ gk cp (decide (n<0)) hz hd lo;have e:bX (decide (n<0)) (dv out)=n+m:=by
   have oN:(n<0)=(m<0):=by simpa using eq_of_beq hs
   rw [aH,va,vb];unfold bX;by_cases h0:n<0
   ·have h1:m<0:=oN▸h0;simp only [h0,yo,xO];omega
   ·have h1:¬m<0:=oN▸h0;simp only [h0,yr,yC,xj];omega
  rw [e] at hr;obtain ⟨w2,l2,rfl,gm,fK,jf,sA⟩:=hr;refine ⟨_,?_,w2,l2,rfl,gm,fK,jf,sA⟩;unfold ai at e1 e2 ⊢;rw [aF h];simp only [go_sem,ya,yd,Dz,aY,hx.pu,hx.an,hx.one,hy.pu,hy.an,hy.one,hz.an,gm.pu,gm.one,bI,yh,cx,e1,nV,dM,hs,e2,er,bt];rcases gm with ⟨rfl,_⟩ | ⟨e,rfl⟩<;>rfl
 ·have hs:(decide (n<0)==decide (m<0))=false:=by simpa using hs
  have oN:¬((n<0)=(m<0)):=fun e=>by simp [e] at hs
  have ec:=WM mT hx hy ha hb na nb (by omega) (by omega);by_cases hc:dv a<dv b
  ·have dP:dA (dv a) (dv b)= -1:=by unfold dA;rw [yG hc]
   rw [dP] at ec;obtain ⟨z,out,e1,hz,iC,hd,AH,aH⟩:=ajf Ng lC cp hy hx hb ha nb na (by omega) (by omega);have lo:out.length<=20000000000:=by
    refine gB hd AH ?_
    have:=iY hb
    have hk:∀K,b.length<=K->dv out<1000000000^K:=fun K h=>yE (show dv out<1000000000^b.length by omega) (yT (by decide) h)
    exact hk 20000000000 (by omega)
   obtain ⟨r,e2,hr⟩:=mQ gk cp (decide (m<0)) hz hd lo;have e:bX (decide (m<0)) (dv out)=n+m:=by
    rw [va,vb] at aH;unfold bX;by_cases h0:m<0
    ·have h1:¬n<0:=fun h1=>oN (by simp [h0,h1])
     simp only [h0,yo,xO];omega
    ·have h1:n<0:=by
      by_cases h1:n<0
      ·exact h1
      ·exact absurd (by simp [h0,h1]) oN
     simp only [h0,yr,yC,xj];omega
   rw [e] at hr;obtain ⟨w2,l2,rfl,gm,fK,jf,sA⟩:=hr;refine ⟨_,?_,w2,l2,rfl,gm,fK,jf,sA⟩;unfold ai at e1 e2 ec ⊢;rw [aF h];simp only [go_sem,ya,yd,Dz,aY,hx.pu,hx.an,hx.one,hy.pu,hy.an,hy.one,hz.an,hz.shut,gm.pu,gm.one,bI,yh,cx,e1,nV,dM,hs,ec,show ¬(0:Int)<=-1 by decide,e2,er,bt];rcases gm with ⟨rfl,_⟩ | ⟨e,rfl⟩<;>rfl
  ·have dP:(0:Int)<=dA (dv a) (dv b):=by unfold dA;rw [yv hc];split<;>decide
   obtain ⟨z,out,e1,hz,iC,hd,AH,aH⟩:=ajf Ng lC cp hx hy ha hb na nb (by omega) (by omega);have lo:out.length<=20000000000:=by
    refine gB hd AH ?_
    have:=iY ha
    have hk:∀K,a.length<=K->dv out<1000000000^K:=fun K h=>yE (show dv out<1000000000^a.length by omega) (yT (by decide) h)
    exact hk 20000000000 (by omega)
   obtain ⟨r,e2,hr⟩:=mQ gk cp (decide (n<0)) hz hd lo;have e:bX (decide (n<0)) (dv out)=n+m:=by
    rw [va,vb] at aH;unfold bX;by_cases h0:n<0
    ·have h1:¬m<0:=fun h1=>oN (by simp [h0,h1])
     simp only [h0,yo,xO];omega
    ·have h1:m<0:=by
      by_cases h1:m<0
      ·exact h1
      ·exact absurd (by simp [h0,h1]) oN
     simp only [h0,yr,yC,xj];omega
   rw [e] at hr;obtain ⟨w2,l2,rfl,gm,fK,jf,sA⟩:=hr;refine ⟨_,?_,w2,l2,rfl,gm,fK,jf,sA⟩;unfold ai at e1 e2 ec ⊢;rw [aF h];simp only [go_sem,ya,yd,Dz,aY,hx.pu,hx.an,hx.one,hy.pu,hy.an,hy.one,hz.an,hz.shut,gm.pu,gm.one,bI,yh,cx,e1,nV,dM,hs,ec,dP,e2,er,bt];rcases gm with ⟨rfl,_⟩ | ⟨e,rfl⟩<;>rfl
def PY {l:List Int} (hd:dg l) (hn:nz l) (h:dv l<1000000000):l.length<=1:=gB hd hn (by simpa using h)
def aAl (h:Has P L 289 qC) (mT:Has P L 296 qD) (od:Has P L 299 zZ) (cp:Has P L 300 kC) {v w:AV} {a b:List Int} (hv:bn v a) (hw:bn w b) (ha:dg a) (hb:dg b) (na:nz a) (nb:nz b) (la:a.length<=20000000000) (lb:b.length<=1) (h0:0<dv b):
  ∃q r lq lr,ai P L 289 [v,w] (.aa [q,r])/\bn q lq/\bn r lr/\dg lq/\nz lq/\dg lr/\nz lr/\dv lq=dv a/dv b/\dv lr=dv a%dv b:=by
 have ec:=WM mT hv hw ha hb na nb la (by omega);by_cases hc:dv a<dv b
 ·have dP:dA (dv a) (dv b)= -1:=by unfold dA;rw [yG hc]
  rw [dP] at ec;refine ⟨.ae,v,[],a,?_,zt,hv,rfl,rfl,ha,na,?_,?_⟩
  ·unfold ai;rw [aF h];simp only [go_sem,ya,qC,hv.an,hw.an,ec,show (-1:Int)<0 by decide];rcases hv with ⟨rfl,_⟩ | ⟨e,rfl⟩<;>rfl
  ·rw [xD hc];rfl
  ·rw [yF hc]
 ·have dP:¬dA (dv a) (dv b)<0:=by unfold dA;rw [yv hc];split<;>decide
  have ma:b.length=1:=by
   rcases xe b.length with e | e
   ·rw [yD e] at h0;simp [dv] at h0
   ·omega
  obtain ⟨x,rfl⟩:∃x,b=[x]:=by
   cases b with
   | nil=>simp at ma
   | cons x r=>cases r with
    | nil=>exact ⟨x,rfl⟩
    | cons y r=>simp at ma
  have gx:=iV.1 hb;obtain ⟨d,hd⟩:∃d:Nat,x=d:=⟨x.toNat,by omega⟩;subst hd;have hdd:dv [((d:Nat):Int)]=d:=by simp [dv]
  rw [hdd] at h0 hc dP ec ⊢;obtain ⟨q,lq,e1,hq,hqs,aAm,dq,nq,vq⟩:=ajg od cp hv ha la h0 (by omega);have agW:dv a%d<d:=xu _ h0;generalize dv a%d=m at*
  obtain ⟨r,e2,hr,Xo⟩:=Ad cp (lM true [(m:Int)]) (by simp);refine ⟨q,r,lq,dD [(m:Int)],?_,hq,hr,dq,nq,zn (iV.2 (by omega)),CV _,vq,by rw [rF];simp [dv]⟩;have e3:=hw.cd (i:=0) (by simp);simp only [yO,yR,yh,xi,vX,uI] at e2 e3;unfold ai;rw [aF h];simp only [go_sem,ya,yd,yI,yA,ym,qC,hv.an,hw.len,hw.an,ec,dP,yO,yR,show ((1:Nat):Int)=(1:Int) from rfl,yo,e3,e1,aAm,e2,Xo];rcases hq with ⟨rfl,_⟩ | ⟨e,rfl⟩<;>rcases hr with ⟨rfl,_⟩ | ⟨e',rfl⟩<;>rfl
end
def sv:List Int->Int
 | []=>0
 | a::r=>a+1000000000*sv r
def aaq:∀(a b:List Int),sv (a++b)=sv a+1000000000^a.length*sv b
 | [],b=>by simp [sv]
 | x::a,b=>by
  simp only [xh,sv,aaq a b,yO,tB,ycq]
  grind
def awL (x:Int):sv [x]=x:=by simp [sv]
def De:∀{l:List Int} {i:Nat} {x:Int},i<l.length->sv (l.set i x)=sv l+1000000000^i*(x-l.getD i 0)
 | [],i,x,h=>by simp at h
 | a::l,0,x,_=>by simp [sv];omega
 | a::l,i+1,x,h=>by
  have ih:=De (l:=l) (i:=i) (x:=x) (by simpa using h);simp only [List.set_cons_succ,sv,List.getD_cons_succ,ih,tB,ycq]
  grind
def KI {l:List Int} (i:Nat):sv (l.take (i+1))=sv (l.take i)+1000000000^i*l.getD i 0:=by
 by_cases h:i<l.length
 ·rw [List.take_succ_eq_append_getElem h,aaq,yW,xA (by omega),awL]
  grind
 ·rw [yQ (by omega),yQ (by omega),Gc (by omega),Int.mul_zero,ybZ]
def rZ:∀{l:List Int},dg l->sv l=dv l
 | [],_=>rfl
 | a::l,h=>by
  obtain ⟨h1,h2⟩:=fW.1 (show dg ([a]++l) from h);have h1:=iV.1 h1;simp only [sv,dv,rZ h2,ybl,wG];omega
section
variable {pre x post:List Int} {i:Nat}
def mE:(pre++x++post).length=pre.length+x.length+post.length:=by grind
def zK (h:i<x.length):(pre++x++post).getD (pre.length+i) 0=x.getD i 0:=by grind
def KS (a:Int) (h:i<x.length):(pre++x++post).set (pre.length+i) a=pre++x.set i a++post:=by simp_all
end
def afK {l:List Int} {i m:Nat} {x:Int} (h:i≠m):(l.set i x).getD m 0=l.getD m 0:=by simp_all
def aow {l:List Int} {i:Nat} {x:Int} (h:i<l.length):(l.set i x).getD i 0=x:=by simp_all
abbrev H3 (q u:List Int) (f:Int):Hp:=[(2,.cells true true true 1 (q.map ab)),(1,.cells true true false 1 (u.map ab)),(0,.cells false true true 1 [ab f])]
def Kl {live:List Nat} {tm:Env} {ct:Nat} {a b c:List AV} (ht:pk 3 (dF tm live)) (hl:(iK (dF tm live)).length<100000):
  aQ live ⟨tm,[(2,.cells true true true 1 a),(1,.cells true true false 1 b),(0,.cells false true true 1 c)],ct,3⟩=⟨dF tm live,[(2,.cells true true true 1 a),(1,.cells true true false 1 b),(0,.cells false true true 1 c)],3,3⟩:=
 YZ ht ⟨by omega,.inl rfl,by omega,.inl rfl,by omega,.inl rfl,trivial⟩ (by
  have:iF 3 [(2,Obj.cells true true true 1 a),(1,Obj.cells true true false 1 b),(0,Obj.cells false true true 1 c)]=[]:=rfl
  rw [this,yR,yV];exact hl)
structure fD (x vs:List Int) (n v1 v2 u0 u1 u2:Nat):Prop where
 n2:2<=n
 nb:n<=20000000000
 lx:x.length=n+1
 lv:vs.length=n
 gx:dg x
 gv:dg vs
 eC:vs.getD (n-1) 0=(v1:Int)
 cC:vs.getD (n-2) 0=(v2:Int)
 h0:x.getD n 0=(u0:Int)
 h1:x.getD (n-1) 0=(u1:Int)
 h2:x.getD (n-2) 0=(u2:Int)
 pos:0<v1
 lt:dv x<1000000000*dv vs
section
variable {x vs:List Int} {n v1 v2 u0 u1 u2:Nat}
def fD.Ja (h:fD x vs n v1 v2 u0 u1 u2):v1<1000000000:=by have:=gA h.gv (n-1);rw [h.eC] at this;omega
def fD.Cs (h:fD x vs n v1 v2 u0 u1 u2):v2<1000000000:=by have:=gA h.gv (n-2);rw [h.cC] at this;omega
def fD.u0W (h:fD x vs n v1 v2 u0 u1 u2):u0<1000000000:=by have:=gA h.gx n;rw [h.h0] at this;omega
def fD.Jb (h:fD x vs n v1 v2 u0 u1 u2):u1<1000000000:=by have:=gA h.gx (n-1);rw [h.h1] at this;omega
def fD.Jc (h:fD x vs n v1 v2 u0 u1 u2):u2<1000000000:=by have:=gA h.gx (n-2);rw [h.h2] at this;omega
def fD.parts (h:fD x vs n v1 v2 u0 u1 u2):∃p vr ur,dv vs=(v1*1000000000+v2)*p+vr/\vr<p/\dv x=((u0*1000000000+u1)*1000000000+u2)*p+ur/\ur<p:=by
 obtain ⟨m,hm⟩:∃m,n=m+2:=⟨n-2,by have:=h.n2;omega⟩;subst hm;have e1:=nL (l:=vs) (m+1);have e2:=nL (l:=vs) m;have f0:=nL (l:=x) (m+2);have f1:=nL (l:=x) (m+1);have f2:=nL (l:=x) m;have eC:vs.getD (m+1) 0=(v1:Int):=h.eC;have cC:vs.getD m 0=(v2:Int):=h.cC;have h0:x.getD (m+2) 0=(u0:Int):=h.h0;have h1:x.getD (m+1) 0=(u1:Int):=h.h1;have h2:x.getD m 0=(u2:Int):=h.h2
 rw [yQ (by have:=h.lv;omega),eC,e2,cC] at e1
 rw [yQ (by have:=h.lx;omega),h0,f1,h1,f2,h2] at f0;simp only [wo] at e1 f0;have g1:=iY (A7 h.gv m)
 rw [yW,xA (by have:=h.lv;omega)] at g1;have g2:=iY (A7 h.gx m)
 rw [yW,xA (by have:=h.lx;omega)] at g2;refine ⟨1000000000^m,_,_,?_,g1,?_,g2⟩
 ·rw [e1,yZ,ays]
 ·rw [f0,show 1000000000^(m+2)=1000000000^m*1000000000*1000000000 by rw [yZ,yZ],yZ,ayt]
def fD.down (h:fD x vs n v1 v2 u0 u1 u2) {t r:Nat} (ht:t*v1+r=u0*1000000000+u1) (hr:r*1000000000+u2<t*v2):dv x/dv vs<=t-1:=by
 obtain ⟨p,vr,ur,h1,h2,h3,h4⟩:=h.parts;exact Zp h1 h3 h4 ht hr
def fD.stop (h:fD x vs n v1 v2 u0 u1 u2) {t r:Nat} (jC:t<1000000000) (ht:t*v1+r=u0*1000000000+u1) (hr:1000000000<=r\/t*v2<=r*1000000000+u2):t<=dv x/dv vs+1:=by
 obtain ⟨p,vr,ur,h1,h2,h3,h4⟩:=h.parts;exact aab (by decide) h1 h2 h3 h.pos h.Cs jC ht hr
def fD.first (h:fD x vs n v1 v2 u0 u1 u2):dv x/dv vs<=(u0*1000000000+u1)/v1:=by
 obtain ⟨p,vr,ur,h1,h2,h3,h4⟩:=h.parts;exact Oz h1 h3 h4 h.Jc h.pos
def fD.top (h:fD x vs n v1 v2 u0 u1 u2):u0<=v1:=by
 obtain ⟨p,vr,ur,h1,h2,h3,h4⟩:=h.parts;exact aac h1 h3 h2 h.Cs h.lt
def fD.digit (h:fD x vs n v1 v2 u0 u1 u2):dv x/dv vs<1000000000:=by
 refine (xy ?_).2 h.lt;rcases xe (dv vs) with h0 | h0
 ·have:=h.lt;rw [h0] at this;simp at this
 ·exact h0
def fD.small (h:fD x vs n v1 v2 u0 u1 u2) {t r:Nat} (ht:t*v1+r=u0*1000000000+u1) (hb:1000000000<=t):r<1000000000:=by
 have h1:=h.top;have h2:=h.Jb;have h3:=yU v1 hb
 grind
end
def aAn {r u:Nat} (hr:r<1000000000) (hu:u<1000000000):r*1000000000<9223372036854775808/\r*1000000000+u<9223372036854775808:=by omega
section
variable {P:aK} {L:Lib}
def asJ {w:AV} {x vs pre post qs:List Int} {f:Int} (hw:bn w vs) {n v1 v2 u0 u1 u2 M:Nat} (hl:fD x vs n v1 v2 u0 u1 u2) (hM:M=pre.length+x.length+post.length) (Jo:M<=50000000000):
  ∀k s,(∃t r:Nat,aQ [0,1,2,7,9,10] s=⟨[(0,.aE 1 0 M),(1,w),(2,ab pre.length),(7,ab n),(9,ab t),(10,ab r)],H3 qs (pre++x++post) f,3,3⟩/\t*v1+r=u0*1000000000+u1/\r<1000000000/\dv x/dv vs<=t/\t=k)->
   ∃ex s',D P L (.loop [0,1,2,7,9,10] zH) s=some (ex,s')/\∃tm ct t,s'=⟨tm,H3 qs (pre++x++post) f,ct,3⟩/\((ex= .exit 0/\aj tm 9=ab (t:Nat))\/(ex= .ret/\aj tm 6=ab (t:Nat)))/\ct=3/\t<1000000000/\dv x/dv vs<=t/\t<=dv x/dv vs+1:=by
 intro dq sq;generalize bq:aQ [0,1,2,7,9,10] sq=s0;revert bq s0 sq dq;apply dh;rintro k s ⟨t,r,rfl,ht,hr,hQ,rfl⟩;have cU:=hl.n2;have oC:=hl.nb;have hlx:=hl.lx;have D0:=hl.Ja;have Wl:=hl.Cs;have aiM:=hl.Jc;have aAo:=hl.u0W;have M1:=hl.Jb;have mU:=hl.pos;have oH:=pn hw (i:=n-2) (by have:=hl.lv;omega);have eD:=pn hw (i:=n-1) (by have:=hl.lv;omega);rw [hl.cC] at oH;rw [hl.eC] at eD;have rm:=qv (l:=pre++x++post) (o:=pre.length+(n-2)) (by rw [mE];omega);rw [zK (by omega),hl.h2] at rm;have sU:(n:Int)-2=((n-2:Nat):Int):=by omega
 have oI:(n:Int)-1=((n-1:Nat):Int):=by omega
 have Jp:(pre.length:Int)+(n:Int)=((pre.length+n:Nat):Int):=rfl;have Yi:((pre.length+n:Nat):Int)-2=((pre.length+(n-2):Nat):Int):=by omega
 have aGm:t<=1000000000000000000:=by
  have:=yS t mU
  omega
 have aGn:t*1<=t*v1:=yS t mU;obtain ⟨Yj,Yk⟩:=aAn hr aiM;by_cases ri:1000000000<=t\/r*1000000000+u2<t*v2
 ·have Yl:0<t:=by
   rcases xe t with h0 | h0
   ·subst h0;omega
   ·exact h0
  have h1:(t-1)*v1+(r+v1)=u0*1000000000+u1:=by
   obtain ⟨p,rfl⟩:∃p,t=p+1:=⟨t-1,by omega⟩;rw [xS,Nat.one_mul] at ht;rw [Nat.add_sub_cancel];omega
  have sW:dv x/dv vs<=t-1:=by
   rcases ri with h | h
   ·have:=hl.digit;generalize dv x/dv vs=q at*;omega
   ·exact hl.down ht h
  have Ol:((t:Nat):Int)-1=((t-1:Nat):Int):=by omega
  have stop:1000000000<=r+v1->t-1<1000000000/\t-1<=dv x/dv vs+1:=fun hb=>by
   have aG:t-1<1000000000:=by
    by_cases qV:1000000000<=t-1
    ·have:=hl.small h1 qV;omega
    ·omega
   exact ⟨aG,hl.stop aG h1 (.inl hb)⟩
  by_cases hb:1000000000<=t
  ·by_cases lE:1000000000<=r+v1
   ·right
    obtain ⟨s1,s2⟩:=stop lE
    simp only [go_sem,ya,zH,H3,show (1000000000:Int)<=(t:Int) by omega,Ol,wrapN (n:=t-1) (by omega),oI,wrapN (n:=n-1) (by omega),eD,show (r:Int)+(v1:Int)=((r+v1:Nat):Int) from rfl,wrapN (n:=r+v1) (by omega),show (1000000000:Int)<=((r+v1:Nat):Int) by omega];exact ⟨_,_,rfl,by simp,_,_,t-1,rfl,.inr ⟨rfl,by simp only [go_sem]⟩,rfl,s1,sW,s2⟩
   ·left
    simp only [go_sem,ya,zH,H3,show (1000000000:Int)<=(t:Int) by omega,Ol,wrapN (n:=t-1) (by omega),oI,wrapN (n:=n-1) (by omega),eD,show (r:Int)+(v1:Int)=((r+v1:Nat):Int) from rfl,wrapN (n:=r+v1) (by omega),show ¬(1000000000:Int)<=((r+v1:Nat):Int) by omega];refine ⟨_,t-1,rfl,by omega,t-1,r+v1,?_,h1,by omega,sW,rfl⟩;rw [Kl (by simp only [go_sem,ya,yI,kX,lR,kT,kR,oR hw.pu,wN]) (by simp only [go_sem,ya,yd,yI,aO hw.pu])];simp only [go_sem,ya]
  ·have oB:=wa (show t<=999999999 by omega) (show v2<=999999999 by omega);have oe:r*1000000000+u2<t*v2:=ri.resolve_left hb;obtain ⟨m,hm⟩:∃m,t*v2=m:=⟨_,rfl⟩;have em:(t:Int)*(v2:Int)=(m:Int):=by rw [<-hm,wG]
   rw [hm] at oe oB;have EA:(r:Int)*1000000000=((r*1000000000:Nat):Int):=by omega
   have AB:((r*1000000000:Nat):Int)+(u2:Int)=((r*1000000000+u2:Nat):Int):=rfl;by_cases lE:1000000000<=r+v1
   ·right
    obtain ⟨s1,s2⟩:=stop lE
    simp only [go_sem,ya,ym,zH,H3,show ¬(1000000000:Int)<=(t:Int) by omega,sU,wrapN (n:=n-2) (by omega),oH,em,wrapN (n:=m) (by omega),EA,wrapN Yj,Jp,wrapN (n:=pre.length+n) (by omega),Yi,wrapN (n:=pre.length+(n-2)) (by omega),cP 1 0 (show pre.length+(n-2)<M by omega),yh,rm,AB,wrapN Yk,show ((r*1000000000+u2:Nat):Int)<(m:Int) from uQ.2 oe,Ol,wrapN (n:=t-1) (by omega),oI,wrapN (n:=n-1) (by omega),eD,show (r:Int)+(v1:Int)=((r+v1:Nat):Int) from rfl,wrapN (n:=r+v1) (by omega),show (1000000000:Int)<=((r+v1:Nat):Int) by omega];exact ⟨_,_,rfl,by simp,_,_,t-1,rfl,.inr ⟨rfl,by simp only [go_sem]⟩,rfl,s1,sW,s2⟩
   ·left
    simp only [go_sem,ya,ym,zH,H3,show ¬(1000000000:Int)<=(t:Int) by omega,sU,wrapN (n:=n-2) (by omega),oH,em,wrapN (n:=m) (by omega),EA,wrapN Yj,Jp,wrapN (n:=pre.length+n) (by omega),Yi,wrapN (n:=pre.length+(n-2)) (by omega),cP 1 0 (show pre.length+(n-2)<M by omega),yh,rm,AB,wrapN Yk,show ((r*1000000000+u2:Nat):Int)<(m:Int) from uQ.2 oe,Ol,wrapN (n:=t-1) (by omega),oI,wrapN (n:=n-1) (by omega),eD,show (r:Int)+(v1:Int)=((r+v1:Nat):Int) from rfl,wrapN (n:=r+v1) (by omega),show ¬(1000000000:Int)<=((r+v1:Nat):Int) by omega];refine ⟨_,t-1,rfl,by omega,t-1,r+v1,?_,h1,by omega,sW,rfl⟩;rw [Kl (by simp only [go_sem,ya,yI,kX,lR,kT,kR,oR hw.pu,wN]) (by simp only [go_sem,ya,yd,yI,aO hw.pu])];simp only [go_sem,ya]
 ·right
  have jC:t<1000000000:=Nat.lt_of_not_le fun e=>ri (.inl e)
  have oB:=wa (show t<=999999999 from vn jC) (show v2<=999999999 from vn Wl);have WQ:t*v2<=r*1000000000+u2:=ybc fun e=>ri (.inr e)
  have ayD:=hl.stop jC ht (.inr WQ);obtain ⟨m,hm⟩:∃m,t*v2=m:=⟨_,rfl⟩;have em:(t:Int)*(v2:Int)=(m:Int):=by rw [<-hm,wG]
  rw [hm] at WQ oB;have EA:(r:Int)*1000000000=((r*1000000000:Nat):Int):=by omega
  have AB:((r*1000000000:Nat):Int)+(u2:Int)=((r*1000000000+u2:Nat):Int):=rfl
  simp only [go_sem,ya,ym,zH,H3,show ¬(1000000000:Int)<=(t:Int) by omega,sU,wrapN (n:=n-2) (by omega),oH,em,wrapN (n:=m) (by omega),EA,wrapN Yj,Jp,wrapN (n:=pre.length+n) (by omega),Yi,wrapN (n:=pre.length+(n-2)) (by omega),cP 1 0 (show pre.length+(n-2)<M by omega),yh,rm,AB,wrapN Yk,show ¬((r*1000000000+u2:Nat):Int)<(m:Int) from fun e=>Nat.not_lt_of_le WQ (uQ.1 e)];exact ⟨_,_,rfl,by simp,_,_,t,rfl,.inl ⟨rfl,by simp only [go_sem,ya]⟩,rfl,jC,hQ,ayD⟩
def ayE (h:Has P L 301 sh) {w:AV} {x vs pre post qs:List Int} {f:Int} (hw:bn w vs) {n v1 v2 u0 u1 u2 M:Nat} (hl:fD x vs n v1 v2 u0 u1 u2) (hM:M=pre.length+x.length+post.length) (Jo:M<=50000000000):
  ∃t:Nat,gY P L (D P L) (H3 qs (pre++x++post) f) 3 301 [.aE 1 0 M,w,ab pre.length]=some (ab t,H3 qs (pre++x++post) f,3)/\t<1000000000/\dv x/dv vs<=t/\t<=dv x/dv vs+1:=by
 have cU:=hl.n2;have oC:=hl.nb;have hlx:=hl.lx;have rq:below 3 w:=oR hw.pu;have D0:=hl.Ja;have aAo:=hl.u0W;have M1:=hl.Jb;have mU:=hl.pos;have eD:=pn hw (i:=n-1) (by have:=hl.lv;omega);rw [hl.eC] at eD;have AE:=qv (l:=pre++x++post) (o:=pre.length+n) (by rw [mE];omega);rw [zK (by omega),hl.h0] at AE;have AF:=qv (l:=pre++x++post) (o:=pre.length+(n-1)) (by rw [mE];omega);rw [zK (by omega),hl.h1] at AF;have oI:(n:Int)-1=((n-1:Nat):Int):=by omega
 have Jp:(pre.length:Int)+(n:Int)=((pre.length+n:Nat):Int):=rfl;have pn1:((pre.length+n:Nat):Int)-1=((pre.length+(n-1):Nat):Int):=by omega
 obtain ⟨m,hm⟩:∃m,m=u0*1000000000+u1:=⟨_,rfl⟩;have em:(u0:Int)*1000000000=((u0*1000000000:Nat):Int):=by omega
 have em2:((u0*1000000000:Nat):Int)+(u1:Int)=(m:Int):=by omega
 have dZ:=xF m v1;have kG:=xu m mU;have KR:=hl.first;rw [<-hm] at KR;have aGD:m/v1<=m:=wI _ _;have oq:IntKind.wrap .i64 ((m:Int).tdiv (v1:Int))=((m/v1:Nat):Int):=by
  rw [xE (by omega),<-ybd,wrapN (by omega)]
 have or':(m:Int).tmod (v1:Int)=((m%v1:Nat):Int):=by rw [xz (by omega),<-Int.natCast_emod]
 rw [xg] at dZ;generalize m/v1=q0 at*
 generalize m%v1=r0 at*
 have ij:∃ex tm t,D P L sh.body ⟨dR 0 [.aE 1 0 M,w,ab pre.length],H3 qs (pre++x++post) f,3,3⟩=some (ex,⟨tm,H3 qs (pre++x++post) f,3,3⟩)/\(ex= .normal\/ex= .ret)/\aj tm 6=ab (t:Nat)/\t<1000000000/\dv x/dv vs<=t/\t<=dv x/dv vs+1:=by
  simp only [go_sem,ya,ym,sh,H3,hw.len,hl.lv,Jp,wrapN (n:=pre.length+n) (by omega),cP 1 0 (show pre.length+n<M by omega),yh,AE,em,wrapN (n:=u0*1000000000) (by omega),pn1,wrapN (n:=pre.length+(n-1)) (by omega),cP 1 0 (show pre.length+(n-1)<M by omega),AF,em2,wrapN (n:=m) (by omega),oI,wrapN (n:=n-1) (by omega),eD,eH _ _ _ (show (v1:Int)≠0 by omega),eP _ _ _ (show (v1:Int)≠0 by omega),oq,or'];generalize lH:D P L (.loop [0,1,2,7,9,10] zH) _=qq;obtain ⟨ex,s,rfl,tm,ct,t,rfl,DW,rfl,g1,g2,g3⟩:=b6 lH (asJ (P:=P) (L:=L) (qs:=qs) (f:=f) hw hl hM Jo q0) ⟨q0,r0,by
   rw [Kl (by simp only [go_sem,ya,yI,kX,lR,kT,kR,rq,wN]) (by simp only [go_sem,ya,yd,yI,aO hw.pu])]
   simp only [go_sem,ya],by omega,by omega,KR,rfl⟩
  rcases DW with ⟨rfl,h9⟩ | ⟨rfl,h6⟩
  ·simp only [go_sem,yI,H3,Kl,kX,kT,kR,h9,and_self];exact ⟨_,_,t,rfl,.inr rfl,by simp only [go_sem],g1,g2,g3⟩
  ·simp only [go_sem];exact ⟨_,_,t,rfl,.inr rfl,h6,g1,g2,g3⟩
 obtain ⟨ex,tm,t,g1,g2,g3,g4,g5,g6⟩:=ij;exact ⟨t,aey h g1 g2 (by show gX _ [RV.t 6]=_;rw [Wc,QO,g3]),g4,g5,g6⟩
end
def aAp {t v bo:Int} (ht:0<=t/\t<1000000000) (hv:0<=v/\v<1000000000) (hb:0<=bo/\bo<1000000000):0<=t*v/\t*v<=999999998000000001/\0<=t*v+bo/\t*v+bo<=999999999000000000:=by
 have h1:=tj ht.1 hv.1;have h2:=ybB (show t<=999999999 by omega) (show v<=999999999 by omega) hv.1 (by decide);omega
def aAq {x p:Int} (hx:0<=x/\x<1000000000) (hp:0<=p/\p<=999999999000000000):
  (x-p.tmod 1000000000<0->0<=x-p.tmod 1000000000+1000000000/\x-p.tmod 1000000000+1000000000<1000000000/\0<=p.tdiv 1000000000+1/\p.tdiv 1000000000+1<1000000000/\x-p.tmod 1000000000+1000000000+p=x+1000000000*(p.tdiv 1000000000+1))/\
  (¬x-p.tmod 1000000000<0->x-p.tmod 1000000000<1000000000/\0<=p.tdiv 1000000000/\p.tdiv 1000000000<1000000000/\x-p.tmod 1000000000+p=x+1000000000*p.tdiv 1000000000):=by grind
def PZ {l:List Int} (h:dg l) {i:Nat} {z:Int} (hz:0<=z/\z<1000000000):dg (l.set i z):=KL h hz
def asK {b p z q v bo sX x X Y S:Int} (h2:z+(q*v+bo)=x+b*sX) (h3:Y+q*X=S+p*bo):(Y+p*(z-x))+q*(X+p*v)=S+p*b*sX:=by grind
section
variable {P:aK} {L:Lib}
def asL {w:AV} {x vs pre post qs:List Int} {f:Int} (hw:bn w vs) {n M m:Nat} (lv:vs.length=n) (hM:M=pre.length+(n+1)+post.length) (Jo:M<=50000000000) (gv:dg vs) {t:Int} (ht:0<=t/\t<1000000000):
  ∀k s,(∃(i:Nat) (bo:Int) (y:List Int),aQ [8,9,10,11,12,13,14,15,16] s=⟨[(8,.aE 0 0 1),(9,w),(10,ab n),(11,.aE 1 0 M),(12,.aE 2 0 m),(13,ab pre.length),(14,ab t),(15,ab bo),(16,ab i)],H3 qs (pre++y++post) f,3,0⟩/\i+k=n/\y.length=n+1/\dg y/\(0<=bo/\bo<1000000000)/\
    sv y+t*sv (vs.take i)=sv x+1000000000^i*bo)->
   ∃ex s',D P L (.loop [8,9,10,11,12,13,14,15,16] C4) s=some (ex,s')/\∃tm bo y,s'=⟨tm,H3 qs (pre++y++post) f,3,0⟩/\ex= .exit 4/\aj tm 8= .aE 0 0 1/\aj tm 9=w/\aj tm 10=ab n/\aj tm 11= .aE 1 0 M/\aj tm 12= .aE 2 0 m/\aj tm 13=ab pre.length/\aj tm 14=ab t/\aj tm 15=ab bo/\y.length=n+1/\dg y/\(0<=bo/\bo<1000000000)/\
    sv y+t*sv vs=sv x+1000000000^n*bo:=by
 intro dq sq;generalize bq:aQ [8,9,10,11,12,13,14,15,16] sq=s0;revert bq s0 sq dq;apply dh;rintro k s ⟨i,bo,y,rfl,hk,ly,gy,iA,aH⟩;by_cases hi:i<n
 ·left
  have pQ:=gA gv i;have oJ:=gA gy i;have ev:=pn hw (i:=i) (by omega);have ey:=qv (l:=pre++y++post) (o:=pre.length+i) (by rw [mE];omega);rw [zK (by omega)] at ey;have dY:=KI (l:=vs) i;obtain ⟨a,ha⟩:∃a,a=vs.getD i 0:=⟨_,rfl⟩;obtain ⟨d,hd⟩:∃d,d=y.getD i 0:=⟨_,rfl⟩;rw [<-ha] at pQ ev dY;rw [<-hd] at oJ ey;obtain ⟨p1,p2,p3,p4⟩:=aAp ht pQ iA;obtain ⟨s1,s2⟩:=aAq oJ ⟨p3,p4⟩;have eF:(i:Int)+(pre.length:Int)=((pre.length+i:Nat):Int):=by omega
  have aU:=fun (hp:Hp) (ct:Nat) (z:Int)=>AN (hp:=hp) (ct:=ct) (id:=1) (v:=z) (ex:=false) (l:=pre++y++post) (o:=pre.length+i) (by rw [mE];omega)
  have mN:=fun z=>KS (pre:=pre) (x:=y) (post:=post) (i:=i) z (by omega)
  have bf:=fun z=>De (l:=y) (i:=i) (x:=z) (by omega)
  rw [<-hd] at bf;obtain ⟨pr,mZ⟩:∃pr,pr=t*a+bo:=⟨_,rfl⟩;obtain ⟨dm,dZ⟩:∃dm,pr.tmod 1000000000=dm:=⟨_,rfl⟩;obtain ⟨dq,Cv⟩:∃dq,pr.tdiv 1000000000=dq:=⟨_,rfl⟩;have aGE:0<=dm/\dm<1000000000:=by rw [<-dZ,xz (by omega)];omega
  have aGF:0<=dq/\dq<1000000000:=by rw [<-Cv,xE (by omega)];omega
  rw [<-mZ,dZ,Cv] at s1 s2;have key:∀z sX,z+(t*a+bo)=d+1000000000*sX->sv (y.set i z)+t*sv (vs.take (i+1))=sv x+1000000000^(i+1)*sX:=fun z sX h=>by
   rw [bf,dY,tB];exact asK h aH
  rw [<-mZ] at key;by_cases eL:d-dm<0
  ·obtain ⟨q1,q2,q3,q4,q5⟩:=s1 eL;have kk:=key _ _ q5;obtain ⟨dr,iz⟩:∃dr,d-dm=dr:=⟨_,rfl⟩;rw [iz] at eL kk q1 q2
   simp only [go_sem,ya,ym,C4,H3,show (i:Int)<(n:Int) by omega,ev,wrap64 (n:=t*a) (by omega) (by omega),<-mZ,wrap64 (n:=pr) (by omega) (by omega),eF,wrapN (n:=pre.length+i) (by omega),cP 1 0 (show pre.length+i<M by omega),yh,ey,eP _ _ _ (show (1000000000:Int)≠0 by decide),eH _ _ _ (show (1000000000:Int)≠0 by decide),dZ,Cv,iz,wrap64 (n:=dr) (by omega) (by omega),wrap64 (n:=dq) (by omega) (by omega),eL,wrap64 (n:=dr+1000000000) (by omega) (by omega),wrap64 (n:=dq+1) (by omega) (by omega),aU,mN];refine ⟨_,k-1,rfl,by omega,i+1,dq+1,y.set i (dr+1000000000),?_,by omega,by simp [ly],PZ gy ⟨q1,q2⟩,⟨q3,q4⟩,kk⟩;rw [wrap64 (by omega) (by omega)];simp only [go_sem,ya,yd,aB,aO hw.pu,aV _ hw.pu]<;>rfl
  ·obtain ⟨q2,q3,q4,q5⟩:=s2 eL;have kk:=key _ _ q5;obtain ⟨dr,iz⟩:∃dr,d-dm=dr:=⟨_,rfl⟩;rw [iz] at eL kk q2
   simp only [go_sem,ya,ym,C4,H3,show (i:Int)<(n:Int) by omega,ev,wrap64 (n:=t*a) (by omega) (by omega),<-mZ,wrap64 (n:=pr) (by omega) (by omega),eF,wrapN (n:=pre.length+i) (by omega),cP 1 0 (show pre.length+i<M by omega),yh,ey,eP _ _ _ (show (1000000000:Int)≠0 by decide),eH _ _ _ (show (1000000000:Int)≠0 by decide),dZ,Cv,iz,wrap64 (n:=dr) (by omega) (by omega),wrap64 (n:=dq) (by omega) (by omega),eL,aU,mN];refine ⟨_,k-1,rfl,by omega,i+1,dq,y.set i dr,?_,by omega,by simp [ly],PZ gy ⟨by omega,q2⟩,⟨q3,q4⟩,kk⟩;rw [wrap64 (by omega) (by omega)];simp only [go_sem,ya,yd,aB,aO hw.pu,aV _ hw.pu]<;>rfl
 ·right
  have:i=n:=by omega
  subst this;rw [yQ (by omega)] at aH;simp only [go_sem,ya,C4,H3,show ¬(i:Int)<(i:Int) by omega];exact ⟨_,_,rfl,by simp,_,bo,y,rfl,rfl,by simp only [go_sem,ya],by simp only [go_sem,ya],by simp only [go_sem,ya],by simp only [go_sem,ya],by simp only [go_sem,ya],by simp only [go_sem,ya],by simp only [go_sem,ya],by simp only [go_sem,ya],ly,gy,iA,aH⟩
def asM {b p z v c c' x X Y S:Int} (h2:z+b*c'=x+v+c) (h3:Y+p*c=S+X):(Y+p*(z-x))+p*b*c'=S+(X+p*v):=by grind
def asN {w:AV} {y0 vs pre post qs:List Int} {f:Int} (hw:bn w vs) {n M m:Nat} (lv:vs.length=n) (hM:M=pre.length+(n+1)+post.length) (Jo:M<=50000000000) (gv:dg vs) {t top:Int}:
  ∀k s,(∃(i:Nat) (c:Int) (y:List Int),aQ [8,9,10,11,12,13,14,19,20] s=⟨[(8,.aE 0 0 1),(9,w),(10,ab n),(11,.aE 1 0 M),(12,.aE 2 0 m),(13,ab pre.length),(14,ab t),(19,ab c),(20,ab i)],H3 qs (pre++y++post) f,3,0⟩/\i+k=n/\y.length=n+1/\dg (y.take n)/\y.getD n 0=top/\(0<=c/\c<=1)/\
    sv y+1000000000^i*c=sv y0+sv (vs.take i))->
   ∃ex s',D P L (.loop [8,9,10,11,12,13,14,19,20] GM) s=some (ex,s')/\∃tm c y,s'=⟨tm,H3 qs (pre++y++post) f,3,0⟩/\ex= .exit 6/\aj tm 8= .aE 0 0 1/\aj tm 9=w/\aj tm 10=ab n/\aj tm 11= .aE 1 0 M/\aj tm 12= .aE 2 0 m/\aj tm 13=ab pre.length/\aj tm 14=ab t/\aj tm 19=ab c/\y.length=n+1/\dg (y.take n)/\y.getD n 0=top/\(0<=c/\c<=1)/\
    sv y+1000000000^n*c=sv y0+sv vs:=by
 intro dq sq;generalize bq:aQ [8,9,10,11,12,13,14,19,20] sq=s0;revert bq s0 sq dq;apply dh;rintro k s ⟨i,c,y,rfl,hk,ly,gy,mO,hc,aH⟩;by_cases hi:i<n
 ·left
  have pQ:=gA gv i;have oJ:=gA gy i;have e0:(y.take n).getD i 0=y.getD i 0:=by
   simp [xG,hi]
  rw [e0] at oJ;have ev:=pn hw (i:=i) (by omega);have ey:=qv (l:=pre++y++post) (o:=pre.length+i) (by rw [mE];omega);rw [zK (by omega)] at ey;have dY:=KI (l:=vs) i;obtain ⟨a,ha⟩:∃a,a=vs.getD i 0:=⟨_,rfl⟩;obtain ⟨d,hd⟩:∃d,d=y.getD i 0:=⟨_,rfl⟩;rw [<-ha] at pQ ev dY;rw [<-hd] at oJ ey;have eF:(i:Int)+(pre.length:Int)=((pre.length+i:Nat):Int):=by omega
  have bf:=fun z=>De (l:=y) (i:=i) (x:=z) (by omega)
  rw [<-hd] at bf;have kG:(d+a+c).tmod 1000000000=(d+a+c)%1000000000:=xz (by omega);have hdiv:(d+a+c).tdiv 1000000000=(d+a+c)/1000000000:=xE (by omega);obtain ⟨z,hz⟩:∃z,z=(d+a+c)%1000000000:=⟨_,rfl⟩;obtain ⟨c',mh⟩:∃z,z=(d+a+c)/1000000000:=⟨_,rfl⟩;have W5:z+1000000000*c'=d+a+c:=by omega
  rw [<-hz] at kG;rw [<-mh] at hdiv;have aU:=fun (hp:Hp) (ct:Nat)=>AN (hp:=hp) (ct:=ct) (id:=1) (v:=z) (ex:=false) (l:=pre++y++post) (o:=pre.length+i) (by rw [mE];omega)
  have mN:=KS (pre:=pre) (x:=y) (post:=post) (i:=i) z (by omega)
  simp only [go_sem,ya,ym,GM,H3,show (i:Int)<(n:Int) by omega,ev,eF,wrapN (n:=pre.length+i) (by omega),cP 1 0 (show pre.length+i<M by omega),yh,ey,wrap64 (n:=d+a) (by omega) (by omega),wrap64 (n:=d+a+c) (by omega) (by omega),eP _ _ _ (show (1000000000:Int)≠0 by decide),eH _ _ _ (show (1000000000:Int)≠0 by decide),kG,hdiv,wrap64 (n:=c') (by omega) (by omega),aU,mN];refine ⟨_,k-1,rfl,by omega,i+1,c',y.set i z,?_,by omega,by simp [ly],?_,by rw [afK (by omega)];exact mO,⟨by omega,by omega⟩,?_⟩
  ·rw [wrap64 (by omega) (by omega)];simp only [go_sem,ya,yd,aB,aO hw.pu,aV _ hw.pu]<;>rfl
  ·rw [yac];exact PZ gy ⟨by omega,by omega⟩
  ·rw [bf,dY,tB];exact asM W5 aH
 ·right
  have:i=n:=by omega
  subst this;rw [yQ (show vs.length<=i by omega)] at aH;simp only [go_sem,ya,GM,H3,show ¬(i:Int)<(i:Int) by omega];exact ⟨_,_,rfl,by simp,_,c,y,rfl,rfl,by simp only [go_sem,ya],by simp only [go_sem,ya],by simp only [go_sem,ya],by simp only [go_sem,ya],by simp only [go_sem,ya],by simp only [go_sem,ya],by simp only [go_sem,ya],by simp only [go_sem,ya],ly,gy,mO,hc,aH⟩
def asP {A V t:Nat} {y:List Int} {n:Nat} (hV:0<V) (ly:y.length=n+1) (gy:dg (y.take n)) (h:sv y=(A:Int)-t*V) (h1:A/V<=t) (h2:t<=A/V+1):
  (¬y.getD n 0<0->t=A/V/\sv y=((A%V:Nat):Int))/\(y.getD n 0<0->t=A/V+1/\sv y+V=((A%V:Nat):Int)):=by
 have dZ:=xF A V;have hm:=xu A hV;have dY:=KI (l:=y) n;rw [yQ (by omega),rZ gy] at dY;have Ir:=iY gy;have hp:(0:Int)<1000000000^n:=ycr (by decide);generalize y.getD n 0=top at*
 generalize A/V=Q at*
 have hq:t=Q\/t=Q+1:=by omega
 constructor
 ·intro h0;have h3:0<=(1000000000:Int)^n*top:=tj (uR hp) (by omega);rcases hq with rfl | rfl
  ·grind
  ·grind
 ·intro h0;have h3:(1000000000:Int)^n*top<=-(1000000000^n):=by
   have:=vQ (show top<=-1 by omega) (uR hp)
   grind
  rcases hq with rfl | rfl
  ·grind
  ·grind
def abk {y:List Int} {n:Nat} (ly:y.length=n+1) (gy:dg (y.take n)) (h0:0<=sv y) (h1:sv y<1000000000^n):y.getD n 0=0/\dg y/\sv y=dv y:=by
 have dY:=KI (l:=y) n;rw [yQ (by omega),rZ gy] at dY;have Ir:=iY gy;rw [yW,xA (by omega)] at Ir;have hp:(0:Int)<1000000000^n:=ycr (by decide);have nW:((1000000000^n:Nat):Int)=(1000000000:Int)^n:=by simp
 have aGo:(dv (y.take n):Int)<1000000000^n:=by omega
 have ht:y.getD n 0=0:=by
  generalize y.getD n 0=top at*
  rcases vU top 0 with h | h | h
  ·have:=vQ (show top<=-1 by omega) (uR hp)
   grind
  ·grind
  ·have:=vQ (show 1<=top by omega) (uR hp)
   grind
 have hg:dg y:=by
  have e:y=y.take n++[0]:=by
   have h1:y=y.take n++y.drop n:=(xR n y).symm;have h2:y.drop n=[0]:=by
    rw [yX (by omega),xk (by omega)]
    grind
   grind
  rw [e];exact fW.2 ⟨gy,iV.2 ⟨by decide,by decide⟩⟩
 exact ⟨ht,hg,rZ hg⟩
end
def asQ {l:List Int} {i:Nat} (h:i<l.length):dv (l.drop i)=(l.getD i 0).toNat+1000000000*dv (l.drop (i+1)):=by
 rw [yX h]
 have:l[i]=l.getD i 0:=by simp_all
 rw [this];rfl
def Pz (l:List Int) (i:Nat) (h:i<=l.length):dv l=dv (l.take i)+1000000000^i*dv (l.drop i):=by
 conv=>lhs;rw [<-xR i l]
 rw [kN,yW,xA h]
def asR {sx sy sV:Int} {p:Int} {bo t:Int} {yn z:Int} {szy:Int} (h1:sy+t*sV=sx+p*bo) (h2:szy=sy+p*(z-yn)) (h3:z=yn-bo):szy=sx-t*sV:=by grind
section
variable {P:aK} {L:Lib}
def asS (pD:Has P L 301 sh) {w:AV} {vs:List Int} {f:Int} (hw:bn w vs) (gv:dg vs) {n M m:Nat} (lv:vs.length=n) (cU:2<=n) (hnM:n<M) (Jo:M<=20000000000) (hm:m=M-n) (eC:0<vs.getD (n-1) 0) {U0:Nat}:
  ∀k st,(∃(j:Nat) (us qs:List Int),aQ [8,9,10,11,12,13] st=⟨[(8,.aE 0 0 1),(9,w),(10,ab n),(11,.aE 1 0 M),(12,.aE 2 0 m),(13,ab ((j:Int)-1))],H3 qs us f,3,0⟩/\j=k/\j<=m/\us.length=M/\qs.length=m/\dg us/\dg qs/\(∀i,i<j->qs.getD i 0=0)/\
    dv us+dv qs*dv vs=U0/\dv (us.drop j)<dv vs)->
   ∃ex st',D P L (.loop [8,9,10,11,12,13] GN) st=some (ex,st')/\∃tm us qs,st'=⟨tm,H3 qs us f,3,0⟩/\ex= .exit 2/\aj tm 8= .aE 0 0 1/\aj tm 10=ab n/\aj tm 11= .aE 1 0 M/\aj tm 12= .aE 2 0 m/\us.length=M/\qs.length=m/\dg us/\dg qs/\
    dv us+dv qs*dv vs=U0/\dv us<dv vs:=by
 intro dq sq;generalize bq:aQ [8,9,10,11,12,13] sq=s0;revert bq s0 sq dq;apply dh;rintro k st ⟨j,us,qs,rfl,rfl,hj,lu,lq,gu,gq,hz,aH,mO⟩
 cases j with
 | zero=>
  right
  simp only [go_sem,ya,GN,H3,show ¬(0:Int)<=((0:Nat):Int)-1 by omega];exact ⟨_,_,rfl,by simp,_,us,qs,rfl,rfl,by simp only [go_sem,ya],by simp only [go_sem,ya],by simp only [go_sem,ya],by simp only [go_sem,ya],lu,lq,gu,gq,aH,by simpa using mO⟩
 | succ j=>
  left
  obtain ⟨pre,eF⟩:∃p,p=us.take j:=⟨_,rfl⟩;obtain ⟨x,hx⟩:∃p,p=(us.drop j).take (n+1):=⟨_,rfl⟩;obtain ⟨post,fH⟩:∃p,p=us.drop (j+(n+1)):=⟨_,rfl⟩;have lp:pre.length=j:=by rw [eF,yW];omega
  have lx:x.length=n+1:=by rw [hx,yW,xK];omega
  have lpo:M=pre.length+(n+1)+post.length:=by rw [lp,fH,xK];omega
  have jn:us=pre++x++post:=by
   rw [eF,hx,fH,<-vN,xx,xR,xR]
  have gpo:dg post:=by
   have:=gu;rw [jn] at this;exact (fW.1 this).2
  have gpx:=by have:=gu;rw [jn] at this;exact (fW.1 this).1
  have gx:dg x:=(fW.1 gpx).2;have Wo:dg pre:=(fW.1 gpx).1;have hA:=asQ (l:=us) (i:=j) (by omega);have hgj:=gA gu j;have XY:us.drop j=x++post:=by rw [fH,hx,<-vN,xR]
  have sY:dv (us.drop j)=dv x+1000000000^(n+1)*dv post:=by rw [XY,kN,lx]
  have Jd:=iY gv;rw [lv] at Jd;have aG:dv (us.drop j)<1000000000*dv vs:=by omega
  have hp0:dv post=0:=by
   rcases xe (dv post) with e | e
   ·exact e
   ·have h1:=yS (1000000000^(n+1)) e;rw [ym,yZ] at h1;rw [yZ] at sY;omega
  rw [hp0,xp,yV] at sY;have Jq:=fun (l:List Int) (hl:dg l) (i:Nat)=>gA hl i
  obtain ⟨v1,eD⟩:∃v:Nat,vs.getD (n-1) 0=v:=⟨(vs.getD (n-1) 0).toNat,by have:=Jq vs gv (n-1);omega⟩;obtain ⟨v2,oH⟩:∃v:Nat,vs.getD (n-2) 0=v:=⟨(vs.getD (n-2) 0).toNat,by have:=Jq vs gv (n-2);omega⟩;obtain ⟨u0,AE⟩:∃v:Nat,x.getD n 0=v:=⟨(x.getD n 0).toNat,by have:=Jq x gx n;omega⟩;obtain ⟨u1,AF⟩:∃v:Nat,x.getD (n-1) 0=v:=⟨(x.getD (n-1) 0).toNat,by have:=Jq x gx (n-1);omega⟩;obtain ⟨u2,rm⟩:∃v:Nat,x.getD (n-2) 0=v:=⟨(x.getD (n-2) 0).toNat,by have:=Jq x gx (n-2);omega⟩;have hl:fD x vs n v1 v2 u0 u1 u2:=⟨cU,by omega,lx,lv,gx,gv,eD,oH,AE,AF,rm,by omega,by rw [<-sY];exact aG⟩
  have M2:=hl.digit;have pO:0<dv vs:=by omega
  have kG:=xu (dv x) pO;obtain ⟨t,e1,ht1,Xq,ht3⟩:=ayE (P:=P) (L:=L) pD hw hl (pre:=pre) (post:=post) (qs:=qs) (f:=f) (M:=M) (by omega) (by omega);rw [<-jn,lp] at e1;have X0:dv us=dv pre+1000000000^j*dv x:=by
   have:=Pz us j (by omega)
   rw [sY,<-eF] at this;exact this
  have Wp:∀y,dv (pre++y++post)=dv pre+1000000000^j*dv y:=fun y=>by
   rw [xx,kN,kN,hp0,xp,yV,lp]
  have ig:=aaj (b:=0) X0 aH;have rq:below 3 w:=oR hw.pu;have bf:=De (l:=qs) (i:=j) (x:=((dv x/dv vs:Nat):Int)) (by omega);have gq':dg (qs.set j ((dv x/dv vs:Nat):Int)):=KL gq ⟨tS _,uQ.2 M2⟩;rw [hz j (by omega),Int.sub_zero,rZ gq,rZ gq'] at bf;have bf:dv (qs.set j ((dv x/dv vs:Nat):Int))=dv qs+1000000000^j*(dv x/dv vs):=by
   have nW:((1000000000^j*(dv x/dv vs):Nat):Int)=(1000000000:Int)^j*((dv x/dv vs:Nat):Int):=by rw [wG];simp
   rw [<-nW] at bf;exact tJ (by rw [yaB,yaB,bf,ybl])
  have fin:∀(s':St) (x':List Int),aQ [8,9,10,11,12,13] s'=⟨[(8,.aE 0 0 1),(9,w),(10,ab n),(11,.aE 1 0 M),(12,.aE 2 0 m),(13,ab ((j:Int)-1))],H3 (qs.set j ((dv x/dv vs:Nat):Int)) (pre++x'++post) f,3,0⟩->x'.length=n+1->dg x'->sv x'=((dv x%dv vs:Nat):Int)->
    ∃(j':Nat) (us qs:List Int),aQ [8,9,10,11,12,13] s'=⟨[(8,.aE 0 0 1),(9,w),(10,ab n),(11,.aE 1 0 M),(12,.aE 2 0 m),(13,ab ((j':Int)-1))],H3 qs us f,3,0⟩/\j'=j/\j'<=m/\us.length=M/\qs.length=m/\dg us/\dg qs/\(∀i,i<j'->qs.getD i 0=0)/\dv us+dv qs*dv vs=U0/\dv (us.drop j')<dv vs:=fun s' x' hc XZ Oa Jg=>by
   have ajh:dv x'=dv x%dv vs:=by rw [rZ Oa] at Jg;exact tJ Jg
   refine ⟨j,_,_,hc,rfl,by omega,by rw [mE,XZ];omega,by simp [lq],fW.2 ⟨fW.2 ⟨Wo,Oa⟩,gpo⟩,gq',fun i hi=>by rw [afK (by omega)];exact hz i (by omega),?_,?_⟩
   ·rw [Wp,ajh,bf];exact ig
   ·rw [xx,List.drop_left' lp,kN,hp0,xp,yV,ajh];exact kG
  have aji:=fun (z:Int) (hp:Hp) (ct:Nat)=>AN (hp:=hp) (ct:=ct) (id:=2) (v:=z) (ex:=true) (l:=qs) (o:=j) (by omega)
  have svx:=rZ gx;have svv:=rZ gv;simp only [H3] at e1;simp only [go_sem,ya,GN,H3,show ((j+1:Nat):Int)-1=(j:Int) by omega,show (0:Int)<=(j:Int) by omega,agV,e1];generalize lH:D P L (.loop [8,9,10,11,12,13,14,15,16] C4) _=qq;obtain ⟨ex,s,rfl,tm,bo,y,rfl,rfl,t8,t9,t10,t11,t12,t13,t14,t15,ly,gy,iA,hv⟩:=b6 lH (asL (P:=P) (L:=L) (x:=x) (pre:=pre) (post:=post) (qs:=qs) (f:=f) (m:=m) (M:=M) hw lv lpo (by omega) gv (t:=t) (by omega) n) ⟨0,0,x,by
   rw [jn,lp]
   simp only [go_sem,ya,yd,aB,aO hw.pu,aV _ hw.pu]<;>rfl,by omega,lx,gx,by omega,by simp [sv]⟩
  rw [lp] at t13;have hyn:=gA gy n;have Ym:=qv (l:=pre++y++post) (o:=pre.length+n) (by rw [mE];omega);rw [zK (by omega),lp] at Ym;obtain ⟨z,Yn⟩:∃z,z=y.getD n 0-bo:=⟨_,rfl⟩;have Dq:=fun (hp:Hp) (ct:Nat)=>AN (hp:=hp) (ct:=ct) (id:=1) (v:=z) (ex:=false) (l:=pre++y++post) (o:=j+n) (by rw [mE];omega)
  have mN:=KS (pre:=pre) (x:=y) (post:=post) (i:=n) z (by omega);rw [lp] at mN;rw [mN] at Dq;have kH:=De (l:=y) (i:=n) (x:=z) (by omega);have Ly:=asR hv kH Yn;have AD:(y.set n z).length=n+1:=by simp [ly]
  have Ct:dg ((y.set n z).take n):=by
   have:(y.set n z).take n=y.take n:=by rw [yac,yab (by simp;omega)]
   rw [this];exact A7 gy n
  rw [svx,svv] at Ly;obtain ⟨s0,s1⟩:=asP pO AD Ct Ly Xq ht3;have eg:(y.set n z).getD n 0=z:=aow (by omega);rw [eg] at s0 s1;have Yo:=qv (l:=pre++y.set n z++post) (o:=pre.length+n) (by rw [mE];omega);rw [zK (by omega),lp,eg] at Yo;generalize y.set n z=y1 at*
  have hpn:((10^9:Int))=1000000000:=by decide
  by_cases eL:z<0
  ·obtain ⟨f1,f2⟩:=s1 eL
   simp only [go_sem,ya,yd,ym,aB,aO hw.pu,aV _ hw.pu,t8,t9,t10,t11,t12,t13,t14,t15,show (j:Int)+(n:Int)=((j+n:Nat):Int) from rfl,wrapN (n:=j+n) (by omega),cP 1 0 (show j+n<M by omega),yh,Ym,<-Yn,wrap64 (n:=z) (by omega) (by omega),Dq,Yo,eL];generalize B1:D P L (.loop [8,9,10,11,12,13,14,19,20] GM) _=XT;obtain ⟨ex,s,rfl,qP,c,y2,rfl,rfl,t8,t9,t10,t11,t12,t13,t14,t19,XV,N8,ag6,hc,cC⟩:=b6 B1 (asN (P:=P) (L:=L) (y0:=y1) (pre:=pre) (post:=post) (qs:=qs) (f:=f) (m:=m) (M:=M) (t:=(t:Int)-1) (top:=z) hw lv lpo (by omega) gv n) ⟨0,0,y1,by
    rw [lp,wrap64 (n:=(t:Int)-1) (by omega) (by omega)]
    simp only [go_sem,ya,yd,aB,aO hw.pu,aV _ hw.pu]<;>rfl,by omega,AD,Ct,eg,by omega,by simp [sv]⟩
   rw [lp] at t13;have ajj:=qv (l:=pre++y2++post) (o:=pre.length+n) (by rw [mE];omega);rw [zK (by omega),lp,ag6] at ajj;have M0:=fun (hp:Hp) (ct:Nat)=>AN (hp:=hp) (ct:=ct) (id:=1) (v:=z+c) (ex:=false) (l:=pre++y2++post) (o:=j+n) (by rw [mE];omega)
   have Lg:=KS (pre:=pre) (x:=y2) (post:=post) (i:=n) (z+c) (by omega);rw [lp] at Lg;rw [Lg] at M0;have sO:=De (l:=y2) (i:=n) (x:=z+c) (by omega);rw [ag6,show z+c-z=c by omega,cC,svv,f2] at sO;have Je:(y2.set n (z+c)).length=n+1:=by simp [XV]
   have N9:dg ((y2.set n (z+c)).take n):=by
    have:(y2.set n (z+c)).take n=y2.take n:=by rw [yac,yab (by simp;omega)]
    rw [this];exact N8
   have Yp:((dv x%dv vs:Nat):Int)<1000000000^n:=by
    have nW:((1000000000^n:Nat):Int)=(1000000000:Int)^n:=by simp
    rw [<-nW];omega
   obtain ⟨g1,g2,g3⟩:=abk Je N9 (by rw [sO];omega) (by rw [sO];exact Yp)
   generalize y2.set n (z+c)=y3 at*
   have ft:(t:Int)-1=((dv x/dv vs:Nat):Int):=by rw [f1];omega
   simp only [go_sem,ya,yd,ym,aB,aO hw.pu,aV _ hw.pu,t8,t9,t10,t11,t12,t13,t14,t19,show (j:Int)+(n:Int)=((j+n:Nat):Int) from rfl,wrapN (n:=j+n) (by omega),cP 1 0 (show j+n<M by omega),yh,ajj,wrap64 (n:=z+c) (by omega) (by omega),M0,cP 2 0 (show j<m by omega),aji];rw [ft];refine ⟨_,j,rfl,by omega,fin _ y3 ?_ Je g2 sO⟩;rw [wrap64 (by omega) (by omega)];simp only [go_sem,ya,yd,aB,aO hw.pu,aV _ hw.pu]<;>rfl
  ·obtain ⟨f1,f2⟩:=s0 eL;have Yp:((dv x%dv vs:Nat):Int)<1000000000^n:=by
    have nW:((1000000000^n:Nat):Int)=(1000000000:Int)^n:=by simp
    rw [<-nW];omega
   obtain ⟨g1,g2,g3⟩:=abk AD Ct (by rw [f2];omega) (by rw [f2];exact Yp)
   simp only [go_sem,ya,yd,ym,aB,aO hw.pu,aV _ hw.pu,t8,t9,t10,t11,t12,t13,t14,t15,show (j:Int)+(n:Int)=((j+n:Nat):Int) from rfl,wrapN (n:=j+n) (by omega),cP 1 0 (show j+n<M by omega),yh,Ym,<-Yn,wrap64 (n:=z) (by omega) (by omega),Dq,Yo,eL,cP 2 0 (show j<m by omega),aji];rw [f1];refine ⟨_,j,rfl,by omega,fin _ y1 ?_ AD g2 f2⟩;rw [wrap64 (by omega) (by omega)];simp only [go_sem,ya,yd,aB,aO hw.pu,aV _ hw.pu]<;>rfl
def awM (h:Has P L 292 sf) {n:Nat} (hn:n<1000000000):ai P L 292 [ab n,ab 9] (.str (gP 9 n)):=by
 have key:=kO (P:=P) (L:=L) (live:=[0,1,5]) (a:=mB)
  (I:=fun k st=>∃(m:Nat) (s:List Nat),st=⟨[(0,ab m),(1,ab 9),(5,.str s)],[],0,0⟩/\s.length+k=9/\m<10^k/\gP 9 n=gP k m++s)
  (Q:=fun ex st=>∃tm ct,st=⟨tm,[],ct,0⟩/\ex= .exit 0/\aj tm 5= .str (gP 9 n)) ?_
 ·unfold ai;rw [aF h];simp only [go_sem,sf];generalize hq:D P L (.loop [0,1,5] mB) _=q;obtain ⟨ex,st,rfl,tm,ct,rfl,rfl,h2⟩:=b6 hq (key 9) ⟨n,[],by simp only [go_sem,ya,aB]<;>rfl,rfl,by omega,by simp⟩
  simp only [go_sem,aB,h2]
 ·rintro k st ⟨m,s,rfl,hk,hm,hs⟩
  cases k with
  | zero=>
   right
   have pR:m=0:=by simpa using hm
   subst pR;simp only [go_sem,ya,mB,show ¬(0:Int)<((0:Nat):Int) by omega,show ¬((s.length:Nat):Int)<9 by omega];refine ⟨_,_,rfl,by simp,_,_,rfl,rfl,?_⟩;rw [hs];rfl
  | succ k=>
   left
   have hr:((m:Int)).tmod 10=((m%10:Nat):Int):=by rw [xz (by omega)];rfl
   have hq:((m:Int)).tdiv 10=((m/10:Nat):Int):=by rw [xE (by omega)];rfl
   have hd:=Zt (r:=m%10) (by omega);have IJ:m<10000000000:=yE hm (by simpa using yT (show 0<10 by decide) (show k+1<=10 by omega));have fin:∃s',D P L mB ⟨[(0,ab m),(1,ab 9),(5,.str s)],[],0,0⟩=some (.normal,s')/\aQ [0,1,5] s'=⟨[(0,ab (m/10:Nat)),(1,ab 9),(5,.str ([48+m%10]++s))],[],0,0⟩:=by
    by_cases hc:(0:Int)<m
    ·simp only [go_sem,ya,yd,mB,hc,eP _ _ _ (show (10:Int)≠0 by decide),eH _ _ _ (show (10:Int)≠0 by decide),hr,hq,wrapN (n:=m%10+1) (by omega),wrap64 (n:=((m/10:Nat):Int)) (by omega) (by omega),eb,df,show ((m%10:Nat):Int)+1=((m%10+1:Nat):Int) from rfl,hd,fN (a:=[48+m%10]) (b:=s) (by simp;omega)];exact ⟨_,rfl,by simp only [go_sem,ya,aB]⟩
    ·simp only [go_sem,ya,yd,mB,hc,show ((s.length:Nat):Int)<9 by omega,eP _ _ _ (show (10:Int)≠0 by decide),eH _ _ _ (show (10:Int)≠0 by decide),hr,hq,wrapN (n:=m%10+1) (by omega),wrap64 (n:=((m/10:Nat):Int)) (by omega) (by omega),eb,df,show ((m%10:Nat):Int)+1=((m%10+1:Nat):Int) from rfl,hd,fN (a:=[48+m%10]) (b:=s) (by simp;omega)];exact ⟨_,rfl,by simp only [go_sem,ya,aB]⟩
   obtain ⟨s',f1,f2⟩:=fin;exact ⟨s',k,f1,by omega,m/10,_,f2,by simp;omega,by rw [yZ] at hm;omega,by rw [hs];simp [gP]⟩
end
def last_pos {l:List Int} (hd:dg l) (hn:nz l) (h:0<l.length):0<l.getD (l.length-1) 0:=by
 rcases snoc l with rfl | ⟨m,a,rfl⟩
 ·grind
 ·have e:(m++[a]).getD ((m++[a]).length-1) 0=a:=by simp_all
  have ha:=iV.1 (fW.1 hd).2;by_cases h0:a=0
  ·subst h0
   have:=JZ m
   have e:=congrArg List.length hn;rw [FR] at e
   grind
  ·omega
section
variable {P:aK} {L:Lib}
def awN (mM:Has P L 292 sf) {neg:Bool} {w:AV} {l:List Int} (hw:bn w l) (hd:dg l) (hn:nz l) (hl:l.length<=20000000000):
  ∀k s,(∃(j:Nat) (t:List Nat),aQ [1,3,4] s=⟨[(1,.ptr 0 0),(3,.str t),(4,ab ((j:Int)-1))],[(0,.cells true true true 2 [.bool neg,w])],1,0⟩/\j=k/\j<l.length/\0<dv (l.drop j)/\t=ax (dv (l.drop j))/\t.length<=9*(l.length-j))->
   ∃ex s',D P L (.loop [1,3,4] GK) s=some (ex,s')/\∃tm,s'=⟨tm,[(0,.cells true true true 2 [.bool neg,w])],1,0⟩/\ex= .exit 0/\aj tm 1= .ptr 0 0/\aj tm 3= .str (ax (dv l))/\(ax (dv l)).length<=180000000000:=by
 intro dq sq;generalize bq:aQ [1,3,4] sq=s0;revert bq s0 sq dq;apply dh;rintro k s ⟨j,t,rfl,rfl,hj,mU,ht,Ye⟩
 cases j with
 | zero=>
  right
  rw [yu] at ht;simp only [go_sem,ya,GK,show ¬(0:Int)<=((0:Nat):Int)-1 by omega];exact ⟨_,_,rfl,by simp,_,rfl,rfl,by simp only [go_sem,ya],by rw [<-ht];simp only [go_sem,ya],by rw [<-ht];omega⟩
 | succ i=>
  left
  have hi:i<l.length:=by omega
  obtain ⟨x,hx⟩:∃x,x=l.getD i 0:=⟨_,rfl⟩;have e1:=pn hw hi;have gx:=gA hd i;rw [<-hx] at e1 gx;obtain ⟨m,rfl⟩:∃m:Nat,x=m:=⟨x.toNat,by omega⟩;have e2:=awM mM (n:=m) (by omega);unfold ai at e2;have hlp:=Pv 9 m;have iz:dv (l.drop i)=dv (l.drop (i+1))*10^9+m:=by
   have:l.drop i=(m:Int)::l.drop (i+1):=by
    rw [yX hi,hx];simp [xG,wx hi]
   rw [this];simp only [dv,wo];omega
  have aAr:ax (dv (l.drop i))=t++gP 9 m:=by
   rw [iz,Kg 9 _ m mU (by omega),ht]
  simp only [go_sem,ya,GK,show ((i+1:Nat):Int)-1=(i:Int) by omega,show (0:Int)<=(i:Int) by omega,bI,yh,cx,e1,e2,fN (a:=t) (b:=gP 9 m) (by omega)];refine ⟨_,i,rfl,by omega,i,t++gP 9 m,?_,rfl,by omega,by omega,aAr.symm,by simp;omega⟩;rw [wrap64 (by omega) (by omega)];simp only [go_sem,ya,yd,aB]<;>rfl
def Nh (h:Has P L 282 HJ) (mM:Has P L 292 sf) {v:AV} {n:Int} {K:Nat} (hK:K<=18000000000) (hv:gW v n) (hn:n.natAbs<1000000000^K):ai P L 282 [v] (.str (aW n))/\(aW n).length<=180000000001:=by
 obtain ⟨w,l,rfl,hw,hd,hz,oK⟩:=hv;have hl:=xb (gB hd hz (by rw [oK];exact hn)) hK
 by_cases h0:l=[]
 ·subst h0;have qY:n=0:=by simp [dv] at oK;omega
  subst qY;refine ⟨?_,by decide⟩;unfold ai;rw [aF h];simp only [go_sem,ya,yd,HJ,aY,hw.len,hw.pu,hw.one,bI,yh,cx,yR,show ((0:Nat):Int)=(0:Int) from rfl,yo];rfl
 ·have mU:0<l.length:=uv.2 h0;obtain ⟨x,hx⟩:∃x,x=l.getD (l.length-1) 0:=⟨_,rfl⟩;have e1:=pn hw (show l.length-1<l.length by omega);have gx:=gA hd (l.length-1);have gp:=last_pos hd hz mU;rw [<-hx] at e1 gx gp;obtain ⟨m,rfl⟩:∃m:Nat,x=m:=⟨x.toNat,by omega⟩;have e2:=Wi mM (n:=m) (by omega);have iz:dv (l.drop (l.length-1))=m:=by
   rw [yX (show l.length-1<l.length by omega),xk (by omega)]
   have:l[l.length-1]=(m:Int):=by rw [hx];simp [xG,wx (show l.length-1<l.length by omega)]
   simp [dv,this]
  have h9:(ax m).length<=9:=oV (k:=8) (by omega);have fin:∀neg:Bool,bG P L (D P L) 282 [.agg [.bool neg,w]]=some (.str ((if neg=true then [45] else [])++ax (dv l)))/\(ax (dv l)).length<=180000000000:=fun neg=>by
   rw [aF h]
   simp only [go_sem,ya,yd,HJ,aY,hw.len,hw.pu,hw.one,bI,yh,cx,show ¬(l.length:Int)=0 by omega,show (l.length:Int)-1=((l.length-1:Nat):Int) by omega,wrapN (n:=l.length-1) (by omega),e1,e2];generalize hq:D P L (.loop [1,3,4] GK) _=q;obtain ⟨ex,s,rfl,tm,rfl,rfl,t1,t3,hlen⟩:=b6 hq (awN (P:=P) (L:=L) mM (neg:=neg) hw hd hz (by omega) (l.length-1)) ⟨l.length-1,ax m,by
    rw [show (l.length:Int)-2=((l.length-1:Nat):Int)-1 by omega,wrap64 (by omega) (by omega)]
    simp only [go_sem,ya,yd,aB]<;>rfl,rfl,by omega,by rw [iz];omega,by rw [iz],by omega⟩
   refine ⟨?_,hlen⟩
   cases neg with
   | true=>
    simp only [go_sem,ya,aB,t1,t3,bI,yh,fN (a:=[45]) (b:=ax (dv l)) (by simp;omega),xO]
   | false=>
    simp only [go_sem,ya,aB,t1,t3,bI,yh];rfl
  obtain ⟨f1,f2⟩:=fin (decide (n<0));rw [oK] at f1 f2;simp only [tY] at f1;rw [mq] at f1;refine ⟨f1,?_⟩;rw [<-mq]
  split<;>simp<;>omega
structure Rb (P:aK) (L:Lib):Prop where
 aAs:Has P L 262 HC
 ss:Has P L 272 HI
 ajk:Has P L 274 LP
 ajl:Has P L 275 LQ
 aAt:Has P L 277 BO
 aAu:Has P L 280 mH
 ajm:Has P L 281 LS
 Ni:Has P L 282 HJ
 ajn:Has P L 288 LW
 Is:Has P L 289 qC
 su:Has P L 290 DA
 Wj:Has P L 291 HM
 mM:Has P L 292 sf
 jN:Has P L 293 zX
 gk:Has P L 294 zY
 Nf:Has P L 295 HN
 mT:Has P L 296 qD
 ajo:Has P L 298 LX
 od:Has P L 299 zZ
 cp:Has P L 300 kC
 lC:Has P L 302 qF
structure Ras (P:aK) (L:Lib):Prop extends Rb P L where
 ajp:Has P L 264 HE
 aAv:Has P L 268 HG
 aAw:Has P L 271 RE
 aAx:Has P L 276 nZ
 It:Has P L 278 LR
 aAy:Has P L 279 Dz
 Ng:Has P L 297 HO
structure Ra (P:aK) (L:Lib):Prop extends Ras P L where
 ajq:Has P L 267 HF
def asT {v w:AV} {a vs:List Int} {f:Int} (hv:bn v a) (hw:bn w vs) {n:Nat} (la:a.length<=9000000000) {A:Nat}:
  ∀k st,(∃us:List Int,aQ [0,8,9,10,11] st=⟨[(0,v),(8,.aE 0 0 1),(9,w),(10,ab n),(11,.aE 1 0 us.length)],[(1,.cells true true false 1 (us.map ab)),(0,.cells false true true 1 [ab f])],2,0⟩/\us.length+k=a.length+1/\dg us/\dv us=A)->
   ∃ex st',D P L (.loop [0,8,9,10,11] GL) st=some (ex,st')/\∃tm us,st'=⟨tm,[(1,.cells true true false 1 (us.map ab)),(0,.cells false true true 1 [ab f])],2,0⟩/\ex= .exit 0/\aj tm 8= .aE 0 0 1/\aj tm 9=w/\aj tm 10=ab n/\aj tm 11= .aE 1 0 (a.length+1)/\us.length=a.length+1/\dg us/\dv us=A:=by
 intro dq sq;generalize bq:aQ [0,8,9,10,11] sq=s0;revert bq s0 sq dq;apply dh;rintro k st ⟨us,rfl,hk,gu,aH⟩;have ea:((a.length:Nat):Int)+1=((a.length+1:Nat):Int):=rfl;by_cases hi:us.length<a.length+1
 ·left
  simp only [go_sem,ya,yd,yA,ym,GL,hv.len,ea,wrapN (n:=a.length+1) (by omega),show ((us.length:Nat):Int)<((a.length+1:Nat):Int) by omega]
  rw [jX (ex:=false) (pu:=true) (cs:=us.map ab) (by simp only [go_sem,ya]) (by simp) (by omega) (by omega) (by decide) (by simp only [go_sem])];refine ⟨_,k-1,rfl,by omega,us++[0],?_,by simp;omega,fW.2 ⟨gu,iV.2 (by decide)⟩,by rw [kN];simp [dv,aH]⟩;rw [xI,y5];simp only [go_sem,ya,yd,aB,aO hv.pu,aV _ hv.pu,aO hw.pu,aV _ hw.pu]<;>rfl
 ·right
  have hl:us.length=a.length+1:=by omega
  rw [hl]
  simp only [go_sem,ya,GL,hv.len,ea,wrapN (n:=a.length+1) (by omega),show ¬((a.length+1:Nat):Int)<((a.length+1:Nat):Int) by omega];exact ⟨_,_,rfl,by simp,_,us,rfl,rfl,by simp only [go_sem,ya],by simp only [go_sem,ya],by simp only [go_sem,ya],by simp only [go_sem,ya],hl,gu,aH⟩
end
def afL:∀l:List Int,cF (l.map ab)=true
 | []=>rfl
 | a::r=>by rw [xi,aae,afL r];rfl
def afM:∀l:List Int,aI (l.map ab)=true
 | []=>rfl
 | a::r=>by rw [xi,aI,afM r];rfl
def asU {hp:Hp} {ct:Nat} {e:Bool} {us:List Int} {o:Obj} (h:us.length<=100000000000):
  BW ((1,.cells true true true 1 [])::(0,o)::hp) ct 1 8 (.aE 1 0 0) (kS ((1,.cells true true true 1 [])::(0,o)::hp) 1 (.aC e us.length (us.map ab)))=some (.aE ct 0 us.length,(ct,.cells true true false 1 (us.map ab))::dX ((1,.cells true true true 1 [])::(0,o)::hp) 1,ct+1):=by
 have h1:kS ((1,.cells true true true 1 [])::(0,o)::hp) 1 (.aC e us.length (us.map ab))=some (us.length,us.map ab):=by
  simp [kS]
 rw [h1,jX (cs:=[]) (pu:=true) (ex:=true) rfl (by simp) (by omega) (by omega) (by decide) (afL us),afM,yh];rfl
def awO {l:List Int} (hd:dg l) (hn:nz l) (h:0<l.length):1000000000^(l.length-1)<=dv l:=K9 hn hd (fun e=>by subst e;simp at h)
def aqD {n top f V:Nat} (hf:f=1000000000/(top+1)) (Yl:0<top) (ht:top<1000000000) (h1:V<1000000000^(n-1)*(top+1)) (hn:0<n):0<f/\f<1000000000/\V*f<1000000000^n:=by
 have h2:f*(top+1)<=1000000000:=by rw [hf];exact Nat.div_mul_le_self _ _
 have h3:0<f:=by rw [hf];exact yco (by omega) (by omega)
 refine ⟨h3,?_,?_⟩
 ·have:=yS f (show 2<=top+1 by omega)
  omega
 ·have e1:=xQ h1 h3;have e2:=yS (1000000000^(n-1)) h2;rw [<-yZ,show (n-1).succ=n by omega] at e2
  grind
section
variable {P:aK} {L:Lib}
def awP (h:Has P L 289 qC) (jN:Has P L 293 zX) (od:Has P L 299 zZ) (cp:Has P L 300 kC) (pD:Has P L 301 sh) {v w:AV} {a b:List Int} (hv:bn v a) (hw:bn w b) (ha:dg a) (hb:dg b) (na:nz a) (nb:nz b) (la:a.length<=8000000000) (lb:2<=b.length) (ec:ai P L 296 [v,w] (ab (dA (dv a) (dv b)))) (hc:dv b<=dv a):
  ∃q r lq lr,ai P L 289 [v,w] (.aa [q,r])/\bn q lq/\bn r lr/\dg lq/\nz lq/\dg lr/\nz lr/\dv lq=dv a/dv b/\dv lr=dv a%dv b:=by
 have dP:¬dA (dv a) (dv b)<0:=by unfold dA;rw [yv (by omega)];split<;>decide
 have ayF:=awO hb nb (by omega);have hba:b.length<=a.length:=by
  have:=iY ha
  have h1:1000000000^(b.length-1)<1000000000^a.length:=by omega
  have:=(uy (show 1<1000000000 by decide)).1 h1
  omega
 obtain ⟨n,hn⟩:∃n,n=b.length:=⟨_,rfl⟩;have aAz:=gA hb (n-1);have mF:=last_pos hb nb (by omega);rw [<-hn] at mF;obtain ⟨top,mO⟩:∃v:Nat,b.getD (n-1) 0=v:=⟨(b.getD (n-1) 0).toNat,by omega⟩;have ajr:=pn hw (i:=n-1) (by omega);rw [mO] at aAz mF ajr;have hbt:=nL (l:=b) (n-1);rw [show n-1+1=n by omega,yQ (by omega),mO,wo] at hbt;have ayG:=iY (A7 hb (n-1));rw [yW,xA (by omega)] at ayG;obtain ⟨f,hf⟩:∃f,f=1000000000/(top+1):=⟨_,rfl⟩;obtain ⟨CA,hfB,hfV⟩:=aqD (n:=n) (V:=dv b) hf (by omega) (by omega) (by rw [xr,ym];omega) (by omega);have hIf:bn (.aC true 1 [ab f]) [(f:Int)]:=lM true [(f:Int)];have gf:dg [(f:Int)]:=iV.2 (by omega);have vf:dv [(f:Int)]=f:=by simp [dv]
 obtain ⟨v',vs,e1,ek,hsv,Cu,Jh,ru⟩:=WO jN cp hw hIf hb gf (by omega) (by simp);obtain ⟨u',AO,e2,iD,Cr,EB,nus,Jr⟩:=WO jN cp hv hIf ha gf (by omega) (by simp);rw [vf] at ru Jr;have pO:0<dv b:=by have:=yal (n:=b.length-1) (show 0<1000000000 by decide);omega
 have sZ:vs.length=n:=by
  have h1:vs.length<=n:=gB Cu Jh (by rw [ru];exact hfV)
  have h2:dv b<=dv vs:=by rw [ru];exact uE _ CA
  have h3:=iY Cu;have h4:1000000000^(n-1)<1000000000^vs.length:=by rw [hn];omega
  have:=(uy (show 1<1000000000 by decide)).1 h4
  omega
 have Ob:AO.length<=a.length+1:=by
  refine gB EB nus ?_;rw [Jr,yZ];exact tn (iY ha) hfB
 have ajs:0<AO.length:=by
  rcases xe AO.length with e | e
  ·have h1:0<dv a*f:=wY (by omega) CA;rw [yD e] at Jr;simp only [dv] at Jr;omega
  ·exact e
 have eC:0<vs.getD (n-1) 0:=by
  have:=last_pos Cu Jh (by omega)
  rwa [sZ] at this
 obtain ⟨m,hm⟩:∃m,m=a.length+1-n:=⟨_,rfl⟩;have cu:∀ct:Nat,Ac ct 1 8 [.int .i64 0] (some m) (some m)=some (.aE ct 0 m,.cells true true true 1 ((yL m (0:Int)).map ab)):=fun ct=>by
  rw [KN (sz:=1) (by omega) (by omega) (by rfl) (by rfl),OO];rfl
 obtain ⟨e,rfl⟩:∃e,u'= .aC e AO.length (AO.map ab):=by
  rcases iD with ⟨rfl,h0⟩ | ⟨e,rfl⟩
  ·rw [List.map_eq_nil_iff] at h0;rw [h0] at ajs;simp at ajs
  ·exact ⟨e,by rw [xt]⟩
 have QR:∀us:List Int,us.length=a.length+1->dv us=dv a*f->dv (us.drop m)<dv vs:=fun us hl hd=>by
  have e1:=Pz us m (by omega);have e2:=iY ha;have e3:=xQ e2 CA;have e4:1000000000^a.length=1000000000^m*1000000000^(n-1):=by rw [<-xn];congr 1;omega
  rw [<-hd,e4,xd] at e3;have e5:1000000000^m*dv (us.drop m)<1000000000^m*(1000000000^(n-1)*f):=by omega
  refine yE (Nat.lt_of_mul_lt_mul_left e5) ?_;rw [ru,hn];exact yU _ ayF
 have ij:∃us qs,(us.length=a.length+1/\qs.length=m/\dg us/\dg qs/\dv us+dv qs*dv vs=dv a*f/\dv us<dv vs)/\
   ∃q1 r1 lr,bn q1 (dD qs)/\bn r1 lr/\dg lr/\nz lr/\dv lr=dv (us.take n)/f/\ai P L 289 [v,w] (.aa [q1,r1]):=by
  unfold ai at ec e1 e2;unfold ai;rw [aF h];have Ik:IntKind.wrap .i64 ((1000000000:Int).tdiv ((top+1:Nat):Int))=(f:Int):=by
   rw [xE (by decide),show (1000000000:Int)/((top+1:Nat):Int)=((1000000000/(top+1):Nat):Int) from rfl,<-hf,wrap64 (by omega) (by omega)]
  simp only [go_sem,ya,yd,yI,yA,ym,qC,hv.an,hw.len,hw.an,ec,dP,show ¬(n:Int)=1 by omega,<-hn,show (n:Int)-1=((n-1:Nat):Int) by omega,wrapN (n:=n-1) (by omega),ajr,show ((top:Nat):Int)+1=((top+1:Nat):Int) from rfl,wrapN (n:=top+1) (by omega),eH _ _ _ (show ((top+1:Nat):Int)≠0 by omega),Ik,e1,hsv,ek.len,sZ,e2,Cr,asU (us:=AO) (e:=e) (by omega)];generalize bq:D P L (.loop [0,8,9,10,11] GL) _=q0;obtain ⟨ex,st,rfl,tm,us,rfl,rfl,t8,t9,t10,t11,lu,gu,vu⟩:=b6 bq (asT (P:=P) (L:=L) (f:=(f:Int)) (n:=n) (A:=dv a*f) hv ek (by omega) (a.length+1-AO.length)) ⟨AO,by
   simp only [go_sem,ya,yd,aB,aO hv.pu,aV _ hv.pu,aO ek.pu,aV _ ek.pu]<;>rfl,by omega,EB,Jr⟩
  have em:((a.length+1:Nat):Int)-(n:Int)=(m:Int):=by omega
  have em1:(m:Int)-1=((m-1:Nat):Int):=by omega
  simp only [go_sem,ya,yd,aB,aO ek.pu,aV _ ek.pu,t8,t9,t10,t11,em,wrapN (n:=m) (by omega),cu,em1,wrapN (n:=m-1) (by omega)];generalize eZ:D P L (.loop [8,9,10,11,12,13] GN) _=q1;obtain ⟨ex,st,rfl,qP,AP,qs,rfl,rfl,t8,t10,t11,t12,lu1,Jl,gu1,gq1,aH,aG⟩:=b6 eZ (asS (P:=P) (L:=L) pD (f:=(f:Int)) ek Cu sZ (by omega) (show n<a.length+1 by omega) (by omega) (by omega) eC (U0:=dv a*f) m) ⟨m,us,yL m 0,by
   rw [show ((m-1:Nat):Int)=(m:Int)-1 by omega]
   simp only [go_sem,ya,yd,aB,aO ek.pu,aV _ ek.pu]<;>rfl,rfl,yB _,lu,by simp,gu,aa0 m,fun i _=>ZC m i,by rw [aaZ,wh,yV,vu],QR us lu vu⟩
  have kF:∀(hp:Hp) tm (y:X),aA hp 1=some (.cells true true false 1 (AP.map ab))->cM tm (a.length+1) (some y)=some n->eV hp (.sl 1) (.aE 1 0 (a.length+1)) tm none (some y)=some (.aE 1 0 n):=fun hp tm y h1 h2=>aa9 h1 h2 (by omega) (by omega)
  obtain ⟨e',Jj⟩:∃e',∀hp:Hp,kE 0 n (some (false,1,AP.map ab,hp))=some (.aC e' n ((AP.take n).map ab),hp):=by
   refine ⟨false&&yK 0 1&&yq n (AP.map ab).length,fun hp=>?_⟩;simp only [kE,yh,ym,slice,yu,<-List.map_take];rw [yt (by simp;omega)];rfl
  have ltk:(AP.take n).length=n:=by rw [yW];omega
  have iB:=lM e' (AP.take n);rw [ltk] at iB;obtain ⟨r0,f1,kK,aAA⟩:=Ad cp iB (by omega);obtain ⟨r1,lr,f2,dK,aGG,ayH,dr,nr,vr⟩:=ajg od cp kK (zn (A7 gu1 n)) (by have:=JZ (AP.take n);omega) CA hfB;have Ji:=lM true qs;rw [Jl] at Ji;obtain ⟨q1,f3,eZ,aAB⟩:=Ad cp Ji (by omega);rw [rF] at vr;unfold ai at f1 f2 f3;refine ⟨AP,qs,⟨lu1,Jl,gu1,gq1,aH,aG⟩,q1,r1,lr,eZ,dK,dr,nr,vr,?_⟩;have nl:j8 1 0 (AV.aE 0 0 1)=some (.ptr 0 0):=cP 0 0 (show 0<1 by omega)
  simp only [go_sem,ya,yd,aB,t8,t10,t11,t12,kF,df,Jj,f1,aAA,kK.an,nl,f2,ayH,fun hp=>rG (hp:=hp) (k:=m) (sz:=1) (cs:=qs.map ab) true (by simp [Jl]) (by decide),f3,aAB];rcases eZ with ⟨rfl,_⟩ | ⟨_,rfl⟩<;>rcases dK with ⟨rfl,_⟩ | ⟨_,rfl⟩<;>rfl
 obtain ⟨us,qs,⟨lu,lq,gu,gq,aH,aG⟩,q1,r1,lr,eZ,dK,dr,nr,vr,e⟩:=ij;rw [ru] at aH aG;have Ik:dv qs=dv a/dv b:=by
  rw [<-Nat.mul_div_mul_right _ _ CA,<-aH,ybj,xg,tx (wY pO CA),xD aG,yV]
 have Od:dv us=(dv a%dv b)*f:=by
  rw [<-Nat.mul_mod_mul_right,<-aH,ybj,xg (dv qs),yat,yF aG]
 have jn:=Pz us n (by omega);have fU:dv (us.drop n)=0:=by
  rcases xe (dv (us.drop n)) with h0 | h0
  ·exact h0
  ·have:=yS (1000000000^n) h0
   omega
 rw [fU,xp,yV] at jn;rw [<-jn,Od,uh _ CA] at vr;exact ⟨q1,r1,_,lr,e,eZ,dK,zn gq,CV _,dr,nr,by rw [rF,Ik],vr⟩
def ag7 (h:Has P L 289 qC) (jN:Has P L 293 zX) (mT:Has P L 296 qD) (od:Has P L 299 zZ) (cp:Has P L 300 kC) (pD:Has P L 301 sh) {v w:AV} {a b:List Int} (hv:bn v a) (hw:bn w b) (ha:dg a) (hb:dg b) (na:nz a) (nb:nz b) (la:a.length<=8000000000) (lb:b.length<=8000000000) (h0:0<dv b):
  ∃q r lq lr,ai P L 289 [v,w] (.aa [q,r])/\bn q lq/\bn r lr/\dg lq/\nz lq/\dg lr/\nz lr/\dv lq=dv a/dv b/\dv lr=dv a%dv b:=by
 by_cases hl:b.length<=1
 ·exact aAl h mT od cp hv hw ha hb na nb (by omega) hl h0
 have ec:=WM mT hv hw ha hb na nb (by omega) (by omega);by_cases hc:dv a<dv b
 ·unfold ai at ec;have dP:dA (dv a) (dv b)= -1:=by unfold dA;rw [yG hc]
  rw [dP] at ec;refine ⟨.ae,v,[],a,?_,zt,hv,rfl,rfl,ha,na,?_,?_⟩
  ·unfold ai;rw [aF h];simp only [go_sem,ya,qC,hv.an,hw.an,ec,show (-1:Int)<0 by decide];rcases hv with ⟨rfl,_⟩ | ⟨e,rfl⟩<;>rfl
  ·rw [xD hc];rfl
  ·rw [yF hc]
 ·exact awP h jN od cp pD hv hw ha hb na nb la (by omega) ec (by omega)
def ag8 (h:Has P L 275 LQ) (Is:Has P L 289 qC) (jN:Has P L 293 zX) (mT:Has P L 296 qD) (od:Has P L 299 zZ) (cp:Has P L 300 kC) (pD:Has P L 301 sh) {v w:AV} {a b:List Int} (hv:bn v a) (hw:bn w b) (ha:dg a) (hb:dg b) (na:nz a) (nb:nz b) (la:a.length<=8000000000) (lb:b.length<=8000000000):
  ∃r l,ai P L 275 [v,w] r/\bn r l/\dg l/\nz l/\dv l=wm (dv a) (dv b):=by
 have key:=kO (P:=P) (L:=L) (live:=[0,1]) (a:=GJ)
  (I:=fun k st=>∃x y lx ly,st=⟨[(0,x),(1,y)],[],0,0⟩/\bn x lx/\bn y ly/\dg lx/\nz lx/\dg ly/\nz ly/\lx.length<=8000000000/\ly.length<=8000000000/\dv ly=k/\wm (dv lx) (dv ly)=wm (dv a) (dv b))
  (Q:=fun ex st=>∃tm ct,st=⟨tm,[],ct,0⟩/\ex= .exit 0/\∃x lx,aj tm 0=x/\bn x lx/\dg lx/\nz lx/\dv lx=wm (dv a) (dv b)) ?_
 ·unfold ai;rw [aF h];simp only [go_sem,LQ];generalize hq:D P L (.loop [0,1] GJ) _=q;obtain ⟨ex,st,rfl,tm,ct,rfl,rfl,x,lx,h2,hx,dx,nx,vx⟩:=b6 hq (key (dv b)) ⟨v,w,a,b,by simp only [go_sem,ya,aB,aO hv.pu,aV _ hv.pu,aO hw.pu,aV _ hw.pu]<;>rfl,hv,hw,ha,na,hb,nb,la,lb,rfl,rfl⟩
  refine ⟨x,lx,?_,hx,dx,nx,vx⟩;simp only [go_sem,aB,h2,hx.cZ,aO hx.pu,aV _ hx.pu]
 ·rintro k st ⟨x,y,lx,ly,rfl,hx,hy,dx,nx,dy,ny,llx,lly,rfl,hg⟩;by_cases h0:ly=[]
  ·right
   subst h0;simp only [go_sem,ya,GJ,hy.len,yR,show ¬(0:Int)<((0:Nat):Int) by omega];refine ⟨_,_,rfl,by simp,_,_,rfl,rfl,x,lx,by simp only [go_sem,ya],hx,dx,nx,?_⟩;rw [<-hg];simp [dv]
  ·left
   have hp:0<dv ly:=by
    rcases xe (dv ly) with e | e
    ·exact absurd (PK ny dy e) h0
    ·exact e
   have hl:0<ly.length:=uv.2 h0;obtain ⟨q,r,lq,lr,e1,hq,hr,dq,nq,dr,nr,vq,vr⟩:=ag7 Is jN mT od cp pD hx hy dx dy nx ny llx lly hp;have aG:dv lr<dv ly:=by rw [vr];exact xu _ hp
   have hB:=iY dy;simp only [go_sem,ya,GJ,hx.an,hy.len,hy.an,show (0:Int)<ly.length by omega,e1,hq.bR,hr.bR];refine ⟨_,dv lr,rfl,aG,y,r,ly,lr,?_,hy,hr,dy,ny,dr,nr,by omega,xb (gB dr nr (vc aG hB)) lly,rfl,?_⟩
   ·simp only [go_sem,ya,aB,aO hy.pu,aV _ hy.pu,aO hr.pu,aV _ hr.pu]<;>rfl
   ·rw [<-hg,vr,tr (dv ly),<-Nat.gcd_rec,tr]
def awQ (su:Has P L 290 DA) {neg:Bool} {N:Nat} (hN:(ax N).length<=180000000000):
  ∀k s,(∃(i m:Nat) (out:List Int),m=k/\out.length=i/\dg out/\dv out+1000000000^i*m=N/\(ax m).length+9*i<=180000000000/\
    ((i=0/\aQ [0,2,3,4] s=⟨[(0,.str (ax m)),(2,.ptr 0 0),(3,.bool neg),(4,.ae)],[(0,.cells true true true 2 [.bool false,.ae])],1,0⟩)\/
    (0<i/\aQ [0,2,3,4] s=⟨[(0,.str (ax m)),(2,.ptr 0 0),(3,.bool neg),(4,.aE 1 0 i)],[(1,.cells true true false 1 (out.map ab)),(0,.cells true true true 2 [.bool false,.ae])],2,0⟩)))->
   ∃ex s',D P L (.loop [0,2,3,4] rP) s=some (ex,s')/\∃tm i m out,ex= .exit 0/\m<1000000000/\out.length=i/\dg out/\dv out+1000000000^i*m=N/\i<20000000000/\aj tm 0= .str (ax m)/\aj tm 2= .ptr 0 0/\aj tm 3= .bool neg/\
    ((i=0/\aj tm 4= .ae/\s'=⟨tm,[(0,.cells true true true 2 [.bool false,.ae])],1,0⟩)\/(0<i/\aj tm 4= .aE 1 0 i/\s'=⟨tm,[(1,.cells true true false 1 (out.map ab)),(0,.cells true true true 2 [.bool false,.ae])],2,0⟩)):=by
 intro dq sq;generalize bq:aQ [0,2,3,4] sq=s0;revert bq s0 sq dq;apply dh;rintro k s ⟨i,m,out,rfl,hlen,hd,aH,hl,hs⟩;by_cases hm:1000000000<=m
 ·left
  obtain ⟨q,hq⟩:∃q,q=m/1000000000:=⟨_,rfl⟩;obtain ⟨r,hr⟩:∃r,r=m%1000000000:=⟨_,rfl⟩;have kF:=aqi hm;rw [<-hq,<-hr] at kF;have lZ:=Pv 9 r;have hqp:=zu q;have hlm:(ax m).length=(ax q).length+9:=by rw [kF,y5,lZ]
  have c1:gF (ax m) (some (ax q).length) (some (ax m).length)=some (.str (gP 9 r)):=by
   rw [jY (by omega) (yB _),xH,kF,th]
  have c2:gF (ax m) (some 0) (some (ax q).length)=some (.str (ax q)):=by
   rw [jY (by omega) (by omega),yu,kF,tg]
  have e1:=Ie su (s:=gP 9 r) (v:=r) (by omega) (by rw [aa7 9 r 0 (by omega)];simp)
  unfold ai at e1;have pC:dg (out++[(r:Int)]):=fW.2 ⟨hd,iV.2 (by omega)⟩;have Lk:dv (out++[(r:Int)])+1000000000^(i+1)*q=N:=by
   rw [kN,hlen,<-aH,yZ];have e:=vH m 1000000000;rw [<-hr,<-hq] at e;rw [<-e];simp only [dv,wo,xp,yV,xr,xd];omega
  have Lt:((ax m).length:Int)-9=((ax q).length:Int):=by omega
  rcases hs with ⟨h0,rfl⟩ | ⟨h0,rfl⟩
  ·subst h0;have ik:out=[]:=yD hlen;subst ik
   simp only [go_sem,ya,yd,xN,yI,yA,ym,rP,show (9:Int)<((ax m).length:Int) by omega,Lt,wrapN (n:=(ax q).length) (by omega),eb,eE,df,c1,c2,e1,kP];refine ⟨_,q,rfl,by omega,1,q,[]++[(r:Int)],rfl,rfl,pC,Lk,by omega,.inr ⟨by omega,?_⟩⟩;rfl
  ·simp only [go_sem,ya,yd,yA,ym,rP,show (9:Int)<((ax m).length:Int) by omega,Lt,wrapN (n:=(ax q).length) (by omega),eb,eE,df,c1,e1]
   rw [jX (ex:=false) (pu:=true) (cs:=out.map ab) (by simp only [go_sem,ya]) (by rw [xt,hlen,ym]) (by omega) (by omega) (by decide) (by simp only [go_sem])]
   simp only [go_sem,ya,yd,eb,eE,df,Lt,wrapN (n:=(ax q).length) (by omega),c2];refine ⟨_,q,rfl,by omega,i+1,q,out++[(r:Int)],rfl,by simp [hlen],pC,Lk,by omega,.inr ⟨by omega,?_⟩⟩;rw [xI];simp only [go_sem,ya,yd,aB]<;>rfl
 ·right
  have h9:(ax m).length<=9:=oV (k:=8) (by omega);have hp0:=zu m;rcases hs with ⟨h0,rfl⟩ | ⟨h0,rfl⟩
  ·simp only [go_sem,rP,show ¬(9:Int)<((ax m).length:Int) by omega];exact ⟨_,_,rfl,by simp,_,i,m,out,rfl,by omega,hlen,hd,aH,by omega,by simp only [go_sem,ya],by simp only [go_sem,ya],by simp only [go_sem,ya],.inl ⟨h0,by simp only [go_sem,ya],rfl⟩⟩
  ·simp only [go_sem,rP,show ¬(9:Int)<((ax m).length:Int) by omega];exact ⟨_,_,rfl,by simp,_,i,m,out,rfl,by omega,hlen,hd,aH,by omega,by simp only [go_sem,ya],by simp only [go_sem,ya],by simp only [go_sem,ya],.inr ⟨h0,by simp only [go_sem,ya],rfl⟩⟩
def WR (h:Rb P L) {n:Int} (hn:(ax n.natAbs).length<=180000000000):∃r,ai P L 288 [.str (aW n)] r/\gW r n:=by
 obtain ⟨u,hu⟩:∃u,u=ax n.natAbs:=⟨_,rfl⟩;obtain ⟨b,t,hb,jP,N4⟩:=F2 n.natAbs;have hs:aW n=(if n<0 then [45] else [])++u:=by rw [hu,mq]
 have AA:0<u.length:=by rw [hu];exact zu _
 have pL:u[0]=b:=by
  have:u=b::t:=by rw [hu,hb]
  simp [this]
 have key:∀(s:St),aQ [0,2,3,4] s=⟨[(0,.str u),(2,.ptr 0 0),(3,.bool (decide (n<0))),(4,.ae)],[(0,.cells true true true 2 [.bool false,.ae])],1,0⟩->
   ∃ex s',D P L (.loop [0,2,3,4] rP) s=some (ex,s')/\∃tm i m out,ex= .exit 0/\m<1000000000/\out.length=i/\dg out/\dv out+1000000000^i*m=n.natAbs/\i<20000000000/\aj tm 0= .str (ax m)/\aj tm 2= .ptr 0 0/\aj tm 3= .bool (decide (n<0))/\
    ((i=0/\aj tm 4= .ae/\s'=⟨tm,[(0,.cells true true true 2 [.bool false,.ae])],1,0⟩)\/(0<i/\aj tm 4= .aE 1 0 i/\s'=⟨tm,[(1,.cells true true false 1 (out.map ab)),(0,.cells true true true 2 [.bool false,.ae])],2,0⟩)):=fun s hc=>
  awQ (P:=P) (L:=L) h.su (neg:=decide (n<0)) hn n.natAbs s ⟨0,n.natAbs,[],rfl,rfl,rfl,by simp [dv],by omega,.inl ⟨rfl,by rw [hc,hu]⟩⟩
 have fin:∀(i m:Nat) (out:List Int),m<1000000000->out.length=i->dg out->dv out+1000000000^i*m=n.natAbs->i<20000000000->∃w l,bG P L (D P L) 294 [.bool (decide (n<0)),.aC false (i+1) ((out++[(m:Int)]).map ab)]=some (.agg [.bool (decide (n<0)),w])/\bn w l/\dg l/\nz l/\dv l=n.natAbs:=fun i m out h1 h2 h3 h4 h5=>by
  have hv:=lM false (out++[(m:Int)]);have hd:dg (out++[(m:Int)]):=fW.2 ⟨h3,iV.2 (by omega)⟩;have aH:dv (out++[(m:Int)])=n.natAbs:=by rw [kN,h2];simp [dv];exact h4
  obtain ⟨r,e,hr⟩:=mQ h.gk h.cp (decide (n<0)) hv hd (by simp;omega);have oL:bX (decide (n<0)) (dv (out++[(m:Int)]))=n:=by
   rw [aH];unfold bX;by_cases h0:n<0
   ·simp only [h0,yo,xO];omega
   ·simp only [h0,yr,yC,xj];omega
  rw [oL] at hr;obtain ⟨w,l,rfl,hw,fK,jf,cC⟩:=hr;simp only [y5,List.length_singleton,h2] at e;exact ⟨w,l,e,hw,fK,jf,cC⟩
 unfold ai;rw [hs];by_cases h0:n<0
 ·rw [yG h0,aF h.ajn];have jQ:gF (45::u) (some 1) (some (u.length+1))=some (.str u):=by rw [jY (s:=45::u) (l:=1) (h:=u.length+1) (by omega) (by simp)];simp
  simp only [h0,yo] at key fin ⊢;simp only [go_sem,ya,yd,LW,aY,show (0:Int)<((u.length+1:Nat):Int) by omega,xh,xT,BY,yo,eb,eE,df,jQ];generalize hq:D P L (.loop [0,2,3,4] rP) _=q;obtain ⟨ex,s,rfl,tm,i,m,out,rfl,hm,hlen,hd,aH,hi,t0,t2,t3,BE⟩:=b6 hq key (by simp only [go_sem,ya,yd,aB]<;>rfl)
  have e1:=Ie h.su (s:=ax m) (v:=m) (by have:=oV (k:=8) (n:=m) (by omega);omega) (CN m);have fB:i<20000000000:=hi;obtain ⟨w,l,e2,hw,fK,jf,cC⟩:=fin i m out hm hlen hd aH fB;refine ⟨_,?_,w,l,rfl,hw,fK,jf,cC⟩;unfold ai at e1;rcases BE with ⟨oM,t4,rfl⟩ | ⟨oM,t4,rfl⟩
  ·subst oM;have ik:out=[]:=yD hlen;subst ik;have iB:∀hp:Hp,kE 0 1 (some (false,1,[AV.int .i64 (m:Int)],hp))=some (.aC false 1 [AV.int .i64 (m:Int)],hp):=fun hp=>rfl
   simp only [xT,xi,vX,yh] at e2;simp only [go_sem,ya,yd,xN,yI,yA,ym,aB,t0,t2,t3,t4,e1,kP,iB,e2,bt,hw.pu,hw.one,er];rcases hw with ⟨rfl,_⟩ | ⟨e,rfl⟩<;>simp only [h0,yo]<;>rfl
  ·simp only [go_sem,ya,yd,yA,ym,aB,t0,t2,t3,t4,e1]
   rw [jX (ex:=false) (pu:=true) (cs:=out.map ab) (by simp only [go_sem,ya]) (by rw [xt,hlen,ym]) (by omega) (by omega) (by decide) (by simp only [go_sem])];have iB:∀hp:Hp,kE 0 (i+1) (some (false,1,out.map ab++[AV.int .i64 (m:Int)],hp))=some (.aC false (i+1) (out.map ab++[AV.int .i64 (m:Int)]),hp):=fun hp=>rG false (by simp [hlen]) (by decide)
   simp only [xI,xi,vX] at e2;simp only [go_sem,ya,yd,iB,e2,bt,hw.pu,hw.one,er,uT];rcases hw with ⟨rfl,_⟩ | ⟨e,rfl⟩<;>simp only [h0,yo]<;>rfl
 ·rw [yv h0,aF h.ajn,xT];simp only [h0,yr] at key fin ⊢;simp only [go_sem,ya,yd,LW,aY,show (0:Int)<(u.length:Int) by omega,oY AA,pL,show ¬((b:Nat):Int)=45 by omega];generalize hq:D P L (.loop [0,2,3,4] rP) _=q;obtain ⟨ex,s,rfl,tm,i,m,out,rfl,hm,hlen,hd,aH,hi,t0,t2,t3,BE⟩:=b6 hq key (by simp only [go_sem,ya,yd,aB]<;>rfl)
  have e1:=Ie h.su (s:=ax m) (v:=m) (by have:=oV (k:=8) (n:=m) (by omega);omega) (CN m);have fB:i<20000000000:=hi;obtain ⟨w,l,e2,hw,fK,jf,cC⟩:=fin i m out hm hlen hd aH fB;refine ⟨_,?_,w,l,rfl,hw,fK,jf,cC⟩;rcases BE with ⟨oM,t4,rfl⟩ | ⟨oM,t4,rfl⟩
  ·subst oM;have ik:out=[]:=yD hlen;subst ik;have iB:∀hp:Hp,kE 0 1 (some (false,1,[AV.int .i64 (m:Int)],hp))=some (.aC false 1 [AV.int .i64 (m:Int)],hp):=fun hp=>rfl
   simp only [xT,xi,vX,yh] at e2;simp only [go_sem,ya,yd,xN,yI,yA,ym,aB,t0,t2,t3,t4,e1,kP,iB,e2,bt,hw.pu,hw.one,er];rcases hw with ⟨rfl,_⟩ | ⟨e,rfl⟩<;>simp only [h0,yr]<;>rfl
  ·simp only [go_sem,ya,yd,yA,ym,aB,t0,t2,t3,t4,e1]
   rw [jX (ex:=false) (pu:=true) (cs:=out.map ab) (by simp only [go_sem,ya]) (by rw [xt,hlen,ym]) (by omega) (by omega) (by decide) (by simp only [go_sem])];have iB:∀hp:Hp,kE 0 (i+1) (some (false,1,out.map ab++[AV.int .i64 (m:Int)],hp))=some (.aC false (i+1) (out.map ab++[AV.int .i64 (m:Int)]),hp):=fun hp=>rG false (by simp [hlen]) (by decide)
   simp only [xI,xi,vX] at e2;simp only [go_sem,ya,yd,iB,e2,bt,hw.pu,hw.one,er,uT];rcases hw with ⟨rfl,_⟩ | ⟨e,rfl⟩<;>simp only [h0,yr]<;>rfl
end
def CG (n:Int) (r:List Nat):bJ (aW n++r)=(aW n).length+bJ r:=by
 rw [<-mq]
 split
 ·simp only [xh,xT,bJ,yO];rw [yv (by decide),JC r (F1 _)];omega
 ·rw [xT];exact JC r (F1 _)
def PA:∀{a b:List Nat},cG a b=true->a=b
 | [],[],_=>rfl
 | [],_::_,h=>by simp [cG] at h
 | _::_,[],h=>by simp [cG] at h
 | x::a,y::b,h=>by
  simp only [cG,yf] at h;rw [yj h.1,PA h.2]
def ag9 {n:Int} {d:Nat} (h:n≠0):cG (TT n d) [48]=false:=by
 cases hb:cG (TT n d) [48] with
 | false=>rfl
 | true=>
  have e:=PA hb;unfold TT at e;by_cases h0:n<0
  ·rw [nF h0] at e;simp at e
  ·obtain ⟨m,rfl⟩:∃m:Nat,n=m:=⟨n.toNat,by omega⟩;rw [kQ] at e;obtain ⟨b,r,bC,_,_⟩:=F2 m;rw [bC] at e;simp only [xh,tu,List.append_eq_nil_iff] at e;have hv:=CN m;rw [bC,e.1,e.2.1] at hv
   have:(some 0:Option Nat)=some m:=hv
   grind
section
variable {P:aK} {L:Lib}
def awR (h:Rb P L):∃r,ai P L 281 [ab 1] r/\gW r 1:=by
 obtain ⟨r,e,hr⟩:=mQ h.gk h.cp false (lM false [(1:Int)]) (by decide) (by decide);obtain ⟨w,l,rfl,hw,hd,hz,hv⟩:=hr;refine ⟨_,?_,w,l,rfl,hw,hd,hz,hv⟩;simp only [xi,vX,yO,yR,yh] at e;have iB:∀hp:Hp,kE 0 1 (some (false,1,[AV.int .i64 1],hp))=some (.aC false 1 [AV.int .i64 1],hp):=fun hp=>rfl
 unfold ai at e ⊢;rw [aF h.ajm];simp only [go_sem,ya,yd,xN,yI,yA,ym,LS,aY,Int.reduceLT,yr,Dc,aB,p9,Int.reduceEq,yP,yN,yo,eP _ _ _ (show (1000000000:Int)≠0 by decide),eH _ _ _ (show (1000000000:Int)≠0 by decide),show Int.tmod 1 1000000000=1 from rfl,show Int.tdiv 1 1000000000=0 from rfl,show IntKind.wrap .i64 0=0 from rfl,kP,iB,e,hw.pu,hw.one,bt,er];rcases hw with ⟨rfl,_⟩ | ⟨e,rfl⟩<;>rfl
def ajt (h:Rb P L) {n:Int} {d:Nat} (hn:(ax n.natAbs).length<=144000000000) (hd:(ax d).length<=144000000000):
  ∃x y,ai P L 274 [.str (TT n d)] (.aa [x,y])/\gW x n/\gW y d:=by
 obtain ⟨x,e1,hx⟩:=WR h (n:=n) (by omega);have hli:(aW n).length<=(ax n.natAbs).length+1:=by rw [<-mq];split<;>simp
 by_cases h1:d=1
 ·subst h1;obtain ⟨y,e2,hy⟩:=awR h;have hT:TT n 1=aW n:=by unfold TT;simp
  have hs:=CG n [];rw [xZ] at hs;have e3:=BX h.ss (s:=aW n) (by omega);rw [hs] at e3;refine ⟨x,y,?_,hx,hy⟩;obtain ⟨xw,xl,rfl,dn,_,_,_⟩:=hx;obtain ⟨yw,yl,rfl,dt,_,_,_⟩:=hy;rw [hT];unfold ai at e1 e2 e3 ⊢;rw [aF h.ajk];simp only [go_sem,ya,yd,LP,aY,e3,bJ,yV,yo,e1,e2,bt,dn.pu,dn.one,dt.pu,dt.one,er];rcases dn with ⟨rfl,_⟩ | ⟨e,rfl⟩<;>rcases dt with ⟨rfl,_⟩ | ⟨e',rfl⟩<;>rfl
 ·obtain ⟨y,e2,hy⟩:=WR h (n:=(d:Int)) (by simp;omega);rw [kQ] at e2;obtain ⟨s,Jk⟩:∃s,s=TT n d:=⟨_,rfl⟩;have hT:s=aW n++47::ax d:=by rw [Jk];unfold TT;rw [yv h1]
  have hs:bJ s=(aW n).length:=by rw [hT,CG];rfl
  have hlen:s.length=(aW n).length+(ax d).length+1:=by rw [hT];simp;omega
  have e3:=BX h.ss (s:=s) (by omega);rw [hs] at e3;have c1:gF s (some 0) (some (aW n).length)=some (.str (aW n)):=by
   rw [jY (by omega) (by omega),yu,hT,tg]
  have c2:gF s (some ((aW n).length+1)) (some s.length)=some (.str (ax d)):=by
   rw [jY (by omega) (yB _),xH,hT,show aW n++47::ax d=(aW n++[47])++ax d by simp,show (aW n).length+1=(aW n++[47]).length by simp,th]
  refine ⟨x,y,?_,hx,hy⟩;obtain ⟨xw,xl,rfl,dn,_,_,_⟩:=hx;obtain ⟨yw,yl,rfl,dt,_,_,_⟩:=hy;rw [<-Jk];unfold ai at e1 e2 e3 ⊢;rw [aF h.ajk]
  simp only [go_sem,ya,yd,LP,aY,e3,show ¬((aW n).length:Int)=(s.length:Int) by omega,eb,eE,df,c1,wrapN (n:=(aW n).length+1) (by omega),show ((aW n).length:Int)+1=(((aW n).length+1:Nat):Int) from rfl,c2,e1,e2,bt,dn.pu,dn.one,dt.pu,dt.one,er];rcases dn with ⟨rfl,_⟩ | ⟨e,rfl⟩<;>rcases dt with ⟨rfl,_⟩ | ⟨e',rfl⟩<;>rfl
end
def KT {n:Int} {d:Nat} (h:n<0):TT n d=45::TT (-n) d:=by
 have e:aW (-n)=ax n.natAbs:=by
  rw [<-mq,yv (show ¬-n<0 by omega),xT,show (-n).natAbs=n.natAbs by omega]
 unfold TT;rw [nF h,e];rfl
def asV {n:Int} {d:Nat} (h:¬n<0):∃b u,TT n d=b::u/\48<=b:=by
 obtain ⟨b,r,hb,h1,_⟩:=F2 n.natAbs;refine ⟨b,r++(if d=1 then [] else 47::ax d),?_,h1⟩;unfold TT;rw [<-mq,yv h,xT,hb];rfl
def Bs (a b:AV) (r:List AV):il 2 true (a::b::r)=some (.agg [a,b]):=rfl
def asW (k:Nat):2^k<=1000000000^k:=wU (by decide) k
def Bd.r {k:Nat} {z:Int} (h:Bd k z):z.natAbs<1000000000^k:=yE h (asW k)
def Hk (r:Rat):RT r=TT r.num r.den:=rfl
def aeA {n d:Int} (hd:0<d):RT (wj n d)=n7 n d:=by
 obtain ⟨h1,h2⟩:=Ot (a:=n) hd;rw [asw hd,Hk,h1]
 congr 1
 exact tJ (show ((wj n d).den:Int)=((cY n d).toNat:Int) by rw [h2];have:=Ga (a:=n) hd;unfold cY at this ⊢;omega)
structure Rm (P:aK) (L:Lib):Prop extends Rb P L where
 aAC:Has P L 263 cR
 Nj:Has P L 273 BN
 aAD:Has P L 284 RF
 aAE:Has P L 285 LU
 aAF:Has P L 286 LV
 D3:Has P L 287 HL
 pD:Has P L 301 sh
structure Rl (P:aK) (L:Lib):Prop extends Rm P L where
 aAG:Has P L 269 HH
structure Rp (P:aK) (L:Lib):Prop extends Ras P L,Rm P L
structure Rn (P:aK) (L:Lib):Prop extends Ra P L,Rp P L
section
variable {P:aK} {L:Lib}
def QU (h:Rm P L) {v w:AV} {a b:List Int} (hv:bn v a) (hw:bn w b) (ha:dg a) (hb:dg b) (na:nz a) (nb:nz b) (la:a.length<=8000000000) (lb:b.length<=8000000000) (h0:0<dv b):
  ∃q r lq lr,ai P L 289 [v,w] (.aa [q,r])/\bn q lq/\bn r lr/\dg lq/\nz lq/\dg lr/\nz lr/\dv lq=dv a/dv b/\dv lr=dv a%dv b:=
 ag7 h.Is h.jN h.mT h.od h.cp h.pD hv hw ha hb na nb la lb h0
def awS (h:Rm P L) {x y:AV} {a b:List Int} {n d:Int} {K:Nat} (hK:K<=8000000000) (hx:bn x a) (ha:dg a) (na:nz a) (va:dv a=n.natAbs) (hy:bn y b) (hb:dg b) (nb:nz b) (vb:dv b=d.natAbs) (kn:Bd K n) (kd:Bd K d) (hd:0<d) {tm:Env} (t2:aj tm 2= .ptr 0 0) (t3:aj tm 3= .ptr 1 0):
  cX [.t 4] (D P L (aq (aq mH.body)) ⟨tm,[(1,.cells true true true 2 [.bool (decide (d<0)),y]),(0,.cells true true true 2 [.bool (decide (n<0)),x])],2,0⟩)=some (.str (RT (wj n d))):=by
 rw [aeA hd];have la:=xb (gB ha na (by rw [va];exact kn.r)) hK
 have lb:=xb (gB hb nb (by rw [vb];exact kd.r)) hK
 obtain ⟨g,lg,e1,hg,Yq,ng,vg⟩:=ag8 h.ajl h.Is h.jN h.mT h.od h.cp h.pD hx hy ha hb na nb la lb;rw [va,vb,show wm n.natAbs d.natAbs=wE n d from rfl] at vg;have IS:=Ky (a:=n) hd;have aAH:wE n d<=d.natAbs:=Int.gcd_le_natAbs_right n (by omega);have lg1:lg.length<=8000000000:=xb (gB Yq ng (by rw [vg];exact xB aAH kd.r)) hK
 obtain ⟨p,p',lp,lp',e2,hp,ap,dp,np,dp',np',vp,vp'⟩:=QU h hx hg ha Yq na ng la lg1 (by omega);obtain ⟨q,q',lq,lq',e3,hq,bH,dq,nq,dq',nq',vq,vq'⟩:=QU h hy hg hb Yq nb ng lb lg1 (by omega);rw [va,vg] at vp;rw [vb,vg] at vq;have hrn:(cT n d).natAbs=n.natAbs/wE n d:=by unfold cT;rw [uo (Int.gcd_dvd_left n d)];rfl
 have fR:(cY n d).natAbs=d.natAbs/wE n d:=by unfold cY;rw [uo (Int.gcd_dvd_right n d)];rfl
 have hdp:=Ga (a:=n) hd;rw [<-hrn] at vp;rw [<-fR] at vq;have aGH:=awb n d;have oL:bX (decide (n<0)) (dv lp)=cT n d:=by
  rw [vp];unfold bX;by_cases h0:n<0
  ·have:¬0<=cT n d:=fun h1=>by have:=tj (uR IS) h1;omega
   simp only [h0,yo,xO];omega
  ·have:¬cT n d<0:=fun h1=>by have:=Int.mul_neg_of_pos_of_neg IS h1;omega
   simp only [h0,yr,yC,xj];omega
 have kn':Bd K (cT n d):=kn.le (aa5 n d);have W3:Bd K (cY n d):=kd.le (aa6 n d);have lp1:lp.length<=8000000000:=xb (gB dp np (by rw [vp];exact kn'.r)) hK
 have Jl:lq.length<=8000000000:=xb (gB dq nq (by rw [vq];exact W3.r)) hK
 obtain ⟨s,e4,hs⟩:=mQ h.gk h.cp (decide (n<0)) hp dp (by omega);rw [oL] at hs;obtain ⟨e5,l5⟩:=Nh (K:=K) h.Ni h.mM (by omega) hs kn'.r;obtain ⟨u,e6,hu⟩:=mQ h.gk h.cp false hq dq (by omega);have sS:bX false (dv lq)=cY n d:=by rw [vq];unfold bX;simp only [yC,xj];omega
 rw [sS] at hu;obtain ⟨e7,l7⟩:=Nh (K:=K) h.Ni h.mM (by omega) hu W3.r;obtain ⟨sw,sl,rfl,fo,_,_,_⟩:=hs;obtain ⟨uw,ul,rfl,huw,_,_,_⟩:=hu;have aGp:0<lq.length:=by
  rcases xe lq.length with e | e
  ·rw [yD e] at vq;simp [dv] at vq;omega
  ·exact e
 by_cases Oi:lq.length=1
 ·obtain ⟨z,rfl⟩:∃z,lq=[z]:=by
   cases lq with
   | nil=>simp at Oi
   | cons z r=>cases r with
    | nil=>exact ⟨z,rfl⟩
    | cons y r=>simp at Oi
  have Js:z=cY n d:=by simp [dv] at vq;omega
  have e8:=hq.cd (i:=0) (by simp);simp only [uI] at e8;by_cases h1:cY n d=1
  ·have hT:n7 n d=aW (cT n d):=by unfold n7;rw [yG h1]
   rw [hT];simp only [go_sem,ya,mH,aq,t2,t3,hx.an,hy.an,bI,yh,cx,show ¬d<0 by omega,yr,e1,hg.an,hg.shut,e2,hp.an,hp.bR,ap.bR,e3,hq.len,hq.bR,bH.bR,e4,fo.an,b5,bt,e5,yO,yR,show ((1:Nat):Int)=(1:Int) from rfl,yo,e8,Js,h1]
  ·have hT:n7 n d=(aW (cT n d)++[47])++aW (cY n d):=by unfold n7;rw [yv h1]
   rw [hT]
   simp only [go_sem,ya,mH,aq,t2,t3,hx.an,hy.an,bI,yh,cx,show ¬d<0 by omega,yr,e1,hg.an,hg.shut,e2,hp.an,hp.bR,ap.bR,e3,hq.len,hq.an,hq.bR,bH.bR,e4,fo.an,b5,bt,e5,yO,yR,show ((1:Nat):Int)=(1:Int) from rfl,yo,e8,Js,h1,fN (a:=aW (cT n d)) (b:=[47]) (by simp;omega),e6,huw.an,e7,fN (a:=aW (cT n d)++[47]) (b:=aW (cY n d)) (by simp;omega)]
 ·have h1:¬cY n d=1:=fun h1=>Oi (by
   have h2:lq.length<=1:=PY dq nq (by rw [vq,h1];decide)
   omega)
  have hT:n7 n d=(aW (cT n d)++[47])++aW (cY n d):=by unfold n7;rw [yv h1]
  rw [hT]
  simp only [go_sem,ya,mH,aq,t2,t3,hx.an,hy.an,bI,yh,cx,show ¬d<0 by omega,yr,e1,hg.an,hg.shut,e2,hp.an,hp.bR,ap.bR,e3,hq.len,hq.an,hq.bR,bH.bR,e4,fo.an,b5,bt,e5,show ¬(lq.length:Int)=1 by omega,fN (a:=aW (cT n d)) (b:=[47]) (by simp;omega),e6,huw.an,e7,fN (a:=aW (cT n d)++[47]) (b:=aW (cY n d)) (by simp;omega)]
def al4 (n d:Int):wj (-n) (-d)=wj n d:=by rw [Rat.divInt_neg',tP]
def QV (h:Rm P L) {v w:AV} {n d:Int} {K:Nat} (hK:K<=8000000000) (hv:gW v n) (hw:gW w d) (kn:Bd K n) (kd:Bd K d) (hd:d≠0):ai P L 280 [v,w] (.str (RT (wj n d))):=by
 have fin:∀{x y:AV} {a b:List Int} {n' d':Int},bn x a->dg a->nz a->dv a=n'.natAbs->bn y b->dg b->nz b->dv b=d'.natAbs->Bd K n'->Bd K d'->0<d'->wj n' d'=wj n d->∀tm,aj tm 2= .ptr 0 0->aj tm 3= .ptr 1 0->
   D P L (.seq (aS mH.body) (aS (aq mH.body))) ⟨[(0,v),(1,w)],[],0,0⟩=some (.normal,⟨tm,[(1,.cells true true true 2 [.bool (decide (d'<0)),y]),(0,.cells true true true 2 [.bool (decide (n'<0)),x])],2,0⟩)->ai P L 280 [v,w] (.str (RT (wj n d))):=fun {x y a b n' d'} hx ha na va hy hb nb vb kn kd hd hq tm t2 t3 e=>by
  unfold ai;rw [aF h.aAu];show cX [.t 4] (D P L (.seq (aS mH.body) (.seq (aS (aq mH.body)) (aq (aq mH.body)))) ⟨[(0,v),(1,w)],[],0,0⟩)=_
  rw [A4,e,fp,<-hq];exact awS h hK hx ha na va hy hb nb vb kn kd hd t2 t3
 have ek:=hv;have X9:=hw;obtain ⟨x,a,rfl,hx,ha,na,va⟩:=hv;obtain ⟨y,b,rfl,hy,hb,nb,vb⟩:=hw;by_cases h0:d<0
 ·obtain ⟨r,e1,hr⟩:=aiU (K:=K) h.ajo h.gk h.cp (by omega) ek kn.r;obtain ⟨s,e2,hs⟩:=aiU (K:=K) h.ajo h.gk h.cp (by omega) X9 kd.r;obtain ⟨x',a',rfl,rA,Cg,na',va'⟩:=hr;obtain ⟨y',b',rfl,Jn,bC,nb',vb'⟩:=hs;simp only [h0,yo] at e2
  refine fin rA Cg na' va' Jn bC nb' vb' kn.neg kd.neg (by omega) (al4 n d) _ ?_ ?_ (by
   simp only [go_sem,ya,yd,mH,aS,aq,aY,hx.pu,hx.an,hx.one,hy.pu,hy.an,hy.one,rA.pu,rA.one,Jn.pu,Jn.one,bI,yh,h0,yo,Bs,b5,e1,e2,bt,er]<;>rfl)<;>simp only [go_sem,ya]
 ·refine fin hx ha na va hy hb nb vb kn kd (by omega) rfl _ ?_ ?_ (by simp only [go_sem,ya,yd,mH,aS,aq,aY,hx.pu,hx.one,hy.pu,hy.one,bI,yh,h0,yr]<;>rfl)<;>simp only [go_sem,ya]
end
def ayI (z:Int) (m:Nat) (h:z.natAbs=m):(z.tdiv 1000000000).natAbs=m/1000000000/\(if z.tmod 1000000000<0 then 0-z.tmod 1000000000 else z.tmod 1000000000)=((m%1000000000:Nat):Int)/\(z<0->z.tdiv 1000000000<=0)/\(0<=z->0<=z.tdiv 1000000000):=by
 rcases Int.lt_or_le z 0 with h0 | h0
 ·obtain ⟨n,rfl⟩:∃n:Nat,z= -(n:Int):=⟨z.natAbs,by omega⟩;rw [Int.neg_tdiv,Int.neg_tmod,xE (by omega),xz (by omega)]
  grind
 ·grind
section
variable {P:aK} {L:Lib}
def awT {neg:Bool} {N:Nat} (hN:N<=9223372036854775808):
  ∀k s,(∃(i:Nat) (z:Int) (out:List Int),z.natAbs=k/\out.length=i/\dg out/\dv out+1000000000^i*z.natAbs=N/\(neg=true->z<=0)/\(neg=false->0<=z)/\i<=3/\
    ((i=0/\aQ [0,2,3,4] s=⟨[(0,ab z),(2,.ptr 0 0),(3,.ae),(4,.bool neg)],[(0,.cells true true true 2 [.bool false,.ae])],1,0⟩)\/
    (0<i/\aQ [0,2,3,4] s=⟨[(0,ab z),(2,.ptr 0 0),(3,.aE 1 0 i),(4,.bool neg)],[(1,.cells true true false 1 (out.map ab)),(0,.cells true true true 2 [.bool false,.ae])],2,0⟩)))->
   ∃ex s',D P L (.loop [0,2,3,4] p9) s=some (ex,s')/\∃tm i out,ex= .exit 0/\out.length=i/\i<=3/\dg out/\dv out=N/\aj tm 2= .ptr 0 0/\aj tm 4= .bool neg/\
    ((i=0/\aj tm 3= .ae/\s'=⟨tm,[(0,.cells true true true 2 [.bool false,.ae])],1,0⟩)\/(0<i/\aj tm 3= .aE 1 0 i/\s'=⟨tm,[(1,.cells true true false 1 (out.map ab)),(0,.cells true true true 2 [.bool false,.ae])],2,0⟩)):=by
 intro dq sq;generalize bq:aQ [0,2,3,4] sq=s0;revert bq s0 sq dq;apply dh;rintro k s ⟨i,z,out,rfl,hlen,hd,aH,jz,qY,hi3,hs⟩;by_cases hz:z=0
 ·right
  subst hz;have hv:dv out=N:=by simpa using aH
  rcases hs with ⟨h0,rfl⟩ | ⟨h0,rfl⟩
  ·simp only [go_sem,p9,yo,yN];exact ⟨_,_,rfl,by simp,_,i,out,rfl,hlen,hi3,hd,hv,by simp only [go_sem,ya],by simp only [go_sem,ya],.inl ⟨h0,by simp only [go_sem,ya],rfl⟩⟩
  ·simp only [go_sem,p9,yo,yN];exact ⟨_,_,rfl,by simp,_,i,out,rfl,hlen,hi3,hd,hv,by simp only [go_sem,ya],by simp only [go_sem,ya],.inr ⟨h0,by simp only [go_sem,ya],rfl⟩⟩
 ·left
  obtain ⟨m,hm⟩:∃m,z.natAbs=m:=⟨_,rfl⟩;have pR:0<m:=by omega
  rw [hm] at aH;have hi2:i<3:=by
   rcases wX i 3 with h | h
   ·exact h
   ·have e3:i=3:=by omega
    subst e3
    have:=yS (1000000000^3) pR
    omega
  have hmN:m<=9223372036854775808:=by
   have:=uO m (yal (n:=i) (show 0<1000000000 by decide))
   omega
  obtain ⟨d1,d2,d3,d4⟩:=ayI z m hm;have dZ:=vH m 1000000000;have pC:dg (out++[((m%1000000000:Nat):Int)]):=fW.2 ⟨hd,iV.2 (by omega)⟩;have Lk:dv (out++[((m%1000000000:Nat):Int)])+1000000000^(i+1)*(m/1000000000)=N:=by
   rw [kN,hlen,<-aH,yZ,xd];have e:1000000000^i*m=1000000000^i*(m%1000000000)+1000000000^i*(1000000000*(m/1000000000)):=by rw [<-xr,dZ]
   rw [e];simp only [dv,wo,xp,yV];omega
  have rk:IntKind.wrap .i64 (z.tdiv 1000000000)=z.tdiv 1000000000:=wrap64 (by omega) (by omega);have kI: -9223372036854775808<=z.tmod 1000000000/\z.tmod 1000000000<1000000000:=by
   have h1:(z.tmod 1000000000).natAbs<1000000000:=by
    split at d2<;>omega
   omega
  have r5:(neg=true->z.tdiv 1000000000<=0)/\(neg=false->0<=z.tdiv 1000000000):=⟨fun h=>d3 (by have:=jz h;omega),fun h=>d4 (qY h)⟩;have aG:(z.tdiv 1000000000).natAbs<m:=by rw [d1];omega
  obtain ⟨z',fA⟩:∃z',z.tdiv 1000000000=z':=⟨_,rfl⟩;rw [fA] at d1 d3 d4 rk r5 aG;have cC:dv (out++[((m%1000000000:Nat):Int)])+1000000000^(i+1)*z'.natAbs=N:=by rw [d1];exact Lk
  generalize m%1000000000=r at*
  by_cases eL:z.tmod 1000000000<0
  ·rw [yG eL] at d2;rcases hs with ⟨h0,rfl⟩ | ⟨h0,rfl⟩
   ·subst h0;have ik:out=[]:=yD hlen;subst ik
    simp only [go_sem,ya,yd,xN,yI,yA,ym,p9,yr,hz,yP,eP _ _ _ (show (1000000000:Int)≠0 by decide),eH _ _ _ (show (1000000000:Int)≠0 by decide),eL,d2,wrapN (n:=r) (by omega),kP,fA,rk];refine ⟨_,z'.natAbs,rfl,by omega,1,z',[]++[(r:Int)],rfl,rfl,pC,cC,r5.1,r5.2,by omega,.inr ⟨by omega,?_⟩⟩;simp only [go_sem,ya,yd,aB]<;>rfl
   ·simp only [go_sem,ya,yd,yA,ym,p9,yr,hz,yP,eP _ _ _ (show (1000000000:Int)≠0 by decide),eL,d2,wrapN (n:=r) (by omega)]
    rw [jX (ex:=false) (pu:=true) (cs:=out.map ab) (by simp only [go_sem,ya]) (by rw [xt,hlen,ym]) (by omega) (by omega) (by decide) (by simp only [go_sem])];simp only [go_sem,ya,yd,eH _ _ _ (show (1000000000:Int)≠0 by decide),fA,rk];refine ⟨_,z'.natAbs,rfl,by omega,i+1,z',out++[(r:Int)],rfl,by simp [hlen],pC,cC,r5.1,r5.2,by omega,.inr ⟨by omega,?_⟩⟩;rw [xI];simp only [go_sem,ya,yd,aB]<;>rfl
  ·rw [yv eL] at d2;rcases hs with ⟨h0,rfl⟩ | ⟨h0,rfl⟩
   ·subst h0;have ik:out=[]:=yD hlen;subst ik;simp only [go_sem,ya,yd,xN,yI,yA,ym,p9,yr,hz,yP,eP _ _ _ (show (1000000000:Int)≠0 by decide),eH _ _ _ (show (1000000000:Int)≠0 by decide),d2,show ¬((r:Nat):Int)<0 by omega,kP,fA,rk];refine ⟨_,z'.natAbs,rfl,by omega,1,z',[]++[(r:Int)],rfl,rfl,pC,cC,r5.1,r5.2,by omega,.inr ⟨by omega,?_⟩⟩;simp only [go_sem,ya,yd,aB]<;>rfl
   ·simp only [go_sem,ya,yd,yA,ym,p9,yr,hz,yP,eP _ _ _ (show (1000000000:Int)≠0 by decide),d2,show ¬((r:Nat):Int)<0 by omega]
    rw [jX (ex:=false) (pu:=true) (cs:=out.map ab) (by simp only [go_sem,ya]) (by rw [xt,hlen,ym]) (by omega) (by omega) (by decide) (by simp only [go_sem])];simp only [go_sem,ya,yd,eH _ _ _ (show (1000000000:Int)≠0 by decide),fA,rk];refine ⟨_,z'.natAbs,rfl,by omega,i+1,z',out++[(r:Int)],rfl,by simp [hlen],pC,cC,r5.1,r5.2,by omega,.inr ⟨by omega,?_⟩⟩;rw [xI];simp only [go_sem,ya,yd,aB]<;>rfl
def aeB {n:Int} (h: -9223372036854775808<=n/\n<9223372036854775808):n.natAbs<=9223372036854775808:=by omega
def aeC (n:Int):bX (decide (n<0)) n.natAbs=n:=by
 unfold bX
 grind
def ayJ (h:Rm P L) {n:Int} (hn: -9223372036854775808<=n/\n<9223372036854775808):∃r,ai P L 281 [ab n] r/\gW r n:=by
 have key:=fun s=>awT (P:=P) (L:=L) (neg:=decide (n<0)) (aeB hn) n.natAbs s
 unfold ai;rw [aF h.ajm];simp only [go_sem,ya,yd,LS,aY];generalize hq:D P L (.loop [0,2,3,4] p9) _=q;obtain ⟨ex,s,rfl,tm,i,out,rfl,hlen,hi,hd,aH,t2,t4,BE⟩:=b6 hq key (by
  refine ⟨0,n,[],rfl,rfl,rfl,by simp [dv],fun h=>by simp at h;omega,fun h=>by simp at h;omega,by omega,.inl ⟨rfl,?_⟩⟩
  simp only [go_sem,ya,yd,aB]<;>rfl)
 rcases BE with ⟨oM,t3,rfl⟩ | ⟨oM,t3,rfl⟩
 ·subst oM;have ik:out=[]:=yD hlen;subst ik;obtain ⟨r,e,hr⟩:=mQ h.gk h.cp (decide (n<0)) (show bn .ae [] from zt) hd (by simp);rw [aH,aeC] at hr;have bW:=hr;obtain ⟨w,l,rfl,hw,_,_,_⟩:=bW;refine ⟨_,?_,hr⟩;simp only [go_sem,ya,yd,aB,t2,t3,t4,e,hw.pu,hw.one,bt,er];rcases hw with ⟨rfl,_⟩ | ⟨e,rfl⟩<;>rfl
 ·have hI:=lM false out;rw [hlen] at hI;obtain ⟨r,e,hr⟩:=mQ h.gk h.cp (decide (n<0)) hI hd (by omega);rw [aH,aeC] at hr;have bW:=hr;obtain ⟨w,l,rfl,hw,_,_,_⟩:=bW;refine ⟨_,?_,hr⟩
  simp only [go_sem,ya,yd,aB,t2,t3,t4,fun hp=>rG (hp:=hp) (k:=i) (sz:=1) (cs:=out.map ab) false (by simp [hlen]) (by decide),e,hw.pu,hw.one,bt,er];rcases hw with ⟨rfl,_⟩ | ⟨e,rfl⟩<;>rfl
def Qr (n:Int):RT (n:Rat)=aW n:=by unfold RT;simp
def aha (h:Rm P L) (Nk:Has P L 265 LO) {n:Int} (hn: -9223372036854775808<=n/\n<9223372036854775808):ai P L 265 [ab n] (.str (RT (n:Rat))):=by
 obtain ⟨r,e,hr⟩:=ayJ h hn;obtain ⟨e2,_⟩:=Nh (K:=8) h.Ni h.mM (by omega) hr (by have:=aeB hn;omega);rw [Qr];obtain ⟨w,l,rfl,hw,_,_,_⟩:=hr;unfold ai at e e2 ⊢;rw [aF Nk];simp only [go_sem,ya,LO,e,hw.an,bt,b5,e2]
def Df {K:Nat} {a:Rat} (h:Hq K a):(RT a).length<=2*K+3:=by
 have h1:=F3 h.1;have h2:=F3 h.2;rw [kQ] at h2;unfold RT
 grind
def aeD {K:Nat} {z:Int} (h:Bd K z):(ax z.natAbs).length<=K+1:=by
 have:=F3 (z:=(z.natAbs:Int)) (k:=K) (by unfold Bd at h ⊢;omega)
 rwa [kQ] at this
def Dl (h:Rm P L) {a:Rat} {K:Nat} (ka:Hq K a) (hK:K<=8000000000):∃x y,ai P L 274 [.str (RT a)] (.aa [x,y])/\gW x a.num/\gW y (a.den:Int):=by
 have h1:=aeD ka.1;have h2:=aeD ka.2
 exact ajt h.toRb (n:=a.num) (d:=a.den) (by omega) (by simpa using (by omega:(ax ((a.den:Int)).natAbs).length<=144000000000))
def ahb (h:Rm P L) {n:Int} {d:Nat} (hl:(TT n d).length<=100000000000) (h00:n=0->d=1):ai P L 262 [.str (TT n d)] (ab (bL n)):=by
 unfold ai;rw [aF h.aAs];by_cases h0:n<0
 ·have fj:=ag9 (n:=n) (d:=d) (by omega);rw [KT h0] at fj ⊢;simp only [go_sem,ya,HC,jk,fj,show (0:Int)<(((TT (-n) d).length+1:Nat):Int) by omega,BY,yo];unfold bL;rw [yG h0]
 ·by_cases h1:n=0
  ·subst h1
   have:=h00 rfl
   subst this;rw [show TT 0 1=[48] by decide];simp only [go_sem,ya,HC,jk,show cG [48] [48]=true from rfl];rfl
  ·have fj:=ag9 (n:=n) (d:=d) h1;obtain ⟨b,u,hb,jP⟩:=asV (d:=d) h0;rw [hb] at fj ⊢;simp only [go_sem,ya,HC,jk,fj,show (0:Int)<((u.length+1:Nat):Int) by omega,show lS 0 (.str (b::u))=some (.int .u8 (b:Nat)) from rfl,show ¬((b:Nat):Int)=45 by omega];unfold bL;rw [yv h0,yv h1]
def alz {a:Rat} (h:a.num=0):a.den=1:=by simp_all
def Ll (h:Rm P L) {a:Rat} {K:Nat} (ka:Hq K a) (hK:K<=8000000000):ai P L 262 [.str (RT a)] (ab (bL a.num)):=
 ahb h (by have:=Df ka;rw [Hk] at this;omega) alz
def QW (h:Rp P L) {a:Rat} {K:Nat} (ka:Hq K a) (hK:K<=8000000000):ai P L 268 [.str (RT a)] (.str (RT (-a))):=by
 have e:=Ll h.toRm ka hK;have hl:=Df ka;have en:(-a).num= -a.num:=rfl;have ed:(-a).den=a.den:=rfl;rw [Hk] at hl e ⊢;rw [Hk,en,ed];generalize a.num=n at*
 generalize a.den=d at*
 unfold ai at e ⊢;rw [aF h.aAv];by_cases h0:n<0
 ·have es:bL n= -1:=by unfold bL;rw [yG h0]
  rw [es,KT h0] at e;rw [KT h0] at hl ⊢;have hc:gF (45::TT (-n) d) (some 1) (some ((TT (-n) d).length+1))=some (.str (TT (-n) d)):=by rw [jY (s:=45::TT (-n) d) (l:=1) (h:=(TT (-n) d).length+1) (by omega) (by simp)];simp
  simp only [go_sem,ya,HG,e,show (-1:Int)<0 by decide,eb,eE,df,hc]
 ·by_cases h1:n=0
  ·subst h1;have es:bL 0=0:=rfl;rw [es] at e;simp only [go_sem,ya,HG,e,show ¬(0:Int)<0 by decide,yo,Int.neg_zero]
  ·have es:bL n=1:=by unfold bL;rw [yv h0,yv h1]
   rw [es] at e
   have:TT (-n) d=45::TT n d:=by rw [KT (by omega),tP]
   rw [this]
   simp only [go_sem,ya,HG,e,show ¬(1:Int)<0 by decide,show ¬(1:Int)=0 by decide,fN (a:=[45]) (b:=TT n d) (by simp;omega),xh,xT]
end
def aeE (n:Int) (d:Nat):Qf true n d= .aa [ab n,ab d,.bool true]:=rfl
def Hl {a b:Int} (ha:a.natAbs<1000000000) (hb:b.natAbs<1000000000):(a*b).natAbs<1000000000000000000:=by
 rw [Int.natAbs_mul];exact yE (tn ha hb) (by decide)
section
variable {P:aK} {L:Lib}
def ahc (h:Rm P L) {a b:Int} (ha: -4000000000000000000<=a/\a<=4000000000000000000) (hb:0<b/\b<=4000000000000000000):ai P L 277 [ab a,ab b] (.str (RT (wj a b))):=by
 rw [aeA hb.1];exact azx h.aAt h.Wj h.mM ha hb
def Lm (h:Rp P L) {a:Rat} {K:Nat} (ka:Hq K a) (hK:K<=8000000000):∃q:Bool,ai P L 276 [.str (RT a)] (Qf q a.num a.den)/\(q=true->a.num.natAbs<1000000000/\a.den<1000000000):=
 azy h.aAx h.ss h.su (n:=a.num) (d:=a.den) (by have:=Df ka;rw [Hk] at this;omega)
def Hm (h:Rn P L) {a b:Rat} {K M:Nat} (ka:Hq K a) (kb:Hq M b) (hK:K+M<=8000000000):ai P L 267 [.str (RT a),.str (RT b)] (.str (RT (a*b))):=by
 obtain ⟨q1,e1,b1⟩:=Lm h.toRp ka (by omega);obtain ⟨q2,e2,b2⟩:=Lm h.toRp kb (by omega);have aAI:=CF a b;by_cases hq:(q1=true/\q2=true)
 ·obtain ⟨rfl,rfl⟩:=hq;obtain ⟨b11,b12⟩:=b1 rfl;obtain ⟨b21,b22⟩:=b2 rfl;have p1:=Hl b11 b21;have p2:=Hl (a:=(a.den:Int)) (b:=(b.den:Int)) (by omega) (by omega);have e3:=ahc h.toRm (a:=a.num*b.num) (b:=(a.den:Int)*b.den) (by omega) (by omega);rw [<-mul_eq] at e3;rw [aeE] at e1 e2;unfold ai at e1 e2 e3 ⊢;rw [aF h.ajq]
  simp only [go_sem,ya,HF,e1,e2,wrap64 (n:=a.num*b.num) (by omega) (by omega),wrap64 (n:=(a.den:Int)*(b.den:Int)) (by omega) (by omega),e3]
 ·have bH:∃n1 d1 n2 d2,bG P L (D P L) 276 [.str (RT a)]=some (.aa [ab n1,ab d1,.bool q1])/\bG P L (D P L) 276 [.str (RT b)]=some (.aa [ab n2,ab d2,.bool q2]):=by
   cases q1<;>cases q2<;>exact ⟨_,_,_,_,e1,e2⟩
  obtain ⟨n1,d1,n2,d2,e1,e2⟩:=bH;obtain ⟨x,y,e3,hx,hy⟩:=Dl h.toRm ka (by omega);obtain ⟨z,w,e4,hz,hw⟩:=Dl h.toRm kb (by omega);have D4:max K M<=8000000000:=by omega
  obtain ⟨r,e5,hr⟩:=Iq (K:=max K M) h.It h.jN h.gk h.cp D4 hx hz (ka.1.mono (by omega)).r (kb.1.mono (by omega)).r;obtain ⟨s,e6,hs⟩:=Iq (K:=max K M) h.It h.jN h.gk h.cp D4 hy hw (ka.2.mono (by omega)).r (kb.2.mono (by omega)).r;have e7:=QV h.toRm hK hr hs (ka.1.mul kb.1) (ka.2.mul kb.2) (by omega);rw [<-mul_eq] at e7;obtain ⟨xw,xl,rfl,dn,_,_,_⟩:=hx;obtain ⟨yw,yl,rfl,dt,_,_,_⟩:=hy;obtain ⟨zw,zl,rfl,nA,_,_,_⟩:=hz;obtain ⟨ww,wl,rfl,nB,_,_,_⟩:=hw;obtain ⟨eM,rl,rfl,nd,_,_,_⟩:=hr;obtain ⟨sw,sl,rfl,fo,_,_,_⟩:=hs;have hb:¬(q1=true/\q2=true):=hq;unfold ai at e3 e4 e5 e6 e7 ⊢;rw [aF h.ajq]
  cases q1 with
  | false=>
   simp only [go_sem,ya,yd,HF,aY,e1,e2,e3,e4,dn.pu,dn.an,dn.one,dt.pu,dt.an,dt.one,nA.pu,nA.an,nA.one,nB.pu,nB.an,nB.one,nd.an,fo.an,b5,bt,pZ,er,Bs,e5,e6,e7]
  | true=>
   cases q2 with
   | true=>exact absurd ⟨rfl,rfl⟩ hb
   | false=>
    simp only [go_sem,ya,yd,HF,aY,e1,e2,e3,e4,dn.pu,dn.an,dn.one,dt.pu,dt.an,dt.one,nA.pu,nA.an,nA.one,nB.pu,nB.an,nB.one,nd.an,fo.an,b5,bt,pZ,er,Bs,e5,e6,e7]
def ayK (h:Rp P L) {a b:Rat} {K M:Nat} (ka:Hq K a) (kb:Hq M b) (hK:K+M+1<=8000000000):ai P L 264 [.str (RT a),.str (RT b)] (.str (RT (a+b))):=by
 obtain ⟨q1,e1,b1⟩:=Lm h ka (by omega);obtain ⟨q2,e2,b2⟩:=Lm h kb (by omega);have aAI:=CF a b;by_cases hq:(q1=true/\q2=true)
 ·obtain ⟨rfl,rfl⟩:=hq;obtain ⟨b11,b12⟩:=b1 rfl;obtain ⟨b21,b22⟩:=b2 rfl;have p1:=Hl (a:=a.num) (b:=(b.den:Int)) (by omega) (by omega);have p2:=Hl (a:=b.num) (b:=(a.den:Int)) (by omega) (by omega);have p3:=Hl (a:=(a.den:Int)) (b:=(b.den:Int)) (by omega) (by omega);have e3:=ahc h.toRm (a:=a.num*b.den+b.num*a.den) (b:=(a.den:Int)*b.den) (by omega) (by omega);rw [<-add_eq] at e3;rw [aeE] at e1 e2;unfold ai at e1 e2 e3 ⊢;rw [aF h.ajp]
  simp only [go_sem,ya,HE,e1,e2,wrap64 (n:=a.num*(b.den:Int)) (by omega) (by omega),wrap64 (n:=b.num*(a.den:Int)) (by omega) (by omega),wrap64 (n:=a.num*(b.den:Int)+b.num*(a.den:Int)) (by omega) (by omega),wrap64 (n:=(a.den:Int)*(b.den:Int)) (by omega) (by omega),e3]
 ·have bH:∃n1 d1 n2 d2,bG P L (D P L) 276 [.str (RT a)]=some (.aa [ab n1,ab d1,.bool q1])/\bG P L (D P L) 276 [.str (RT b)]=some (.aa [ab n2,ab d2,.bool q2]):=by
   cases q1<;>cases q2<;>exact ⟨_,_,_,_,e1,e2⟩
  obtain ⟨n1,d1,n2,d2,e1,e2⟩:=bH;obtain ⟨x,y,e3,hx,hy⟩:=Dl h.toRm ka (by omega);obtain ⟨z,w,e4,hz,hw⟩:=Dl h.toRm kb (by omega);have D4:max K M<=8000000000:=by omega
  obtain ⟨r,e5,hr⟩:=Iq (K:=max K M) h.It h.jN h.gk h.cp D4 hx hw (ka.1.mono (by omega)).r (kb.2.mono (by omega)).r;obtain ⟨r2,Yr,lE⟩:=Iq (K:=max K M) h.It h.jN h.gk h.cp D4 hz hy (kb.1.mono (by omega)).r (ka.2.mono (by omega)).r;obtain ⟨s,e6,hs⟩:=Iq (K:=max K M) h.It h.jN h.gk h.cp D4 hy hw (ka.2.mono (by omega)).r (kb.2.mono (by omega)).r;have k1:Bd (K+M) (a.num*b.den):=ka.1.mul kb.2;have k2:Bd (K+M) (b.num*a.den):=(kb.1.mul ka.2).mono (by omega);obtain ⟨t,e8,ht⟩:=aAk (K:=K+M) h.aAy h.Nf h.mT h.Ng h.lC h.gk h.cp (by omega) hr lE k1.r k2.r;have e7:=QV h.toRm hK ht hs (k1.Wy k2) ((ka.2.mul kb.2).mono (by omega)) (by omega);rw [<-add_eq] at e7;obtain ⟨xw,xl,rfl,dn,_,_,_⟩:=hx;obtain ⟨yw,yl,rfl,dt,_,_,_⟩:=hy;obtain ⟨zw,zl,rfl,nA,_,_,_⟩:=hz;obtain ⟨ww,wl,rfl,nB,_,_,_⟩:=hw;obtain ⟨eM,rl,rfl,nd,_,_,_⟩:=hr
  obtain ⟨rw2,rl2,rfl,aju,_,_,_⟩:=lE;obtain ⟨tw,tl,rfl,htw,_,_,_⟩:=ht;obtain ⟨sw,sl,rfl,fo,_,_,_⟩:=hs;have hb:¬(q1=true/\q2=true):=hq;unfold ai at e3 e4 e5 Yr e6 e7 e8 ⊢;rw [aF h.ajp]
  cases q1 with
  | false=>
   simp only [go_sem,ya,yd,HE,aY,e1,e2,e3,e4,dn.pu,dn.an,dn.one,dt.pu,dt.an,dt.one,nA.pu,nA.an,nA.one,nB.pu,nB.an,nB.one,nd.an,aju.an,htw.an,fo.an,b5,bt,pZ,er,Bs,e5,Yr,e8,e6,e7]
  | true=>
   cases q2 with
   | true=>exact absurd ⟨rfl,rfl⟩ hb
   | false=>
    simp only [go_sem,ya,yd,HE,aY,e1,e2,e3,e4,dn.pu,dn.an,dn.one,dt.pu,dt.an,dt.one,nA.pu,nA.an,nA.one,nB.pu,nB.an,nB.one,nd.an,aju.an,htw.an,fo.an,b5,bt,pZ,er,Bs,e5,Yr,e8,e6,e7]
def ahd (h:Rp P L) {a b:Rat} {K M:Nat} (ka:Hq K a) (kb:Hq M b) (hK:K+M+1<=8000000000):ai P L 271 [.str (RT a),.str (RT b)] (.str (RT (a-b))):=by
 have e1:=QW h kb (by omega);have e2:=ayK h ka kb.neg hK;rw [<-Rat.sub_eq_add_neg] at e2;unfold ai at e1 e2 ⊢;rw [aF h.aAw];simp only [go_sem,ya,RE,e1,e2]
def inv_divInt (a:Rat) (h:a≠0):a⁻¹=wj (a.den:Int) a.num:=by
 rw [Rat.inv_def]
def ayL (h:Rn P L) (Iu:Has P L 283 HK) {a:Rat} {K:Nat} (ka:Hq K a) (hK:K<=8000000000) (h0:a≠0):ai P L 283 [.str (RT a)] (.str (RT a⁻¹)):=by
 obtain ⟨x,y,e3,hx,hy⟩:=Dl h.toRm ka hK;have hn:a.num≠0:=fun e=>h0 (Rat.num_eq_zero.1 e)
 have e7:=QV h.toRm hK hy hx ka.2 ka.1 hn;rw [<-inv_divInt a h0] at e7;obtain ⟨xw,xl,rfl,dn,_,_,_⟩:=hx;obtain ⟨yw,yl,rfl,dt,_,_,_⟩:=hy;unfold ai at e3 e7 ⊢;rw [aF Iu];simp only [go_sem,ya,yd,HK,aY,e3,dn.pu,dn.an,dn.one,dt.pu,dt.an,dt.one,b5,pZ,er,Bs,e7]
end
def aar {P:aK} {L:Lib} (a b c d:VC) (s:St):D P L (.seq a (.seq b (.seq c d))) s=kj P L (D P L (.seq a (.seq b c)) s) d:=by
 have e:=A4 (P:=P) (L:=L) b c d;rw [jq,jq]
 cases D P L a s with
 | none=>rfl
 | some q=>
  obtain ⟨ex,st⟩:=q
  cases ex with
  | normal=>rw [fp,fp];exact e st
  | ret=>rfl
  | exit id=>rfl
def nP {a b:List Nat} (h:a≠b):cG a b=false:=by
 cases hb:cG a b with
 | false=>rfl
 | true=>exact absurd (PA hb) h
def abl:∀a:List Nat,cG a a=true
 | []=>rfl
 | x::a=>by simp [cG,abl a]
def afN {a b:List Nat} (h:a=b):cG a b=true:=h▸abl a
def aox {s:List Nat} {i:Nat} (h:i<s.length):cN (s.drop i)=(yy 48 s[i]&&yy s[i] 57&&cN (s.drop (i+1))):=by
 rw [yX h];rfl
section
variable {P:aK} {L:Lib}
def aAJ (h:Has P L 287 HL) {s:List Nat} (hl:s.length<9223372036854775808):ai P L 287 [.str s] (.bool (cN s)):=by
 have key:=kO (P:=P) (L:=L) (live:=[0,3]) (a:=Bl)
  (I:=fun k st=>∃i:Nat,st=⟨[(0,.str s),(3,ab i)],[],0,0⟩/\i+k=s.length/\cN (s.drop i)=cN s)
  (Q:=fun ex st=>∃tm ct,st=⟨tm,[],ct,0⟩/\((ex= .ret/\aj tm 2= .bool false/\cN s=false)\/(ex= .exit 0/\cN s=true))) ?_
 ·unfold ai;rw [aF h];simp only [go_sem,HL];generalize hq:D P L (.loop [0,3] Bl) _=q;obtain ⟨ex,st,rfl,tm,ct,rfl,h2⟩:=b6 hq (key s.length) ⟨0,by simp only [go_sem,ya,aB]<;>rfl,by omega,by simp⟩
  rcases h2 with ⟨rfl,h2,h3⟩ | ⟨rfl,h3⟩
  ·simp only [go_sem,h2,h3]
  ·simp only [go_sem,aB,h3]
 ·rintro k st ⟨i,rfl,hk,hs⟩;by_cases hi:i<s.length
  ·rw [aox hi] at hs;by_cases h1:s[i]<48
   ·right
    have e:yy 48 s[i]=false:=by
     cases hb:yy 48 s[i] with
     | false=>rfl
     | true=>have:=yp hb;omega
    rw [e,wB,wB] at hs;simp only [go_sem,ya,Bl,show (i:Int)<s.length by omega,oY hi,show ((s[i]:Nat):Int)<48 by omega,yo];exact ⟨_,_,rfl,by simp,_,_,rfl,.inl ⟨rfl,by simp only [go_sem],hs.symm⟩⟩
   ·by_cases h2:57<s[i]
    ·right
     have e:yy s[i] 57=false:=by
      cases hb:yy s[i] 57 with
      | false=>rfl
      | true=>have:=yp hb;omega
     rw [e,Bool.and_false,wB] at hs;simp only [go_sem,ya,Bl,show (i:Int)<s.length by omega,oY hi,show ¬((s[i]:Nat):Int)<48 by omega,yr,show (57:Int)<((s[i]:Nat):Int) by omega];exact ⟨_,_,rfl,by simp,_,_,rfl,.inl ⟨rfl,by simp only [go_sem],hs.symm⟩⟩
    ·left
     rw [yt (show 48<=s[i] by omega),yt (show s[i]<=57 by omega),wK,wK] at hs;simp only [go_sem,ya,Bl,show (i:Int)<s.length by omega,oY hi,show ¬((s[i]:Nat):Int)<48 by omega,yr,show ¬(57:Int)<((s[i]:Nat):Int) by omega];refine ⟨_,k-1,rfl,by omega,i+1,?_,by omega,hs⟩;rw [wrap64 (by omega) (by omega)];simp only [go_sem,ya,aB]<;>rfl
  ·right
   simp only [go_sem,ya,Bl,show ¬(i:Int)<s.length by omega];refine ⟨_,_,rfl,by simp,_,_,rfl,.inr ⟨rfl,?_⟩⟩;rw [<-hs,xk (by omega)];rfl
def Nl (h:Has P L 273 BN) (D3:Has P L 287 HL) {s:List Nat} (hl:s.length<9223372036854775808):ai P L 273 [.str s] (.bool (dB s)):=by
 have e:=aAJ D3 hl;unfold ai at e ⊢;rw [aF h]
 match s,hl,e with
 | [],_,_=>
  simp only [go_sem,ya,BN,yR,show ((0:Nat):Int)=0 from rfl,yo];rfl
 | [b],_,e=>
  have:dB [b]=cN [b]:=by simp [dB]
  rw [this];simp only [go_sem,ya,BN,yO,yR,yh,show ¬((1:Nat):Int)=0 by decide,show ¬(1:Int)<((1:Nat):Int) by decide,yr,e]
 | b::c::r,hl,e=>
  have hd:dB (b::c::r)=(cN (b::c::r)&& !(yq b 48)):=by simp [dB]
  rw [hd];have Ch:r.length+2<9223372036854775808:=by simpa using hl
  by_cases hb:b=48
  ·subst hb;simp only [go_sem,ya,BN,yO,show ¬((r.length+1+1:Nat):Int)=0 by omega,yr,show (1:Int)<((r.length+1+1:Nat):Int) by omega,show lS 0 (.str (48::c::r))=some (.int .u8 48) from rfl,yo]
   simp
  ·have:yq b 48=false:=gn hb
   rw [this,yP,uT];simp only [go_sem,ya,BN,yO,show ¬((r.length+1+1:Nat):Int)=0 by omega,yr,show (1:Int)<((r.length+1+1:Nat):Int) by omega,show lS 0 (.str (b::c::r))=some (.int .u8 (b:Nat)) from rfl,show ¬((b:Nat):Int)=48 by omega,e]
def abm {s:List Nat} {k:Nat} (h:k<=s.length):gF s (some 0) (some k)=some (.str (s.take k)):=by
 rw [jY (by omega) h,yu]
def Km {s:List Nat} {k:Nat} (h:k<=s.length):gF s (some k) (some s.length)=some (.str (s.drop k)):=by
 rw [jY h (yB _),xH]
def awU (h:Rm P L) {t:List Nat} {k:Nat} (hk:k=bJ t) (hl:t.length<9223372036854775808) (hp:dB (t.take k)=true) {tm:Env} (t3:aj tm 3= .str t) (t4:aj tm 4=ab k):
  cX [.t 2] (D P L (aq (aq (aq (aq (aq cR.body))))) ⟨tm,[],0,0⟩)=some (ab (
   if k<t.length/\(dB (t.drop (k+1))=false\/t.drop (k+1)=[48]\/t.drop (k+1)=[49]) then 1
   else if 600<k\/600<t.length-k-1 then 4
   else if k<t.length/\wm (fg (t.take k)) (fg (t.drop (k+1)))≠1 then 1
   else 0)):=by
 have Yg:k<=t.length:=by rw [hk];exact F0 t
 have e3:=Nl h.Nj h.D3 (s:=t.drop (k+1)) (by rw [xK];omega);unfold ai at e3;have AQ:(k:Int)+1=((k+1:Nat):Int):=rfl;by_cases hs:k<t.length
 ·have c2:=Km (s:=t) (k:=k+1) (by omega);have jn:=YC t (by omega);rw [<-hk] at jn;have EF:(t.drop (k+1)).length=t.length-k-1:=by rw [xK];omega
  have hlp:(t.take k).length=k:=by rw [yW];omega
  generalize hqe:t.drop (k+1)=q at*
  generalize hpe:t.take k=p at*
  cases hd:dB q with
  | false=>
   rw [yG ⟨hs,.inl rfl⟩];rw [hd] at e3
   simp only [go_sem,ya,cR,aq,t3,t4,show (k:Int)<(t.length:Int) by omega,yo,AQ,wrapN (n:=k+1) (by omega),eb,eE,df,c2,e3,yP]
  | true=>
   rw [hd] at e3;by_cases iQ:q=[48]
   ·rw [yG ⟨hs,.inr (.inl iQ)⟩]
    simp only [go_sem,ya,cR,aq,t3,t4,show (k:Int)<(t.length:Int) by omega,yo,AQ,wrapN (n:=k+1) (by omega),eb,eE,df,c2,e3,yN,jk,afN iQ]
   ·by_cases nt:q=[49]
    ·rw [yG ⟨hs,.inr (.inr nt)⟩]
     simp only [go_sem,ya,cR,aq,t3,t4,show (k:Int)<(t.length:Int) by omega,yo,AQ,wrapN (n:=k+1) (by omega),eb,eE,df,c2,e3,yN,jk,nP iQ,afN nt]
    ·rw [yv (by simp only [hs,tE,yaG,ybT];exact fun e=>e.elim iQ nt)]
     by_cases Ap:600<k
     ·rw [yG (.inl Ap)]
      simp only [go_sem,ya,cR,aq,t3,t4,show (k:Int)<(t.length:Int) by omega,yo,AQ,wrapN (n:=k+1) (by omega),eb,eE,df,c2,e3,yN,jk,nP iQ,nP nt,show (600:Int)<(k:Int) by omega]
     ·by_cases aAK:600<t.length-k-1
      ·rw [yG (.inr aAK)]
       simp only [go_sem,ya,cR,aq,t3,t4,show (k:Int)<(t.length:Int) by omega,yo,AQ,wrapN (n:=k+1) (by omega),eb,eE,df,c2,e3,yN,jk,nP iQ,nP nt,show ¬(600:Int)<(k:Int) by omega,yr,show (t.length:Int)-(k:Int)=((t.length-k:Nat):Int) by omega,wrapN (n:=t.length-k) (by omega),show ((t.length-k:Nat):Int)-1=((t.length-k-1:Nat):Int) by omega,wrapN (n:=t.length-k-1) (by omega),show (600:Int)<((t.length-k-1:Nat):Int) by omega]
      ·rw [yv (by omega)];have pT:=CO _ rfl hp;have nv:=CO _ rfl hd;have fU:fg q≠0:=fun e=>iQ (by rw [<-nv,e];rfl)
       have jy:fg q≠1:=fun e=>nt (by rw [<-nv,e];rfl)
       generalize fg p=n at*
       generalize fg q=d at*
       have hT:TT (n:Int) d=t:=by
        unfold TT;rw [kQ,yv jy,pT,nv];exact jn.symm
       obtain ⟨x,y,e4,hx,hy⟩:=ajt h.toRb (n:=(n:Int)) (d:=d) (by rw [xm,pT];omega) (by rw [nv];omega);rw [hT] at e4;obtain ⟨xw,xl,rfl,dn,dx,nx,vx⟩:=hx;obtain ⟨yw,yl,rfl,dt,dy,ny,vy⟩:=hy;rw [xm] at vx vy;have oC:n<10^p.length:=by rw [<-pT];exact Gn n
       have hdb:d<10^q.length:=by rw [<-nv];exact Gn d
       obtain ⟨K,hK⟩:∃K:Nat,K=600:=⟨_,rfl⟩;have N6:∀{m j:Nat},m<10^j->j<=K->m<1000000000^K:=fun {m j} h1 h2=>
        yE h1 (xb (yT (by decide) h2) (wU (by decide) K))
       have lxl:=gB dx nx (by rw [vx];exact N6 oC (by omega))
       have lyl:=gB dy ny (by rw [vy];exact N6 hdb (by omega))
       obtain ⟨g,lg,e5,hg,dgg,ngg,vg⟩:=ag8 h.ajl h.Is h.jN h.mT h.od h.cp h.pD dn dt dx dy nx ny (by omega) (by omega);rw [vx,vy] at vg;have IS:0<wm n d:=Nat.gcd_pos_of_pos_right _ (by omega);unfold ai at e4 e5;by_cases WS:lg.length=1
       ·obtain ⟨z,rfl⟩:∃z,lg=[z]:=by
         cases lg with
         | nil=>simp at WS
         | cons z r=>cases r with
          | nil=>exact ⟨z,rfl⟩
          | cons y r=>simp at WS
        have gz:=iV.1 dgg;have Js:z=(wm n d:Nat):=by simp [dv] at vg;omega
        have e8:=hg.cd (i:=0) (by simp);simp only [uI] at e8;by_cases gH:wm n d=1
        ·rw [yv (by simp [gH])]
         simp only [go_sem,ya,yd,cR,aq,t3,t4,show (k:Int)<(t.length:Int) by omega,yo,AQ,wrapN (n:=k+1) (by omega),eb,eE,df,c2,e3,yN,jk,nP iQ,nP nt,show ¬(600:Int)<(k:Int) by omega,yr,show (t.length:Int)-(k:Int)=((t.length-k:Nat):Int) by omega,wrapN (n:=t.length-k) (by omega),show ((t.length-k:Nat):Int)-1=((t.length-k-1:Nat):Int) by omega,wrapN (n:=t.length-k-1) (by omega),show ¬(600:Int)<((t.length-k-1:Nat):Int) by omega,e4,aY,dn.pu,dn.an,dn.one,dt.pu,dt.an,dt.one,er,bI,yh,cx,e5,hg.len,hg.shut,yO,yR,show ((1:Nat):Int)=(1:Int) from rfl,yN,e8,Js,gH]
        ·rw [yG ⟨hs,gH⟩]
         simp only [go_sem,ya,yd,cR,aq,t3,t4,show (k:Int)<(t.length:Int) by omega,yo,AQ,wrapN (n:=k+1) (by omega),eb,eE,df,c2,e3,yN,jk,nP iQ,nP nt,show ¬(600:Int)<(k:Int) by omega,yr,show (t.length:Int)-(k:Int)=((t.length-k:Nat):Int) by omega,wrapN (n:=t.length-k) (by omega),show ((t.length-k:Nat):Int)-1=((t.length-k-1:Nat):Int) by omega,wrapN (n:=t.length-k-1) (by omega),show ¬(600:Int)<((t.length-k-1:Nat):Int) by omega,e4,aY,dn.pu,dn.an,dn.one,dt.pu,dt.an,dt.one,er,bI,yh,cx,e5,hg.len,hg.shut,yO,yR,show ((1:Nat):Int)=(1:Int) from rfl,yN,e8,Js,show ¬((wm n d:Nat):Int)=1 by omega,yP]
       ·have gH:wm n d≠1:=fun e=>WS (by
         have h1:lg.length<=1:=PY dgg ngg (by omega);have h2:0<lg.length:=by
          rcases xe lg.length with h0 | h0
          ·rw [yD h0] at vg;simp [dv] at vg;omega
          ·exact h0
         omega)
        rw [yG ⟨hs,gH⟩]
        simp only [go_sem,ya,yd,cR,aq,t3,t4,show (k:Int)<(t.length:Int) by omega,yo,AQ,wrapN (n:=k+1) (by omega),eb,eE,df,c2,e3,yN,jk,nP iQ,nP nt,show ¬(600:Int)<(k:Int) by omega,yr,show (t.length:Int)-(k:Int)=((t.length-k:Nat):Int) by omega,wrapN (n:=t.length-k) (by omega),show ((t.length-k:Nat):Int)-1=((t.length-k-1:Nat):Int) by omega,wrapN (n:=t.length-k-1) (by omega),show ¬(600:Int)<((t.length-k-1:Nat):Int) by omega,e4,aY,dn.pu,dn.an,dn.one,dt.pu,dt.an,dt.one,er,bI,yh,cx,e5,hg.len,hg.shut,show ¬(lg.length:Int)=1 by omega,yP]
 ·have hkt:k=t.length:=by omega
  rw [yv (by omega)];by_cases Ap:600<k
  ·rw [yG (.inl Ap)];simp only [go_sem,ya,cR,aq,t3,t4,show ¬(k:Int)<(t.length:Int) by omega,yr,show (600:Int)<(k:Int) by omega,yo]
  ·rw [yv (by omega),yv (by omega)]
   simp only [go_sem,ya,cR,aq,t3,t4,show ¬(k:Int)<(t.length:Int) by omega,yr,show ¬(600:Int)<(k:Int) by omega,show (t.length:Int)-(k:Int)=((t.length-k:Nat):Int) by omega,wrapN (n:=t.length-k) (by omega),show ((t.length-k:Nat):Int)-1= -1 by omega,show IntKind.wrap .i64 (-1)= -1 by rfl,show ¬(600:Int)<(-1:Int) by omega]
def afO (h:Rm P L) {b:Nat} {r:List Nat} {t:List Nat} {neg:Bool} (eL:decide (((b:Nat):Int)=45)=neg) (hl:t.length<9223372036854775808) {tm:Env} (t0:aj tm 0= .str (b::r)) (t3:aj tm 3= .str t):
  cX [.t 2] (D P L (aq (aq (aq cR.body))) ⟨tm,[],0,0⟩)=some (ab (sE neg t)):=by
 obtain ⟨k,hk⟩:∃k,k=bJ t:=⟨_,rfl⟩;have Yg:k<=t.length:=by rw [hk];exact F0 t
 have e1:=BX h.ss (s:=t) (by omega);have e2:=Nl h.Nj h.D3 (s:=t.take k) (by rw [yW];omega);have e3:=Nl h.Nj h.D3 (s:=t.drop (k+1)) (by rw [xK];omega);unfold sE;rw [<-hk] at e1 ⊢;have c1:=abm Yg;have hI:lS 0 (.str (b::r))=some (.int .u8 (b:Nat)):=rfl;unfold ai at e1 e2 e3;generalize hp:t.take k=p at*
 generalize hq:t.drop (k+1)=q at*
 cases hd:dB p with
 | false=>
  rw [yG (.inl rfl)];rw [hd] at e2;simp only [go_sem,ya,cR,aq,t3,e1,eb,eE,df,c1,e2,yP]
 | true=>
  rw [hd] at e2;by_cases hz:neg=true/\p=[48]
  ·rw [yG (.inr hz)];obtain ⟨z1,z2⟩:=hz;rw [z1] at eL;have hb:=of_decide_eq_true eL;subst z2;simp only [go_sem,ya,cR,aq,t0,t3,e1,eb,eE,df,c1,e2,yN,hI,hb,yo,jk,show cG [48] [48]=true from rfl]
  ·rw [yv (by simp only [yaG,ybT];exact hz)]
   have fin:∀bU,aj bU 3= .str t->aj bU 4=ab k->D P L (.seq (aS (aq (aq (aq cR.body)))) (aS (aq (aq (aq (aq cR.body)))))) ⟨tm,[],0,0⟩=some (.normal,⟨bU,[],0,0⟩)->cX [.t 2] (D P L (aq (aq (aq cR.body))) ⟨tm,[],0,0⟩)=some (ab (
     if k<t.length/\(dB q=false\/q=[48]\/q=[49]) then 1
     else if 600<k\/600<t.length-k-1 then 4
     else if k<t.length/\wm (fg p) (fg q)≠1 then 1
     else 0)):=fun bU f3 f4 e=>by
    show cX [.t 2] (D P L (.seq (aS (aq (aq (aq cR.body)))) (.seq (aS (aq (aq (aq (aq cR.body))))) (aq (aq (aq (aq (aq cR.body))))))) ⟨tm,[],0,0⟩)=_
    rw [A4,e,fp,<-hp,<-hq];exact awU h hk hl (by rw [hp];exact hd) f3 f4
   by_cases hb:((b:Nat):Int)=45
   ·have aAL:p≠[48]:=fun e=>hz ⟨by rw [<-eL];exact xa hb,e⟩
    refine fin _ ?_ ?_ (by simp only [go_sem,ya,cR,aS,aq,t0,t3,e1,eb,eE,df,c1,e2,yN,hI,hb,yo,jk,nP aAL]<;>rfl)<;>simp only [go_sem,ya,t3]
   ·refine fin _ ?_ ?_ (by simp only [go_sem,ya,cR,aS,aq,t0,t3,e1,eb,eE,df,c1,e2,yN,hI,hb,yr]<;>rfl)<;>simp only [go_sem,ya,t3]
def aAM (h:Rm P L) {s:List Nat} (hl:s.length<9223372036854775808):ai P L 263 [.str s] (ab (kM s)):=by
 unfold ai;rw [aF h.aAC]
 cases s with
 | nil=>
  have e1:=BX h.ss (s:=[]) (by simp);have e2:=Nl h.Nj h.D3 (s:=[]) (by simp);unfold ai at e1 e2;have hc:gF [] (some 0) (some 0)=some (.str []):=rfl;simp only [go_sem,ya,cR,yR,show ¬(0:Int)<((0:Nat):Int) by decide,yr,e1,bJ,eb,eE,df,hc,e2,show dB []=false from rfl,yP];rfl
 | cons b t=>
  have Ch:t.length+1<9223372036854775808:=by simpa using hl
  have hI:lS 0 (.str (b::t))=some (.int .u8 (b:Nat)):=rfl;by_cases hb:b=45
  ·subst hb;have fin:∀bU,aj bU 0= .str (45::t)->aj bU 3= .str t->D P L (.seq (aS cR.body) (.seq (aS (aq cR.body)) (aS (aq (aq cR.body))))) ⟨[(0,.str (45::t))],[],0,0⟩=some (.normal,⟨bU,[],0,0⟩)->cX [.t 2] (D P L cR.body ⟨[(0,.str (45::t))],[],0,0⟩)=some (ab (kM (45::t))):=fun bU f0 f3 e=>by
    show cX [.t 2] (D P L (.seq (aS cR.body) (.seq (aS (aq cR.body)) (.seq (aS (aq (aq cR.body))) (aq (aq (aq cR.body)))))) ⟨[(0,.str (45::t))],[],0,0⟩)=_
    rw [aar,e,fp]
    exact afO h (b:=45) rfl (by omega) f0 f3
   have hc:gF (45::t) (some 1) (some (t.length+1))=some (.str t):=by
    have:=Km (s:=45::t) (k:=1) (by simp)
    simpa using this
   refine fin _ ?_ ?_ (by simp only [go_sem,ya,cR,aS,aq,yO,show (0:Int)<((t.length+1:Nat):Int) by omega,yo,BY,eb,eE,df,hc]<;>rfl)<;>simp only [go_sem,ya]
  ·have fin:∀bU,aj bU 0= .str (b::t)->aj bU 3= .str (b::t)->D P L (.seq (aS cR.body) (.seq (aS (aq cR.body)) (aS (aq (aq cR.body))))) ⟨[(0,.str (b::t))],[],0,0⟩=some (.normal,⟨bU,[],0,0⟩)->cX [.t 2] (D P L cR.body ⟨[(0,.str (b::t))],[],0,0⟩)=some (ab (kM (b::t))):=fun bU f0 f3 e=>by
    show cX [.t 2] (D P L (.seq (aS cR.body) (.seq (aS (aq cR.body)) (.seq (aS (aq (aq cR.body))) (aq (aq (aq cR.body)))))) ⟨[(0,.str (b::t))],[],0,0⟩)=_
    rw [aar,e,fp]
    have:=afO h (b:=b) (neg:=false) (yM (by omega)) (by simpa using hl) f0 f3
    rw [this];simp only [kM,yv hb]
   refine fin _ ?_ ?_ (by simp only [go_sem,ya,cR,aS,aq,yO,show (0:Int)<((t.length+1:Nat):Int) by omega,yo,hI,show ¬((b:Nat):Int)=45 by omega]<;>rfl)<;>simp only [go_sem,ya]
end
def AR (v:AV) (l:List (List Nat)):Prop:=cE v (l.map AV.str)
section
variable {v:AV} {l:List (List Nat)}
def AR.len (h:AR v l) {hp:Hp}:jo hp 1 v=some (.int .i64 (l.length:Nat)):=by
 have:=cE.len (hp:=hp) h
 grind
def AR.pu (h:AR v l):bh v=true:=cE.pu h
def AR.cd (h:AR v l) {i:Nat} (hi:i<l.length):j8 1 i v=some (.b7 (.str l[i]::(l.map AV.str).drop (i+1))):=by
 have:=cE.cd h (i:=i) (by simpa using hi)
 grind
def asX (e:Bool) (l:List (List Nat)):AR (.aC e l.length (l.map AV.str)) l:=by
 have:=PL e (l.map AV.str)
 rwa [xt] at this
end
section
variable {P:aK} {L:Lib}
def asY (h:Rm P L) {a:Rat} {K:Nat} (ka:Hq K a) (hK:K<=4000000000):bG P L (D P L) 284 [.str (RT a)]=some (.str (aW a.num))/\bG P L (D P L) 285 [.str (aW a.num)]=some (.str (ax a.num.natAbs))/\bG P L (D P L) 286 [.str (RT a)]=some (.str (ax a.den)):=by
 have hl:=Df ka;have e0:=BX h.ss (s:=RT a) (by omega);have kF:bJ (RT a)=(aW a.num).length/\(RT a).take (aW a.num).length=aW a.num:=by
  unfold RT;by_cases hd:a.den=1
  ·rw [yG hd,xZ]
   have:=CG a.num []
   rw [xZ] at this;exact ⟨by rw [this];simp [bJ],xH⟩
  ·rw [yv hd];exact ⟨by rw [CG];simp [bJ],tg⟩
 obtain ⟨dP,qZ⟩:=kF;rw [dP] at e0;have hlen:(aW a.num).length<=(RT a).length:=by unfold RT;simp
 have e1:bG P L (D P L) 284 [.str (RT a)]=some (.str (aW a.num)):=by
  rw [aF h.aAD]
  have:=abm (s:=RT a) hlen
  simp only [go_sem,ya,RF,e0,eb,eE,df,this,qZ]
 have hT:aW a.num=TT a.num 1:=by unfold TT;simp
 have e2:bG P L (D P L) 285 [.str (aW a.num)]=some (.str (ax a.num.natAbs)):=by
  have e:=ahb h (n:=a.num) (d:=1) (by rw [<-hT];omega) (fun _=>rfl);rw [<-hT] at e;rw [aF h.aAE];by_cases h0:a.num<0
  ·have es:bL a.num= -1:=by unfold bL;rw [yG h0]
   rw [es] at e;rw [nF h0] at e ⊢;have hc:=Km (s:=45::ax a.num.natAbs) (k:=1) (by simp);simp only [List.drop_succ_cons,yu,yO] at hc;simp only [go_sem,ya,LU,e,show (-1:Int)<0 by decide,eb,eE,df,hc]
  ·have es:¬bL a.num<0:=by unfold bL;rw [yv h0];split<;>decide
   have hi:aW a.num=ax a.num.natAbs:=by
    obtain ⟨m,hm⟩:∃m:Nat,a.num=m:=⟨a.num.toNat,by omega⟩;rw [hm,kQ,xm]
   simp only [go_sem,ya,LU,e,es];rw [hi]
 have e3:bG P L (D P L) 286 [.str (RT a)]=some (.str (ax a.den)):=by
  rw [aF h.aAF];by_cases hd:a.den=1
  ·have hR:(RT a).length=(aW a.num).length:=by unfold RT;rw [yG hd];simp
   rw [hd,show ax 1=[49] by decide];simp only [go_sem,ya,LV,e0,show ((aW a.num).length:Int)=((RT a).length:Int) by omega,yo]
  ·have hR:RT a=(aW a.num++[47])++ax a.den:=by unfold RT;rw [yv hd];simp
   have hRl:(RT a).length=(aW a.num).length+1+(ax a.den).length:=by rw [hR];simp;omega
   have hc:=Km (s:=RT a) (k:=(aW a.num).length+1) (by omega);have iz:(RT a).drop ((aW a.num).length+1)=ax a.den:=by
    rw [hR,show (aW a.num).length+1=(aW a.num++[47]).length by simp,th]
   rw [iz] at hc
   simp only [go_sem,ya,LV,e0,show ¬((aW a.num).length:Int)=((RT a).length:Int) by omega,show ((aW a.num).length:Int)+1=(((aW a.num).length+1:Nat):Int) from rfl,wrapN (n:=(aW a.num).length+1) (by omega),eb,eE,df,hc]
 exact ⟨e1,e2,e3⟩
def ayM (h:Rl P L) {a:Rat} {K:Nat} (ka:Hq K a) (hK:K<=4000000000):ai P L 269 [.str (RT a)] (ab (if LG a=true then 4 else 0)):=by
 obtain ⟨e1,e2,e3⟩:=asY h.toRm ka hK;unfold ai;rw [aF h.aAG];unfold LG LN;rw [xm];by_cases h1:600<(ax a.num.natAbs).length
 ·rw [xa h1,yah,yG rfl];simp only [go_sem,ya,HH,e1,e2,show (600:Int)<((ax a.num.natAbs).length:Int) by omega,yo]
 ·by_cases h2:600<(ax a.den).length
  ·rw [xa h2,Bool.or_true,yG rfl];simp only [go_sem,ya,HH,e1,e2,show ¬(600:Int)<((ax a.num.natAbs).length:Int) by omega,yr,e3,show (600:Int)<((ax a.den).length:Int) by omega]
  ·rw [yM h1,yM h2,Bool.or_self,yv (by decide)];simp only [go_sem,ya,HH,e1,e2,show ¬(600:Int)<((ax a.num.natAbs).length:Int) by omega,yr,e3,show ¬(600:Int)<((ax a.den).length:Int) by omega]
end
section
open Go (IntKind)
open Classical in
noncomputable def po (s:List Nat):Rat:=if h:kM s=0 then Classical.choose (awz h) else 0
def abn {s:List Nat} (h:kM s=0):s=RT (po s)/\(ax (po s).num.natAbs).length<=600/\(ax (po s).den).length<=600:=by
 unfold po
 grind
def aas {z:Int} {k M:Nat} (h:(ax z.natAbs).length<=k) (hM:4*k<=M):Bd M z:=by
 have h1:=Gn z.natAbs;have h2:=Gp (ax z.natAbs).length;have h3:(2:Nat)^(4*(ax z.natAbs).length)<=2^M:=yT (by decide) (by omega);exact yE h1 (xb h2 h3)
def asZ {s:List Nat} (h:kM s=0) {M:Nat} (hM:2400<=M):Hq M (po s):=by
 obtain ⟨_,h1,h2⟩:=abn h
 exact ⟨aas h1 (by omega),aas (z:=((po s).den:Int)) (by rw [xm];exact h2) (by omega)⟩
instance (k:Nat) (z:Int):Decidable (Bd k z):=inferInstanceAs (Decidable (z.natAbs<2^k))
def aAN:RT 1=[49]:=by decide
def et:Rat:=⟨1,2,by decide,by decide⟩
def ajv:RT et=[49,47,50]:=by decide
def aAO:Hq 2 1:=⟨by decide,by decide⟩
def WT:Hq 2 et:=⟨by decide,by decide⟩
section
variable {P:aK} {L:Lib}
def Iv (h:Rp P L) (B4:Has P L 315 LY) {a b:Rat} {K M:Nat} (ka:Hq K a) (kb:Hq M b) (hK:K+M+1<=8000000000):ai P L 315 [.str (RT a),.str (RT b)] (ab (bL (a-b).num)):=by
 have e1:=ahd h ka kb hK;have e2:=Ll h.toRm (ka.sub kb) hK;unfold ai at e1 e2 ⊢;rw [aF B4];simp only [go_sem,ya,LY,e1,e2]
def aAP (h:Rn P L) (WU:Has P L 319 LZ) {a:Rat} {K:Nat} (ka:Hq K a) (hK:K+2<=8000000000):ai P L 319 [.str (RT a)] (.str (RT (a*et))):=by
 have e1:=Hm h ka WT hK;rw [ajv] at e1;unfold ai at e1 ⊢;rw [aF WU];simp only [go_sem,ya,LZ,e1]
end
end
section
variable {P:aK} {L:Lib}
def aat (a:List Nat):cG a a=true:=KF rfl
end
structure F4 (c1 c2 c3 c4:AV):Prop where
 an:∀(n:Nat) (hp:Hp),freeze (n+20) hp (.agg [c1,c2,c3,c4])=some (.agg [c1,c2,c3,c4],hp)
 cZ:∀hp:Hp,result hp (.agg [c1,c2,c3,c4])=some (.agg [c1,c2,c3,c4])
 st:∀(hp:Hp) (ct id:Nat) (a b c d:AV),jT hp ct id 0 4 [c1,c2,c3,c4] (some (.cells true true true 4 [a,b,c,d]))=some (.aa [],bf hp id (.cells true true true 4 [c1,c2,c3,c4]),ct)
 bx:∀ct:Nat,DX ct 4 [c1,c2,c3,c4]=some (.ptr ct 0,.cells true true true 4 [c1,c2,c3,c4])
 o1:dV c1=true
 o2:dV c2=true
 o3:dV c3=true
 o4:dV c4=true
 pu:bh (.agg [c1,c2,c3,c4])=true
 z1:∀(n:Nat) (hp:Hp),freeze (n+1) hp c1=some (c1,hp)
 z2:∀(n:Nat) (hp:Hp),freeze (n+1) hp c2=some (c2,hp)
 z3:∀(n:Nat) (hp:Hp),freeze (n+1) hp c3=some (c3,hp)
 z4:∀(n:Nat) (hp:Hp),freeze (n+1) hp c4=some (c4,hp)
def dC.gen {v:AV} {a:Rat} (h:dC v a):∃c1 c2 c3 c4,v= .agg [c1,c2,c3,c4]/\F4 c1 c2 c3 c4:=by
 obtain ⟨s1,w1,s2,w2,rfl,h1,h2⟩:=h;obtain ⟨l1,u1⟩:=h1.aJ;obtain ⟨l2,u2⟩:=h2.aJ;refine ⟨_,_,_,_,rfl,fun n hp=>?_,jt u1 u2,fun hp ct id a b c d=>js u1 u2 hp ct id a b c d,fun ct=>by simp only [go_sem,yd,aY,u1.pu,u1.one,u2.pu,u2.one],rfl,u1.one,rfl,u2.one,by simp [bh,aI,u1.pu,u2.pu],fun _ _=>rfl,fun n _=>u1.an n,fun _ _=>rfl,fun n _=>u2.an n⟩;exact b5 _ _ (by simp only [go_sem,u1.an,u2.an])
def ayN (n k:Nat) (h:n<k) (h0:k≠0):Hq k ((2:Rat)^n):=by
 refine ⟨?_,?_⟩
 ·rw [ycs];unfold Bd;show ((2:Int)^n).natAbs<_
  rw [Int.natAbs_pow];exact wJ (by decide) h
 ·rw [yct];unfold Bd;show (((1:Nat)^n:Nat):Int).natAbs<_
  rw [Nat.one_pow];exact wS h0
def abo (k:Nat) {z:Int} (h:Bd k z) (h0:k≠0):Hq k ((z:Int):Rat):=⟨by rw [vI];exact h,by rw [vj];exact wS h0⟩
def ahe (k j:Nat) {s:Bool} {M:Nat} (h:M<2^j) (hj:j<=k):Bd k (bc s M):=by
 unfold Bd bc
 have:(if s=true then -(M:Int) else (M:Int)).natAbs=M:=by split<;>omega
 rw [this];exact yE h (yT (by decide) hj)
def lK (s:Bool) (M:Nat):Rat:=((bc s M:Int):Rat)*p2 (-149)
section
variable {P:aK} {L:Lib}
def ajw (h:Fr' P L) (mR:Has P L 155 BM) (sF:Has P L 241 Dy) {v:AV} {a:Rat} {K k:Nat} (hv:dC v a) (ka:Hq K a) (hK:K*k+1<=30000000000) (hk:k<9223372036854775808):∃r,ai P L 241 [v,ab k] r/\dC r (a^k):=by
 obtain ⟨s1,w1,s2,w2,rfl,h1,h2⟩:=hv;obtain ⟨l1,u1⟩:=h1.aJ;obtain ⟨l2,u2⟩:=h2.aJ;obtain ⟨n,e1,hn⟩:=WB h.toNu mR ⟨s1,w1,rfl,h1⟩ ka.1 hK hk;obtain ⟨d,e2,hd⟩:=WB h.toNu mR ⟨s2,w2,rfl,h2⟩ ka.2 hK hk;obtain ⟨s3,w3,rfl,h3⟩:=hn;obtain ⟨s4,w4,rfl,h4⟩:=hd;obtain ⟨l3,u3⟩:=h3.aJ;obtain ⟨l4,u4⟩:=h4.aJ;refine ⟨.agg [ab s3,w3,ab s4,w4],?_,s3,w3,s4,w4,rfl,by rw [ycs];exact h3,by rw [yct,Int.natCast_pow];exact h4⟩
 unfold ai at e1 e2;unfold ai;rw [aF sF];simp only [go_sem,ya,yd,Dy,aY,u1.pu,u1.an,u1.one,u2.pu,u2.an,u2.one,u3.one,u4.one,bI,yh,mG,qu,b5,e1,e2,bt,zB,zC,js u3 u4,dQ,dT,yu,dO,jt u3 u4]
def G3:Hq 2 (2:Rat):=⟨by unfold Bd;decide,by unfold Bd;decide⟩
def WV (h:Fr' P L) (mR:Has P L 155 BM) (sF:Has P L 241 Dy) (B5:Has P L 228 Dw) {k:Int} (hk: -100000<=k/\k<=100000):∃r,ai P L 228 [ab k] r/\dC r (p2 k):=by
 obtain ⟨t,e1,ht⟩:=m69 h (z:=2) (by decide) (by decide);have ht:dC t (2:Rat):=ht;have un:=oW;obtain ⟨t1,t2,t3,t4,rfl,ft⟩:=ht.gen;by_cases c:k<0
 ·obtain ⟨n,hn⟩:∃n:Nat,k= -(n:Int):=⟨k.natAbs,by omega⟩;obtain ⟨q,e2,hq⟩:=ajw h mR sF ht G3 (k:=n) (by omega) (by omega);have kq:Hq 100001 ((2:Rat)^n):=ayN n 100001 (by omega) (by decide);have h0:(2:Rat)^n≠0:=by
   have:=Lh n
   rwa [show p2 n=(2:Rat)^n from uF _ _] at this
  obtain ⟨r,e3,hr⟩:=m73 h hq h0 kq (by decide);obtain ⟨q1,q2,q3,q4,rfl,fq⟩:=hq.gen;have hp:((2:Rat)^n)⁻¹=p2 k:=by
   rw [hn];unfold p2;rw [ycc,uF]
  rw [hp] at hr;have bW:=hr;obtain ⟨s1,w1,s2,w2,rfl,k1,k2⟩:=hr;obtain ⟨l1,u1⟩:=k1.aJ;obtain ⟨l2,u2⟩:=k2.aJ;refine ⟨_,?_,bW⟩;have wn:IntKind.wrap .i64 (0-k)=(n:Int):=by rw [wrap64 (by omega) (by omega)];omega
  unfold ai at e1 e2 e3;unfold ai;rw [aF B5];simp only [go_sem,ya,yd,Dw,aY,c,yo,e1,ft.an,wn,e2,fq.an,e3,bt,js u1 u2,dQ,dT,yu,dO,jt u1 u2]
 ·obtain ⟨n,hn⟩:∃n:Nat,k=(n:Int):=⟨k.natAbs,by omega⟩;subst hn;obtain ⟨r,e2,hr⟩:=ajw h mR sF ht G3 (k:=n) (by omega) (by omega);have hp:(2:Rat)^n=p2 n:=(uF _ _).symm;rw [hp] at hr;have bW:=hr;obtain ⟨s1,w1,s2,w2,rfl,k1,k2⟩:=hr;obtain ⟨l1,u1⟩:=k1.aJ;obtain ⟨l2,u2⟩:=k2.aJ;refine ⟨_,?_,bW⟩;unfold ai at e1 e2;unfold ai;rw [aF B5];simp only [go_sem,ya,yd,Dw,aY,c,yr,e1,ft.an,e2,bt,js u1 u2,dQ,dT,yu,dO,jt u1 u2]
end
def ji (b:Nat):refs (.aw .f32 b)=[]:=rfl
def jl (f:Nat->Option Nat) (b:Nat):bT f (.aw .f32 b)= .aw .f32 b:=rfl
def pc (n:Nat) (hp:Hp) (b:Nat):freeze (n+1) hp (.aw .f32 b)=some (.aw .f32 b,hp):=rfl
structure Fx (P:aK) (L:Lib):Prop extends Fr' P L where
 mR:Has P L 155 BM
 B5:Has P L 228 Dw
 aAQ:Has P L 232 lm
 sF:Has P L 241 Dy
def oO:Hp:=[(0,.cells true true true 4 [.int .i64 0,.ae,.int .i64 0,.ae])]
section
variable {P:aK} {L:Lib}
def awV {s:Bool} {M:Nat} (hM:M<2^277):
  ∀(d:Nat) (st:St),(∃(b:Nat) (N:Nat) (k:Nat),d=N/\Fl b s N/\N*2^k=M/\(M=0->k=0)/\aQ [0,2,3] st=⟨[(0,.aw .f32 b),(2,.ptr 0 0),(3,ab k)],oO,1,0⟩)->
   ∃ex s',D P L (.loop [0,2,3] GH) st=some (ex,s')/\∃tm ct b N,∃k:Nat,s'=⟨tm,oO,ct,0⟩/\ex= .exit 0/\Fl b s N/\N*2^k=M/\N<2^173/\k<277/\aj tm 0= .aw .f32 b/\aj tm 2= .ptr 0 0/\aj tm 3=ab k:=by
 intro dq sq;generalize bq:aQ [0,2,3] sq=s0;revert bq s0 sq dq;apply dh;rintro d st ⟨b,N,k,hd,hN,hq,hz,rfl⟩;have hk:k<277:=by
  by_cases h0:M=0
  ·rw [hz h0];decide
  ·have N0:0<N:=by
    rcases xe N with q | q
    ·rw [q,wh] at hq;exact absurd hq.symm h0
    ·exact q
   have h1:2^k<=N*2^k:=uO _ N0;exact ajd k 277 (xB (by rw [hq] at h1;exact h1) hM)
 obtain ⟨a,e1,ha⟩:=ayB hN;have e2:=ag3 ha ag4;have hc:(bc false (2^173)<=bc false N)↔2^173<=N:=Int.ofNat_le;unfold oO;by_cases c:2^173<=N
 ·left
  obtain ⟨b',e3,bC⟩:=Qq hN (hN.even c);have q9:=hN.even c;rw [xa (hc.2 c)] at e2;have wk:IntKind.wrap .i64 ((k:Int)+1)=((k+1:Nat):Int):=wrap64 (by omega) (by omega);simp only [go_sem,ya,GH,Lj,lQ,e1,e2,e3,wk];have mU:0<2^k:=y9 _;have rz:M≠0:=fun q=>by
   rw [q] at hq
   have:=wY (show 0<N by omega) mU
   omega
  refine ⟨_,N/2,rfl,by omega,b',N/2,k+1,rfl,bC,by rw [yZ,xg (2^k),<-xd,show N/2*2=N by omega,hq],fun q=>absurd q rz,?_⟩;simp only [go_sem,ya,yd,aB,ji,jl]<;>rfl
 ·right
  rw [yM (fun q=>c (hc.1 q))] at e2;simp only [go_sem,ya,GH,Lj,lQ,e1,e2];exact ⟨_,_,rfl,by simp,_,_,b,N,k,rfl,rfl,hN,hq,by omega,hk,by simp only [go_sem,ya],by simp only [go_sem,ya],by simp only [go_sem,ya]⟩
def awW {s:Bool} {M:Nat}:
  ∀(d:Nat) (st:St),(∃(b:Nat) (N:Nat) (j:Nat) (k:Int),d+j=149/\Fl b s N/\2^j∣N/\N<2^173/\(N:Rat)*p2 k=(M:Rat)/\-149<=k+j/\k+j<=277/\aQ [0,2,3] st=⟨[(0,.aw .f32 b),(2,.ptr 0 0),(3,ab k)],oO,1,0⟩)->
   ∃ex s',D P L (.loop [0,2,3] GI) st=some (ex,s')/\∃tm ct b N,∃k:Int,s'=⟨tm,oO,ct,0⟩/\ex= .exit 2/\Fl b s N/\N%2^149=0/\N<2^173/\(N:Rat)*p2 k=(M:Rat)/\-298<=k/\k<=277/\aj tm 0= .aw .f32 b/\aj tm 2= .ptr 0 0/\aj tm 3=ab k:=by
 intro dq sq;generalize bq:aQ [0,2,3] sq=s0;revert bq s0 sq dq;apply dh;rintro d st ⟨b,N,j,k,hd,hN,hj,aG,hq,k1,k2,rfl⟩;have oe:N<2^200:=vc aG (by decide);have e1:=KH hN oe;have hn:N/2^149<2^24:=by rw [xy (y9 _),<-xn];exact aG
 have ha:(bc s (N/2^149)).natAbs=N/2^149:=by unfold bc;split<;>omega
 obtain ⟨c,e2,hc⟩:=PX (n:=bc s (N/2^149)) (by omega);rw [ha] at hc;have e3:=QS hN hc;have dZ:=xF N (2^149);have hw:(bc s N=bc (decide (bc s (N/2^149)<0)) (N/2^149*2^149))↔N%2^149=0:=by
  have Ys:N/2^149=0->N/2^149*2^149=0:=fun h=>by rw [h,wh]
  generalize hQ:N/2^149=q at*
  generalize hR:N%2^149=r at*
  rw [xg] at dZ;generalize q*2^149=X at*
  unfold bc
  cases s with
  | false=>
   have:decide ((if false=true then -(q:Int) else (q:Int))<0)=false:=yM (by simp)
   rw [this];simp;omega
  | true=>
   rw [yG rfl,yG rfl];by_cases q0:q=0
   ·have hX:=Ys q0
    have:decide (-(q:Int)<0)=false:=yM (by omega)
    rw [this,yv (by decide)];omega
   ·have:decide (-(q:Int)<0)=true:=xa (by omega)
    rw [this,yG rfl];omega
 unfold oO;by_cases w:N%2^149=0
 ·right
  rw [xa (hw.2 w)] at e3;simp only [go_sem,ya,GI,e1,e2,e3,yN];have aGq:j<=149:=by omega
  exact ⟨_,_,rfl,by simp,_,_,b,N,k,rfl,rfl,hN,w,aG,hq,by omega,by omega,by simp only [go_sem,ya],by simp only [go_sem,ya],by simp only [go_sem,ya]⟩
 ·left
  rw [yM (fun q=>w (hw.1 q))] at e3;have aAR:N<2^172:=by
   by_cases q:N<2^172
   ·exact q
   ·exact absurd (hN.whole (by omega)) w
  obtain ⟨b',e4,bC⟩:=Qp hN (vc aG (ajc 173 276 (by decide)));have Cb:j<149:=by
   rcases wX j 149 with q | q
   ·exact q
   ·have:j=149:=by omega
    subst this;exact absurd (Nat.mod_eq_zero_of_dvd hj) w
  have wk:IntKind.wrap .i64 (k-1)=k-1:=wrap64 (by omega) (by omega);simp only [go_sem,ya,GI,e1,e2,e3,yP,e4,wk];refine ⟨_,d-1,rfl,by omega,b',2*N,j+1,k-1,by omega,bC,by rw [yZ,xg (2^j)];exact Nat.mul_dvd_mul_left 2 hj,by omega,?_,by omega,by omega,?_⟩
  ·rw [<-hq,xv]
   have:p2 k=p2 1*p2 (k-1):=by rw [<-dU,show 1+(k-1)=k by omega]
   rw [this,oc];show (2:Rat)*(N:Rat)*p2 (k-1)=(N:Rat)*(2*p2 (k-1))
   grind
  ·simp only [go_sem,ya,yd,aB,ji,jl]<;>rfl
def afP {s:Bool} {M N:Nat} {k:Int} (h:(N:Rat)*p2 k=(M:Rat)) (hw:N%2^149=0):((bc s (N/2^149):Int):Rat)*p2 k=lK s M:=by
 have e:N=N/2^149*2^149:=by have:=xF N (2^149);omega
 have h1:((N/2^149:Nat):Rat)*p2 149=(N:Rat):=by
  conv=>rhs;rw [e,xv,<-eI]
  rfl
 generalize N/2^149=n at h1;have h2:((n:Nat):Rat)*p2 k=(M:Rat)*p2 (-149):=by
  rw [<-h,<-h1]
  have:p2 149*p2 (-149)=1:=by rw [<-dU];exact lY
  have h3:(n:Rat)*p2 149*p2 k*p2 (-149)=(n:Rat)*p2 k*(p2 149*p2 (-149)):=by grind
  rw [h3,this,we]
 unfold lK bc;have c1:(((n:Nat):Int):Rat)=(n:Rat):=rfl;have c2:(((M:Nat):Int):Rat)=(M:Rat):=rfl
 cases s with
 | true=>rw [yG rfl,yG rfl,uX,uX,c1,c2];grind
 | false=>rw [yv (by decide),yv (by decide),c1,c2];exact h2
def QX (k:Int):Hq (k.natAbs+2) (p2 k):=by
 by_cases c:0<=k
 ·obtain ⟨n,rfl⟩:∃n:Nat,k=n:=⟨k.natAbs,by omega⟩;rw [show p2 (n:Int)=((2^n:Nat):Int) from eI n];exact ⟨by rw [vI];unfold Bd;rw [xm];exact wJ (by decide) (by omega),by rw [vj];unfold Bd;exact wS (by omega)⟩
 ·obtain ⟨n,rfl⟩:∃n:Nat,k= -(n:Int):=⟨k.natAbs,by omega⟩
  have:p2 (-(n:Int))=(p2 n)⁻¹:=by unfold p2;rw [ycc]
  rw [this];refine Hq.inv ?_;rw [show p2 (n:Int)=((2^n:Nat):Int) from eI n];exact ⟨by rw [vI];unfold Bd;rw [xm];exact wJ (by decide) (by omega),by rw [vj];unfold Bd;exact wS (by omega)⟩
def sG (k:Int) (hk:k.natAbs<=900):Hq 1001 (p2 k):=(QX k).mono (by omega)
def aAS (h:Fx P L) {b:Nat} {s:Bool} {M:Nat} (hb:Fl b s M):∃r,ai P L 232 [.aw .f32 b] r/\dC r (lK s M):=by
 have key:∀(b' N:Nat) (k:Int) (tm:Env) (ct:Nat),Fl b' s N->N%2^149=0->N<2^173->(N:Rat)*p2 k=(M:Rat)-> -298<=k->k<=277->aj tm 0= .aw .f32 b'->aj tm 2= .ptr 0 0->aj tm 3=ab k->∃r,cX lm.cZ (D P L (bO 3 lm.body) ⟨[(0,.aw .f32 b'),(2,.ptr 0 0),(3,ab k)],oO,1,0⟩)=some r/\dC r (lK s M):=by
  intro b' N k tm ct hN hw aG hq k1 k2 _ _ _;have e1:=KH hN (vc aG (by decide));have hn:N/2^149<2^24:=by rw [xy (y9 _),<-xn];exact aG
  have ha:(bc s (N/2^149)).natAbs=N/2^149:=by unfold bc;split<;>omega
  have hx:=afP (s:=s) hq hw;generalize bc s (N/2^149)=z at*
  obtain ⟨u,e2,hu⟩:=m69 h.toFr' (z:=z) (by omega) (by omega);obtain ⟨v,e3,hv⟩:=WV h.toFr' h.mR h.sF h.B5 (k:=k) (by omega);have ku:Hq 25 ((z:Int):Rat):=⟨by rw [vI];unfold Bd;omega,by rw [vj];unfold Bd;decide⟩
  obtain ⟨r,e4,hr⟩:=m49 h.toFr' hu hv (ku.mono (show 25<=1001 by decide)) (sG k (by omega)) (by decide);rw [hx] at hr;have bW:=hr;obtain ⟨u1,u2,u3,u4,rfl,fu⟩:=hu.gen;obtain ⟨v1,v2,v3,v4,rfl,fE⟩:=hv.gen;obtain ⟨r1,r2,r3,r4,rfl,fr⟩:=hr.gen;refine ⟨_,?_,bW⟩;unfold ai at e2 e3 e4;unfold oO;simp only [go_sem,ya,lm,bO,aq,e1,e2,fu.an,e3,fE.an,e4,fr.cZ,fr.st,bt,dQ,dT,yu,dO]
 have l1:=awV (P:=P) (L:=L) (s:=s) hb.lt M;unfold ai;rw [aF h.aAQ];have cut:lm.body= .seq (aS lm.body) (.seq (aS (bO 0 lm.body)) (.seq (aS (bO 1 lm.body)) (.seq (aS (bO 2 lm.body)) (bO 3 lm.body)))):=rfl;show ∃r,cX lm.cZ (D P L lm.body _)=some r/\_
 rw [cut];generalize bO 3 lm.body=T at key ⊢;simp only [go_sem,yd,lm,bO,aq,aS,aY];generalize hq:D P L (.loop [0,2,3] GH) _=q;obtain ⟨ex,st,rfl,tm,ct,b',N,k,rfl,rfl,hN,Yt,aG,hk,t0,t2,t3⟩:=b6 hq l1 ⟨b,M,0,rfl,hb,by rw [vL,ym],fun _=>rfl,by unfold oO;simp only [go_sem,ya,yd,aB,ji,jl]<;>rfl⟩
 unfold oO;simp only [go_sem,yd,aB,t0,t2,t3,ji,jl];generalize hq:D P L (.loop [0,2,3] GI) _=q;have l2:=awW (P:=P) (L:=L) (s:=s) (M:=M) 149;obtain ⟨ex,st,rfl,tm,ct,b2,N2,k2,rfl,rfl,Yu,hw,oe,rn,k3,k4,u0,u2,u3⟩:=b6 hq l2 ⟨b',N,0,k,rfl,hN,by rw [vL];exact Nat.one_dvd N,aG,by rw [<-Yt,xv,eI],by omega,by omega,by unfold oO;simp only [go_sem,ya,yd,aB,ji,jl]<;>rfl⟩
 unfold oO;simp only [go_sem,yd,aB,u0,u2,u3,ji,jl];exact key b2 N2 k2 tm ct Yu hw oe rn k3 k4 u0 u2 u3
end
def awX {r:Rat} {K:Nat} (h:Hq K r) (hK:K<=1800):(ax r.num.natAbs).length<=600/\(ax r.den).length<=600:=by
 refine ⟨ZB (B:=K) hK (by decide) h.1,ZB (B:=K) hK (by decide) ?_⟩
 have:=h.2
 unfold Bd at this
 rwa [xm] at this
def ayO {r:Rat} {K:Nat} (h:Hq K r) (hK:K<=1800):LG r=false:=by
 obtain ⟨h1,h2⟩:=awX h hK;unfold LG LN;rw [xm,yM (by omega),yM (by omega)];rfl
section
variable {P:aK} {L:Lib}
def WW (a:Rat):AV:=if LG a=true then .aa [.str [],ab 4] else .aa [.str (RT a),ab 0]
end
def Am:dw (.int .i64 1)=some 1:=rfl
def aoy {n:Int} {d:Nat} (hd:0<d):n/(d:Int)=if n<0/\0<n.natAbs%d then -((n.natAbs/d:Nat)+1:Int) else bX (decide (n<0)) (n.natAbs/d):=by
 have dZ:=xF n.natAbs d;have hm:=xu n.natAbs hd;generalize n.natAbs/d=q at*
 generalize hr:n.natAbs%d=r at*
 by_cases h0:n<0
 ·have hn:n= -((d*q+r:Nat):Int):=by omega
  by_cases h1:0<r
  ·rw [yG ⟨h0,h1⟩];rw [hn]
   refine (Int.ediv_emod_unique (a:= -((d*q+r:Nat):Int)) (b:=(d:Int)) (r:=(d:Int)-r) (q:= -((q:Int)+1)) (by omega)).2 ⟨?_,by omega,by omega⟩ |>.1
   grind
  ·have:r=0:=by omega
   subst this;rw [yv (by omega)];unfold bX;rw [yG (by simpa using h0),hn,yV,wG,<-ycp,Int.mul_ediv_cancel_left _ (by omega)]
 ·rw [yv (by omega)];unfold bX;rw [yv (by simpa using h0)];have hn:n=((d*q+r:Nat):Int):=by omega
  rw [hn];rw [<-ybd,tx hd,xD hm,yV]
section
variable {P:aK} {L:Lib}
def ajx (h:Rm P L) (Ak:Has P L 338 BP) {a:Rat} {K:Nat} (ka:Hq K a) (hK:K<=8000000000):ai P L 338 [.str (RT a)] (.bool (decide (a.den=1))):=by
 have hl:=Df ka;have e0:=BX h.ss (s:=RT a) (by omega);unfold ai at e0 ⊢;rw [aF Ak];by_cases hd:a.den=1
 ·have hs:bJ (RT a)=(RT a).length:=by
   unfold RT;rw [yG hd]
   have:=CG a.num []
   rw [this];simp [bJ]
  rw [hs] at e0;simp only [go_sem,ya,BP,e0,hd,yo]
 ·have hs:bJ (RT a)<(RT a).length:=by
   unfold RT;rw [yv hd,CG];simp [bJ]
  rw [yM hd];simp only [go_sem,ya,BP,e0,show ¬((bJ (RT a):Nat):Int)=((RT a).length:Int) by omega,yr]
def aAT (h:Rm P L) (D5:Has P L 339 BQ) {v w:AV} {n d:Int} {K:Nat} (hK:K<=7000000000) (hv:gW v n) (hw:gW w d) (kn:Bd K n) (kd:Bd K d) (hd:0<d):∃r,ai P L 339 [v,w] r/\gW r (n/d):=by
 obtain ⟨x,a,rfl,hx,ha,na,va⟩:=hv;obtain ⟨y,b,rfl,hy,hb,nb,vb⟩:=hw;have la:=xb (gB ha na (by rw [va];exact kn.r)) hK
 have lb:=xb (gB hb nb (by rw [vb];exact kd.r)) hK
 obtain ⟨q,r,lq,lr,e1,hq,hr,dq,nq,dr,nr,vq,vr⟩:=QU h hx hy ha hb na nb (by omega) (by omega) (by omega);rw [va,vb] at vq vr;have EF:lq.length<=7000000000:=xb (gB dq nq (by rw [vq];exact xB (wI _ _) kn.r)) hK
 have mb:=aoy (n:=n) (d:=d.natAbs) (by omega);rw [show ((d.natAbs:Nat):Int)=d by omega] at mb;have kK:(0<n.natAbs%d.natAbs)↔0<lr.length:=by
  rw [<-vr];constructor
  ·intro h1;rcases xe lr.length with h0 | h0
   ·rw [yD h0] at h1;simp [dv] at h1
   ·exact h0
  ·intro h1;rcases xe (dv lr) with h0 | h0
   ·have:=PK nr dr h0;subst this;simp at h1
   ·exact h0
 by_cases hc:n<0/\0<lr.length
 ·obtain ⟨c1,c2⟩:=hc;rw [yG ⟨c1,kK.2 c2⟩] at mb;have ff:bn (.aC true 1 [ab 1]) [(1:Int)]:=lM true [(1:Int)];obtain ⟨z,out,e2,hz,hdo,hvo,a6⟩:=aje h.Nf h.lC hq ff dq (iV.2 (by decide)) (by omega) (by simp);simp only [yO,yR] at a6;obtain ⟨s,e3,hs⟩:=mQ h.gk h.cp (decide (n<0)) hz hdo (by omega);have aH:bX (decide (n<0)) (dv out)=n/d:=by
   rw [hvo,vq,mb];unfold bX;rw [yG (by simpa using c1)];simp [dv]
  rw [aH] at hs;refine ⟨s,?_,hs⟩;obtain ⟨sw,sl,rfl,fo,_,_,_⟩:=hs;unfold ai at e1 e2 e3 ⊢;rw [aF D5];simp only [c1,yo] at e3 ⊢;simp only [go_sem,ya,yd,yI,yA,ym,BQ,aY,hx.pu,hx.an,hx.one,hy.pu,hy.an,hy.one,bI,yh,cx,e1,hq.an,hq.bR,hr.len,hr.bR,show (0:Int)<(lr.length:Int) by omega,yo,e2,hz.an,e3,fo.pu,fo.one,bt,er];rcases fo with ⟨rfl,_⟩ | ⟨e,rfl⟩<;>rfl
 ·rw [yv (fun e=>hc ⟨e.1,kK.1 e.2⟩)] at mb;obtain ⟨s,e3,hs⟩:=mQ h.gk h.cp (decide (n<0)) hq dq (by omega);rw [vq,<-mb] at hs;refine ⟨s,?_,hs⟩;obtain ⟨sw,sl,rfl,fo,_,_,_⟩:=hs;unfold ai at e1 e3 ⊢;rw [aF D5];by_cases h0:n<0
  ·have iP:lr.length=0:=by
    rcases xe lr.length with h1 | h1
    ·exact h1
    ·exact absurd ⟨h0,h1⟩ hc
   simp only [h0,yo] at e3 ⊢;simp only [go_sem,ya,yd,BQ,aY,hx.pu,hx.an,hx.one,hy.pu,hy.an,hy.one,bI,yh,cx,e1,hq.an,hq.bR,hr.len,hr.bR,iP,show ¬(0:Int)<((0:Nat):Int) by omega,e3,fo.pu,fo.one,bt,er];rcases fo with ⟨rfl,_⟩ | ⟨e,rfl⟩<;>rfl
  ·simp only [h0,yr] at e3 ⊢;simp only [go_sem,ya,yd,BQ,aY,hx.pu,hx.an,hx.one,hy.pu,hy.an,hy.one,bI,yh,cx,e1,hq.an,hq.bR,hr.bR,e3,fo.pu,fo.one,bt,er];rcases fo with ⟨rfl,_⟩ | ⟨e,rfl⟩<;>rfl
def aAU (h:Rm P L) (WX:Has P L 336 HP) (Ak:Has P L 338 BP) (D5:Has P L 339 BQ) {a:Rat} {K:Nat} (ka:Hq K a) (hK:K<=7000000000):ai P L 336 [.str (RT a)] (.str (RT (a.floor:Rat))):=by
 have e0:=ajx h Ak ka (by omega);unfold ai at e0 ⊢;rw [aF WX];by_cases hd:a.den=1
 ·rw [xa hd] at e0;have hf:(a.floor:Rat)=a:=by
   rw [yad,hd];simp only [Int.natCast_one,Int.ediv_one];exact (KD a hd).symm
  rw [hf];simp only [go_sem,ya,HP,e0]
 ·rw [yM hd] at e0;obtain ⟨x,y,e1,hx,hy⟩:=Dl h ka (by omega);obtain ⟨r,e2,hr⟩:=aAT h D5 (K:=K) hK hx hy ka.1 ka.2 (Kj a);rw [<-yad] at hr;have kf:Bd K a.floor:=ka.1.le (by
   rw [yad]
   exact Int.natAbs_ediv_le_natAbs _ _)
  obtain ⟨e3,_⟩:=Nh (K:=K) h.Ni h.mM (by omega) hr kf.r;rw [Qr];obtain ⟨xw,xl,rfl,dn,_,_,_⟩:=hx;obtain ⟨yw,yl,rfl,dt,_,_,_⟩:=hy;obtain ⟨eM,rl,rfl,nd,_,_,_⟩:=hr;simp only [go_sem,ya,yd,HP,e0,aY,e1,dn.pu,dn.an,dn.one,dt.pu,dt.an,dt.one,nd.an,b5,bt,pZ,er,Bs,e2,e3]
end
structure Spn (P:aK) (L:Lib):Prop extends Ck P L where
 h88:Has P L 88 jR
 aGI:Has P L 161 ahA
 aGJ:Has P L 188 ahB
 aGK:Has P L 189 ahC
 aGL:Has P L 191 ahD
 aGM:Has P L 209 ahE
 aGN:Has P L 210 ahF
 aGO:Has P L 211 ahG
 aGP:Has P L 214 ahH
 aGQ:Has P L 233 ahI
 aGR:Has P L 234 ahJ
section
variable {P:aK} {L:Lib}
def aAV (Iw:Has P L 150 Hz) {v:AV} {z:Int} (hv:ck v z) (h1: -9223372036854775808<z) (h2:z<9223372036854775808):ai P L 150 [v] (.aa [ab z,.bool true]):=by
 obtain ⟨s,w,rfl,hn⟩:=hv;rcases hn with ⟨rfl,rfl,_,_⟩ | ⟨e,l,rfl,g,n,hb,hs,h3⟩
 ·unfold ai;rw [aF Iw];simp only [go_sem,ya,yd,Hz,aY,bI,yh,cx,fO,dM];rfl
 ·omega
end
def pw (b:Rat):Nat->Rat
 | 0=>1
 | n+1=>pw b n*b
def afQ (b:Rat) (m:Nat):∀n,pw b (m+n)=pw b m*pw b n
 | 0=>by rw [yV,pw,we]
 | n+1=>by rw [<-uf,pw,pw,afQ b m n,xU]
def Hn {b:Rat} {K:Nat} (h:Hq K b):∀n,Hq (K*n+2) (pw b n)
 | 0=>aAO.mono (by omega)
 | n+1=>((Hn h n).mul h).mono (by rw [Nat.mul_succ];omega)
section
variable {P:aK} {L:Lib}
def awY (h:Rn P L) {b:Rat} {K k0:Nat} (hb:Hq K b) (hK:K*k0<=1000000000):
  ∀m st,(∃i e o:Nat,aQ [0,1,5] st=⟨[(0,.str (RT (pw b i))),(1,ab e),(5,.str (RT (pw b o)))],[],0,0⟩/\o+i*e=k0/\e<9223372036854775808/\e=m)->
   ∃ex st',D P L (.loop [0,1,5] C6) st=some (ex,st')/\∃tm ct,st'=⟨tm,[],ct,0⟩/\ex= .exit 0/\aj tm 5= .str (RT (pw b k0)):=by
 intro dq sq;generalize bq:aQ [0,1,5] sq=s0;revert bq s0 sq dq;apply dh;rintro m st ⟨i,e,o,rfl,ho,he,rfl⟩;by_cases h0:0<e
 ·left
  have hi:i<=k0:=by have:=uE i h0;omega
  have ki:K*i<=1000000000:=xb (yS K hi) hK;have ko:K*o<=1000000000:=xb (yS K (show o<=k0 by omega)) hK;have e1:=Hm h (Hn hb i) (Hn hb i) (by omega);have e2:=Hm h (Hn hb o) (Hn hb i) (by omega);rw [<-afQ] at e1 e2;have r2:(e:Int).tmod 2=((e%2:Nat):Int):=rfl;have q2:(e:Int).tdiv 2=((e/2:Nat):Int):=rfl;have d0:(2:Int)≠0:=by decide
  have hs:e=2*(e/2)+e%2:=by omega
  have hm:e%2<2:=by omega
  unfold ai at e1 e2;generalize e/2=f at*
  generalize e%2=g at*
  have w1:IntKind.wrap .i64 (g:Int)=g:=wrap64 (by omega) (by omega);have w2:IntKind.wrap .i64 (f:Int)=f:=wrap64 (by omega) (by omega);by_cases h1:g=1
  ·have d1:decide ((g:Int)=1)=true:=xa (by omega);simp only [go_sem,ya,C6,show (0:Int)<(e:Int) by omega,yo,eP _ _ _ d0,eH _ _ _ d0,r2,q2,w2,d1,e1,e2];refine ⟨_,f,rfl,by omega,i+i,f,o+i,by simp only [go_sem,ya,aB],?_,by omega,rfl⟩;rw [<-ho,hs,h1];grind
  ·have d1:decide ((g:Int)=1)=false:=yM (by omega);simp only [go_sem,ya,C6,show (0:Int)<(e:Int) by omega,yo,eP _ _ _ d0,eH _ _ _ d0,r2,q2,w2,d1,e1];refine ⟨_,f,rfl,by omega,i+i,f,o,by simp only [go_sem,ya,aB],?_,by omega,rfl⟩;have hg:g=0:=by omega
   rw [<-ho,hs,hg];grind
 ·right
  obtain rfl:e=0:=by omega
  obtain rfl:o=k0:=by omega
  simp only [go_sem,ya,C6,show ¬(0:Int)<((0:Nat):Int) by omega,yr];exact ⟨_,_,rfl,by simp,_,_,rfl,rfl,by simp only [go_sem,ya]⟩
def ajy (h:Rn P L) (B6:Has P L 389 DB) {b:Rat} {K k:Nat} (hb:Hq K b) (hK:K*k<=1000000000) (hk:k<9223372036854775808):ai P L 389 [.str (RT b),ab k] (.str (RT (pw b k))):=by
 unfold ai;rw [aF B6];simp only [go_sem,ya,DB,show ¬(k:Int)<0 by omega,yr];generalize hq:D P L (.loop [0,1,5] C6) _=q;obtain ⟨ex,st,rfl,tm,ct,rfl,rfl,t5⟩:=b6 hq (awY h hb hK k) ⟨1,k,0,by simp only [go_sem,ya,aB,pw,Rat.one_mul,aAN],by omega,hk,rfl⟩;simp only [go_sem,aB,t5]
def ayP (h:Rn P L) (Iu:Has P L 283 HK) (B6:Has P L 389 DB) {b:Rat} {K k:Nat} (hb:Hq K b) (hK:K*k<=1000000000) (hk:k<9223372036854775808) (k0:0<k) (b0:b≠0) (hK2:K<=1000000000):ai P L 389 [.str (RT b),ab (-(k:Int))] (.str (RT (pw b⁻¹ k))):=by
 have e1:=ayL h Iu hb (by omega) b0;have e2:=ajy h B6 (hb.inv) hK hk;unfold ai at e1 e2 ⊢;rw [aF B6];have w:IntKind.wrap .i64 (0 - -(k:Int))=k:=by rw [show (0:Int) - -(k:Int)=k by omega];exact wrap64 (by omega) (by omega)
 simp only [go_sem,ya,DB,show -(k:Int)<0 by omega,yo,e1,w,e2]
end
end VE
