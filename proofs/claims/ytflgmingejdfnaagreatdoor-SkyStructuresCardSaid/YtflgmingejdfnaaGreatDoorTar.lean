import Derived.Test.YtflgmingejdfnaaGreatDoorTap
import Derived.Test.YtflgmingejdfnaaGreatDoorTak
import Derived.Test.YtflgmingejdfnaaGreatDoorTaq
import Derived.Test.YtflgmingejdfnaaGreatDoorTah
set_option linter.all false
set_option maxRecDepth 100000
open Bool renaming and_eq_true→ye,and_self→vR,false_eq_true→yq,true_and→u6
open Int renaming gcd_comm→yaM,natAbs_ediv_of_dvd→wW,natAbs_mul→xi,natCast_mul→xC
open List renaming append_assoc→y7,append_nil→xS,cons_append→yH,drop_eq_getElem_cons→yT,drop_eq_nil_of_le→xr,eq_nil_of_length_eq_zero→yB,filter_append→u7,filter_cons→tM,filter_eq_nil_iff→vh,length_cons→yx,length_map→yL,length_range→tC,length_reverse→uT,length_take→yN,map_append→xm,mem_append→xT,mem_singleton→wo,nil_append→xu,range→yO,range'→xg,range'_succ→wO,range_succ→uz,replicate→yu,replicate_succ→xK,reverse_cons→tB,take_of_length_le→yF
open Nat renaming add_zero→xH,beq→yk,beq_refl→y9,ble→yy,ble_eq_true_of_le→yt,blt→yA,div_le_self→uN,eq_zero_or_pos→xv,gcd→wb,le_of_ble_eq_true→yo,le_refl→yC,le_trans→xz,lt_of_le_of_lt→xA,lt_of_lt_of_le→yU,min_eq_left→xX,mul_one→yv,mul_zero→wz,pow_le_pow_left→u9,pow_le_pow_right→xL,pow_succ→xq,reduceAdd→yc,reduceEqDiff→ya,reduceLT→yV,reduceLeDiff→ym,reduceMul→xR,zero_add→yp,zero_le→tX
open Rat renaming divInt→xM,divInt_ofNat→tU
namespace VE
section
open Go (IntKind)
mutual
def below (n:Nat):AV->Prop
 | .ptr id _=>id<n
 | .au id _ _=>id<n
 | .map id=>id<n
 | .it id=>id<n
 | .fn (.f _) first cap=>gT n first/\gT n cap
 | .fn (.y l) first cap=>l<n/\first=[]/\cap=[]
 | .agg cs=>gT n cs
 | .aw cs=>gT n cs
 | _=>True
def gT (n:Nat):List AV->Prop
 | []=>True
 | v::r=>below n v/\gT n r
end
def ij (n:Nat):Env->Prop
 | []=>True
 | (_,v)::r=>below n v/\ij n r
def jt (n:Nat):Obj->Prop
 | .cells _ pu _ _ cs=>pu=true\/gT n cs
 | .mp _ ks vs=>gT n ks/\gT n vs
 | .si _ _=>True
 | .lp tm _ _ _ _ _=>ij n tm
def ik (b n:Nat):Hp->Prop
 | []=>True
 | (id,o)::r=>id<b/\jt n o/\ik b n r
mutual
def NJ {f:Nat->Option Nat} {n:Nat} (hf:∀x,x<n->f x=some x):∀{v:AV},below n v->bH f v=v
 | .int _ _,_ | .bool _,_ | .cx _ _,_ | .str _,_ | .gW,_ | .ay _,_ | .aa,_ | .aB _ _ _,_ | .fk,_ | .gH,_ | .gj _ _,_ | .undef,_ | .bX _ _ _ _,_=>rfl
 | .ptr id o,h=>by simp only [bH,hf id h]
 | .au id o k,h=>by simp only [bH,hf id h]
 | .map id,h=>by simp only [bH,hf id h]
 | .it id,h=>by simp only [bH,hf id h]
 | .fn (.y l) first cap,h=>by
  obtain ⟨h1,rfl,rfl⟩:=h;simp only [bH,hf l h1,eb]
 | .fn (.f _) first cap,h=>by
  simp only [bH,ov hf h.1,ov hf h.2]
 | .agg cs,h=>by simp only [below] at h;simp only [bH,ov hf h]
 | .aw cs,h=>by simp only [below] at h;simp only [bH,ov hf h]
def ov {f:Nat->Option Nat} {n:Nat} (hf:∀x,x<n->f x=some x):∀{vs:List AV},gT n vs->eb f vs=vs
 | [],_=>rfl
 | v::r,h=>by simp only [eb,NJ hf h.1,ov hf h.2]
end
def Hj {f:Nat->Option Nat} {n:Nat} (hf:∀x,x<n->f x=some x):∀{tm:Env},ij n tm->ir f tm=tm
 | [],_=>rfl
 | (_,v)::r,h=>by simp only [ir,NJ hf h.1,Hj hf h.2]
def Yy {f:Nat->Option Nat} {n:Nat} (hf:∀x,x<n->f x=some x):∀{o:Obj},jt n o->iI f o=o
 | .cells _ pu _ _ cs,h=>by
  cases pu with
  | true=>rfl
  | false=>simp only [jt,yq,yaF] at h;simp only [iI,yr,ov hf h]
 | .mp _ ks vs,h=>by simp only [iI,ov hf h.1,ov hf h.2]
 | .si _ _,_=>rfl
 | .lp tm _ _ _ _ _,h=>by simp only [jt] at h;simp only [iI,Hj hf h]
mutual
def MV {n:Nat}:∀{v:AV},below n v->∀x,x∈refs v->x<n
 | .int _ _,_,x,h | .bool _,_,x,h | .cx _ _,_,x,h | .str _,_,x,h | .gW,_,x,h | .ay _,_,x,h | .aa,_,x,h | .aB _ _ _,_,x,h | .fk,_,x,h | .gH,_,x,h | .gj _ _,_,x,h | .undef,_,x,h | .bX _ _ _ _,_,x,h=>by simp [refs] at h
 | .ptr id o,h,x,hx=>by simp only [refs,wo] at hx;subst hx;exact h
 | .au id o k,h,x,hx=>by simp only [refs,wo] at hx;subst hx;exact h
 | .map id,h,x,hx=>by simp only [refs,wo] at hx;subst hx;exact h
 | .it id,h,x,hx=>by simp only [refs,wo] at hx;subst hx;exact h
 | .fn (.y l) first cap,h,x,hx=>by simp only [refs,wo] at hx;subst hx;exact h.1
 | .fn (.f _) first cap,h,x,hx=>by
  simp only [refs,xT] at hx;exact hx.elim (om h.1 x) (om h.2 x)
 | .agg cs,h,x,hx=>by simp only [below] at h;simp only [refs] at hx;exact om h x hx
 | .aw cs,h,x,hx=>by simp only [below] at h;simp only [refs] at hx;exact om h x hx
def om {n:Nat}:∀{vs:List AV},gT n vs->∀x,x∈dC vs->x<n
 | [],_,x,h=>by simp [dC] at h
 | v::r,h,x,hx=>by
  simp only [dC,xT] at hx;exact hx.elim (MV h.1 x) (om h.2 x)
end
def Dn {n:Nat}:∀{tm:Env},ij n tm->∀x,x∈dP tm->x<n
 | [],_,x,h=>by simp [dP] at h
 | (_,v)::r,h,x,hx=>by
  simp only [dP,xT] at hx;exact hx.elim (MV h.1 x) (Dn h.2 x)
def G6 {n:Nat}:∀{o:Obj},jt n o->∀x,x∈dN o->x<n
 | .cells _ pu _ _ cs,h,x,hx=>by
  cases pu with
  | true=>simp [dN] at hx
  | false=>simp only [jt,yq,yaF] at h;exact om h x hx
 | .mp _ ks vs,h,x,hx=>by
  simp only [dN,xT] at hx;exact hx.elim (om h.1 x) (om h.2 x)
 | .si _ _,_,x,hx=>by simp [dN] at hx
 | .lp tm _ _ _ _ _,h,x,hx=>by simp only [jt] at h;exact Dn h x hx
def bg (B:Nat):List (List AV)->Hp
 | []=>[]
 | cs::r=>(B+r.length,.cells true true true 1 cs)::bg B r
def re (B:Nat):List (List AV)->Hp->Hp
 | [],acc=>acc
 | cs::r,acc=>re (B+1) r ((B,.cells true true true 1 cs)::acc)
def MW:∀(l:List (List AV)) (B:Nat) (x:List AV) (acc:Hp),re B (l++[x]) acc=(B+l.length,.cells true true true 1 x)::re B l acc
 | [],B,x,acc=>rfl
 | c::l,B,x,acc=>by
  simp only [yH,re,MW l,yx]
  grind
def NK (B:Nat) (acc:Hp):∀rs:List (List AV),re B rs.reverse acc=bg B rs++acc
 | []=>rfl
 | c::r=>by
  simp only [tB,MW,NK B acc r,uT,bg,yH]
def HJ {B:Nat} {old:Hp}:∀{rs:List (List AV)} {i:Nat} (h:i<rs.length),ak (bg B rs++old) (B+i)=some (.cells true true true 1 (rs.reverse[i]'(by simpa using h)))
 | c::r,i,h=>by
  simp only [bg,yH,tB];by_cases hi:i=r.length
  ·subst hi;rw [ak,y9,yi]
   simp
  ·have aV:i<r.length:=by grind
   rw [ak,cD (by omega),yr,HJ aV]
   grind
def nc {B:Nat} {old:Hp}:∀{rs:List (List AV)} {x:Nat},x<B->ak (bg B rs++old) x=ak old x
 | [],x,_=>rfl
 | c::r,x,h=>by
  simp only [bg,yH];rw [ak,cD (by omega),yr,nc h]
def GY {B:Nat} {old:Hp} {o:Obj}:∀{rs:List (List AV)} {x:Nat},x<B->aY (bg B rs++old) x o=bg B rs++aY old x o
 | [],x,_=>rfl
 | c::r,x,h=>by
  simp only [bg,yH];rw [aY,cD (by omega),yr,GY h]
def LM {B:Nat} {old:Hp}:∀{rs:List (List AV)} {x:Nat},x<B->cw (bg B rs++old) x=bg B rs++cw old x
 | [],x,_=>rfl
 | c::r,x,h=>by
  simp only [bg,yH];rw [cw,cD (by omega),yr,LM h]
def ff {a b:Nat} (h:a<b):yA a b=true:=by simp_all
def s9 {a b:Nat} (h:b<=a):yA a b=false:=by
 cases hq:yA a b with
 | false=>rfl
 | true=>have:=yo hq;omega
def G0 {B:Nat} {old:Hp}:∀rs:List (List AV),cJ B (bg B rs++old)=cJ B old
 | []=>rfl
 | c::r=>by
  simp only [bg,yH];rw [cJ,s9 (by omega),yr,G0 r]
def MX {B:Nat} {old:Hp} {f:Nat->Option Nat}:∀rs:List (List AV),iX B f (bg B rs++old)=iX B f old
 | []=>rfl
 | c::r=>by
  simp only [bg,yH];rw [iX,s9 (by omega),yr,MX r]
def Mf {B n:Nat} {f:Nat->Option Nat} (hf:∀x,x<n->f x=some x):∀{old:Hp},ik B n old->iX B f old=old
 | [],_=>rfl
 | (id,o)::r,h=>by
  rw [iX,ff h.1,yi,Yy hf h.2.1,Mf hf h.2.2]
def Yz {B s x:Nat} (h:B+s<=x):iJ x (xg B s)=false:=by
 induction s generalizing B with
 | zero=>rfl
 | succ s ih=>rw [wO,iJ,cD (by omega),yr,ih (by omega)]
def Hk {hp:Hp} {B R:Nat} (jc:∀i,i<R->∃rw ex sz cs,ak hp (B+i)=some (.cells rw true ex sz cs)):
  ∀(W:List Nat) (a7 s:Nat),W.length<a7->s<=R->W.filter (fun x=> !yA x B)=xg (B+s) (R-s)->reach hp B a7 W (xg B s)=xg B R
 | [],0,s,hf,_,_=>by simp at hf
 | [],a7+1,s,hf,hs,h=>by
  have:R-s=0:=by
   grind
  rw [reach,show R=s by omega]
 | id::W,0,s,hf,_,_=>by simp at hf
 | id::W,a7+1,s,hf,hs,h=>by
  have pG:W.length<a7:=by simp_all
  rw [reach];by_cases hid:id<B
  ·rw [ff hid,Bool.true_or,yi];rw [tM,ff hid] at h;exact Hk jc W a7 s pG hs (by simpa using h)
  ·rw [tM,s9 (by omega)] at h;have hRs:R-s=(R-s-1)+1:=by
    have:=congrArg List.length h
    grind
   rw [hRs,wO] at h;injection h with h1 h2
   subst h1;rw [s9 (by omega),Bool.false_or,Yz (yC _),yr];obtain ⟨rw,ex,sz,cs,ho⟩:=jc s (by omega);simp only [ho,dN,yi,xu];have e:xg B s++[B+s]=xg B (s+1):=by rw [List.range'_concat];simp
   rw [e];exact Hk jc W a7 (s+1) pG (by omega) (by rw [h2,show R-s-1=R-(s+1) by omega,show B+s+1=B+(s+1) by omega])
def YA {B s i k:Nat} (h:i<s):iZ (B+i) (xg B s) k=some (k+i):=by
 induction s generalizing B i k with
 | zero=>omega
 | succ s ih=>
  rw [wO,iZ];by_cases hi:i=0
  ·simp_all
  ·rw [cD (by omega),yr]
   have:=ih (B:=B+1) (i:=i-1) (k:=k+1) (by omega)
   grind
def XQ {B R x:Nat} (h:x<B+R):il B (xg B R) x=some x:=by
 unfold il;by_cases hx:x<B
 ·rw [ff hx,yi]
 ·rw [s9 (by omega),yr]
  have:=YA (B:=B) (s:=R) (i:=x-B) (k:=B) (by omega)
  grind
def MY {hp:Hp} {f:Nat->Option Nat}:∀(ro:List (List AV)) (B:Nat) (acc:Hp),(∀i (h:i<ro.length),ak hp (B+i)=some (.cells true true true 1 ro[i]))->im hp f (xg B ro.length) B acc=re B ro acc
 | [],B,acc,_=>rfl
 | c::r,B,acc,h=>by
  have h0:=h 0 (by simp);simp only [xH,List.getElem_cons_zero] at h0;rw [yx,wO,im];simp only [h0,iI,yi,re]
  exact MY r (B+1) _ (fun i hi=>by
   have:=h (i+1) (by simpa using hi)
   rw [show B+1+i=B+(i+1) by omega,this]
   simp)
def LX {live:List Nat} {tm:Env} {B ct:Nat} {old:Hp} {rs:List (List AV)} (ht:ij B (cN tm live)) (ho:ik B (B+rs.length) old) (hl:(dP (cN tm live)).length+(cJ B old).length<100000)
  (hr:(cJ B old).filter (fun x=> !yA x B)=xg B rs.length):bA live ⟨tm,bg B rs++old,ct,B⟩=⟨cN tm live,bg B rs++old,B+rs.length,B⟩:=by
 have jc:∀i (h:i<rs.length),ak (bg B rs++old) (B+i)=some (.cells true true true 1 (rs.reverse[i]'(by simpa using h))):=fun i h=>HJ h
 have RG:reach (bg B rs++old) B 100000 (dP (cN tm live)++cJ B (bg B rs++old)) []=xg B rs.length:=by
  have:=Hk (hp:=bg B rs++old) (B:=B) (R:=rs.length) (fun i hi=>⟨_,_,_,_,jc i hi⟩) (dP (cN tm live)++cJ B (bg B rs++old)) 100000 0 (by rw [G0,List.length_append];exact hl) (tX _) (by
   rw [u7,G0,hr,vh.2 (fun x hx=>by
    have:=Dn ht x hx
    simp [ff this])]
   simp)
  grind
 have hid:∀x,x<B+rs.length->il B (xg B rs.length) x=some x:=fun x hx=>XQ hx
 have hn:=MY (hp:=bg B rs++old) (f:=il B (xg B rs.length)) rs.reverse B old (fun i hi=>jc i (by simpa using hi));rw [uT] at hn;simp only [bA,RG,MX,Mf hid ho,hn,NK,List.length_range']
 rw [Hj (n:=B) (fun x hx=>hid x (by omega)) ht]
def MZ {B b n:Nat} (hb:b<=B):∀{H:Hp},ik b n H->∀x,x∈cJ B H->x<n
 | [],_,x,hx=>by simp [cJ] at hx
 | (id,o)::r,h,x,hx=>by
  rw [cJ,ff (by have:=h.1;omega),yi,xT] at hx;exact hx.elim (G6 h.2.1 x) (MZ hb h.2.2 x)
def Mg {live:List Nat} {tm:Env} {B ct:Nat} {old:Hp} (ht:ij B (cN tm live)) (ho:ik B B old) (hl:(dP (cN tm live)).length+(cJ B old).length<100000):
  bA live ⟨tm,old,ct,B⟩=⟨cN tm live,old,B,B⟩:=by
 have:=LX (rs:=[]) (ct:=ct) ht (by simpa using ho) hl (by
  rw [vh.2 (fun x hx=>by have:=MZ (yC B) ho x hx;simp [ff this])]
  rfl)
 simpa [bg] using this
def M0 {b n:Nat}:∀{a c:Hp},ik b n a->ik b n c->ik b n (a++c)
 | [],_,_,h=>h
 | (_,_)::_,_,h,k=>⟨h.1,h.2.1,M0 h.2.2 k⟩
def Mh {B:Nat}:∀{a c:Hp},cJ B (a++c)=cJ B a++cJ B c
 | [],_=>rfl
 | (id,o)::a,c=>by
  simp only [yH,cJ,Mh (a:=a)]
  cases yA id B with
  | true=>simp only [yi,y7]
  | false=>simp only [yr]
def Mi {B b n:Nat}:∀{rs:List (List AV)},B+rs.length<=b->ik b n (bg B rs)
 | [],_=>trivial
 | c::r,h=>by
  simp only [yx] at h;exact ⟨by omega,.inl rfl,Mi (by omega)⟩
def LN {B b:Nat}:∀{rs:List (List AV)},cJ b (bg B rs)=[]
 | []=>rfl
 | c::r=>by
  simp only [bg,cJ,dN,yi,xu,LN]
  grind
end
section
open Go (IntKind)
section
variable {P:aF} {L:Lib}
def IM {n:Nat} {F:ax} (h:Has P L n F) {hp:Hp} {ct:Nat} {ap:List AV} {ex:Ex} {s:St} {v:AV} (hD:D P L F.body ⟨eV 0 ap,hp,ct,ct⟩=some (ex,s)) (he:ex= .normal\/ex= .ret) (hr:fT s F.dI=some v):
  fK P L (D P L) hp ct n ap=some (v,s.hp,s.ct):=by
 simp only [fK,h.heap,h.code,hD]
 grind
def OC {hp:Hp} {ct l:Nat} {xs:List AV} {tm tm' lJ mH:Env} {ps mG pv:List Nat} {a b a1 b1 a2 b2:VC} {pe kO Vr:mw} {s1 s2:St}
  (h1:ak hp l=some (.lp tm ps a b 0 pe)) (h2:lm tm ps xs=some tm') (h3:D P L a ⟨tm',hp,ct,ct⟩=some (.normal,s1)) (h4:ak s1.hp l=some (.lp lJ mG a1 b1 0 kO))
  (h5:D P L b ⟨s1.tm,aY s1.hp l (.lp lJ mG a1 b1 1 kO),s1.ct,s1.ct⟩=some (.normal,s2)) (h6:ak s2.hp l=some (.lp mH pv a2 b2 1 Vr)):
  fV (D P L) hp ct l xs=some (.bool true,aY s2.hp l (.lp mH pv a2 b2 0 .none),s2.ct):=by
 simp only [fV,h1,h2,h3,h4,h5,h6]
def SZ {f:X} {ps:List Nat} {as_ body:VC} {s:St} {n:Nat} {first cap:List AV} {v:AV} {hp:Hp} {ct:Nat} {tm:Env} {ps':List Nat} {a b:VC} {st:Nat}
  (h1:aq s.tm f= .fn (.f n) first cap) (h2:L.heap n=none) (h3:fK P L (D P L) ((s.ct,.lp s.tm ps as_ body 0 .none)::s.hp) (s.ct+1) n (first++(.fn (.y s.ct) [] []::cap))=some (v,hp,ct))
  (h4:ak hp s.ct=some (.lp tm ps' a b st .none)) (h5:st≠1):D P L (.rf f ps as_ body) s=some (.normal,⟨s.tm,cw hp s.ct,ct,s.base⟩):=by
 rw [ix];simp only [bj,h1,h2,h3,h4,cD h5,yr]
def er (B n R:Nat):List AV:=(yO R).map (fun i=> .au (B+i) 0 n)++yu (n-R) .aa
def iy (zero:AV) (val:Nat->Nat->AV) (n r c:Nat):List AV:=(yO c).map (fun c=>val c r)++yu (n-c) zero
def dF (val:Nat->Nat->AV) (n:Nat):Nat->List (List AV)
 | 0=>[]
 | r+1=>((yO n).map fun c=>val c r)::dF val n r
def oB (val:Nat->Nat->AV) (n:Nat):∀r,(dF val n r).length=r
 | 0=>rfl
 | r+1=>by rw [dF,yx,oB val n r]
def ab7 {B n R:Nat} (h:R<=n):(er B n R).length=n:=by simp [er];omega
def ab8 {zero:AV} {val:Nat->Nat->AV} {n r c:Nat} (h:c<=n):(iy zero val n r c).length=n:=by simp [iy];omega
def OD {l:List AV} {k:Nat} {v z:AV}:over l.length [v] (l++yu (k+1) z)=l++[v]++yu k z:=by
 simp only [over,List.take_left',yx,List.length_nil,yp,xK]
 simp_all
def Z1 {B n R:Nat} (h:R<n):over R [.au (B+R) 0 n] (er B n R)=er B n (R+1):=by
 have:=OD (l:=(yO R).map (fun i=>AV.au (B+i) 0 n)) (k:=n-R-1) (v:= .au (B+R) 0 n) (z:= .aa)
 simp only [yL,tC] at this;rw [show n-R-1+1=n-R by omega] at this;rw [er,this,er,uz,xm];rfl
def NL {zero:AV} {val:Nat->Nat->AV} {n r c:Nat} (h:c<n):over c [val c r] (iy zero val n r c)=iy zero val n r (c+1):=by
 have:=OD (l:=(yO c).map (fun c=>val c r)) (k:=n-c-1) (v:=val c r) (z:=zero)
 simp only [yL,tC] at this;rw [show n-c-1+1=n-c by omega] at this;rw [iy,this,iy,uz,xm];rfl
def Z2 {zero:AV} {val:Nat->Nat->AV} {n r:Nat}:iy zero val n r n=(yO n).map fun c=>val c r:=by simp [iy]
def Z3 {zero:AV} {val:Nat->Nat->AV} {n r:Nat}:iy zero val n r 0=yu n zero:=by simp [iy]
def Ik (z:AV):∀n,(yu n [z]).flatten=yu n z
 | 0=>rfl
 | n+1=>by rw [xK,List.flatten_cons,Ik z n,xK];rfl
def eS (b n:Nat) (fnv:AV):Env:=[(11,.fn (.f 133) [] [.ay [.int .i64 n]]),(10,.int .i64 n),(5,.ptr (b+3) 0),(9,.au (b+2) 0 n),(8,.int .i64 n),(4,.aa),(3,.ptr (b+1) 0),(2,.ptr b 0),(0,.int .i64 n),(1,fnv)]
def bN (b n R:Nat) (fnv:AV) (st:Nat) (H:Hp):Hp:=
 (b+4,.lp (eS b n fnv) [12,13] nG lA st .none)::(b+3,.cells true false true 1 [.au (b+2) 0 n])::(b+2,.cells true (yk R 0) true 1 (er (b+5) n R))::(b+1,.cells true (aI fnv) true 1 [fnv])::(b,.cells true true true 1 [.int .i64 n])::H
def LO {B b n:Nat} (hb:b<=B):∀{H:Hp},ik b n H->∀x,x∈cJ B H->x<n
 | [],_,x,hx=>by simp [cJ] at hx
 | (id,o)::r,h,x,hx=>by
  rw [cJ,ff (by have:=h.1;omega),yi,xT] at hx;exact hx.elim (G6 h.2.1 x) (LO hb h.2.2 x)
def Mj {b b' n n':Nat} (hb:b<=b') (hn:∀o,jt n o->jt n' o):∀{H:Hp},ik b n H->ik b' n' H
 | [],_=>trivial
 | (id,o)::r,h=>⟨yU h.1 hb,hn o h.2.1,Mj hb hn h.2.2⟩
mutual
def sH {n n':Nat} (h:n<=n'):∀{v:AV},below n v->below n' v
 | .int _ _,_ | .bool _,_ | .cx _ _,_ | .str _,_ | .gW,_ | .ay _,_ | .aa,_ | .aB _ _ _,_ | .fk,_ | .gH,_ | .gj _ _,_ | .undef,_ | .bX _ _ _ _,_=>trivial
 | .ptr _ _,k=>yU k h
 | .au _ _ _,k=>yU k h
 | .map _,k=>yU k h
 | .it _,k=>yU k h
 | .fn (.f _) _ _,k=>⟨ot h k.1,ot h k.2⟩
 | .fn (.y _) _ _,k=>⟨yU k.1 h,k.2⟩
 | .agg cs,k=>by simp only [below] at k ⊢;exact ot h k
 | .aw cs,k=>by simp only [below] at k ⊢;exact ot h k
def ot {n n':Nat} (h:n<=n'):∀{vs:List AV},gT n vs->gT n' vs
 | [],_=>trivial
 | _::_,k=>⟨sH h k.1,ot h k.2⟩
end
def Dp {n n':Nat} (h:n<=n'):∀{tm:Env},ij n tm->ij n' tm
 | [],_=>trivial
 | (_,_)::_,k=>⟨sH h k.1,Dp h k.2⟩
def XR {n n':Nat} (h:n<=n'):∀{o:Obj},jt n o->jt n' o
 | .cells _ pu _ _ cs,k=>k.imp id (ot h)
 | .mp _ ks vs,k=>⟨ot h k.1,ot h k.2⟩
 | .si _ _,_=>trivial
 | .lp tm _ _ _ _ _,k=>by simp only [jt] at k ⊢;exact Dp h k
mutual
def qg {n:Nat}:∀{v:AV},aI v=true->below n v
 | .int _ _,_ | .bool _,_ | .cx _ _,_ | .str _,_ | .gW,_ | .ay _,_ | .aa,_ | .aB _ _ _,_ | .fk,_ | .gH,_ | .gj _ _,_ | .undef,_=>trivial
 | .bX _ _ _ _,_=>trivial
 | .ptr _ _,h | .au _ _ _,h | .map _,h | .it _,h=>by simp [aI] at h
 | .fn (.y _) _ _,h=>by simp [aI] at h
 | .fn (.f _) _ _,h=>by
  simp only [aI,ye] at h;exact ⟨sD h.1,sD h.2⟩
 | .agg cs,h=>by simp only [aI] at h;simp only [below];exact sD h
 | .aw cs,h=>by simp only [aI] at h;simp only [below];exact sD h
def sD {n:Nat}:∀{vs:List AV},az vs=true->gT n vs
 | [],_=>trivial
 | _::_,h=>by
  simp only [az,ye] at h;exact ⟨qg h.1,sD h.2⟩
end
structure EZ (b:Nat) (fnv:AV) (H:Hp):Prop where
 fv:below b fnv
 fl:(refs fnv).length<=1000
 one:cm fnv=true
 hb:ik b b H
 hl:∀B,(cJ B H).length<=1000
def M1 {B n R:Nat}:gT (B+R) (er B n R):=by
 have cy:∀{a c:List AV},gT (B+R) a->gT (B+R) c->gT (B+R) (a++c):=by
  intro a c
  induction a with
  | nil=>intro _ h;exact h
  | cons x a ih=>intro h1 h2;exact ⟨h1.1,ih h1.2 h2⟩
 have hm:∀l:List Nat,(∀i,i∈l->i<R)->gT (B+R) (l.map fun i=>AV.au (B+i) 0 n):=by
  intro l
  induction l with
  | nil=>intro _;trivial
  | cons x l ih=>intro h;exact ⟨by have:=h x (by simp);show B+x<B+R;omega,ih (fun i hi=>h i (by simp [hi]))⟩
 refine cy (hm _ (fun i hi=>List.mem_range.1 hi)) (sD ?_)
 induction n-R with
 | zero=>rfl
 | succ k ih=>rw [xK];exact ih
def NM {B n R:Nat}:dC (er B n R)=xg B R:=by
 unfold er;have cy:∀a c:List AV,dC (a++c)=dC a++dC c:=by
  intro a c
  induction a with
  | nil=>rfl
  | cons x a ih=>simp only [yH,dC,ih,y7]
 have hm:∀l:List Nat,dC (l.map fun i=>AV.au (B+i) 0 n)=l.map (B+·):=by
  intro l
  induction l with
  | nil=>rfl
  | cons x l ih=>simp only [List.map_cons,dC,refs,ih];rfl
 have hr:dC (yu (n-R) AV.aa)=[]:=by
  induction n-R with
  | zero=>rfl
  | succ k ih=>rw [xK];exact ih
 rw [cy,hm,hr,xS,List.range'_eq_map_range]
def Ax {live:List Nat} {tm:Env} {b n ct st:Nat} {fnv:AV} {H:Hp} {rs:List (List AV)} (ho:EZ b fnv H) (hn:rs.length<=n) (fq:n<=1000) (ht:ij (b+5) (cN tm live)) (hl:(dP (cN tm live)).length<=1000):
  bA live ⟨tm,bg (b+5) rs++bN b n rs.length fnv st H,ct,b+5⟩=⟨cN tm live,bg (b+5) rs++bN b n rs.length fnv st H,b+5+rs.length,b+5⟩:=by
 have zq:jt (b+5+rs.length) (.cells true (yk rs.length 0) true 1 (er (b+5) n rs.length)):= .inr M1;have agU:dN (.cells true (yk rs.length 0) true 1 (er (b+5) n rs.length))=xg (b+5) rs.length:=by
  cases rs with
  | nil=>rfl
  | cons c r=>simp only [dN,yx,cD (Nat.succ_ne_zero _),yr,NM]
 have hTM:ij b (eS b n fnv)->True:=fun _=>trivial
 have FE:ij (b+4) (eS b n fnv):=by
  have:=sH (show b<=b+4 by omega) ho.fv
  refine ⟨⟨trivial,trivial,trivial⟩,trivial,show b+3<b+4 by omega,show b+2<b+4 by omega,trivial,trivial,show b+1<b+4 by omega,show b<b+4 by omega,trivial,this,trivial⟩
 have ajV:(dP (eS b n fnv)).length<=1010:=by
  have:=ho.fl
  simp [eS,dP,refs,dC];omega
 have zP:(dN (.cells true (aI fnv) true 1 [fnv])).length<=1000:=by
  cases aI fnv with
  | true=>simp [dN]
  | false=>simp [dN,dC];exact ho.fl
 have hHr:=LO (B:=b+5) (show b<=b+5 by omega) ho.hb;have e:cJ (b+5) (bN b n rs.length fnv st H)=dP (eS b n fnv)++([b+2]++(xg (b+5) rs.length++(dN (.cells true (aI fnv) true 1 [fnv])++([]++cJ (b+5) H)))):=by
  simp only [bN,cJ,ff (show b+4<b+5 by omega),ff (show b+3<b+5 by omega),ff (show b+2<b+5 by omega),ff (show b+1<b+5 by omega),ff (show b<b+5 by omega),yi,agU];simp only [dN,dC,refs,yr,yi,xS]
 have no:∀(l:List Nat),(∀x,x∈l->x<b+5)->l.filter (fun x=> !yA x (b+5))=[]:=fun l h=>vh.2 (fun x hx=>by simp [ff (h x hx)])
 have all:∀(k:Nat),(xg (b+5) k).filter (fun x=> !yA x (b+5))=xg (b+5) k:=fun k=>List.filter_eq_self.2 (fun x hx=>by
  have:=(List.mem_range'_1.1 hx).1
  simp [s9 this])
 refine LX ht ?_ ?_ ?_
 ·refine ⟨by omega,Dp (by omega) FE,by omega,.inr ⟨show b+2<_ by omega,trivial⟩,by omega,zq,by omega,.inr ⟨sH (by omega) ho.fv,trivial⟩,by omega,.inl rfl,?_⟩;exact Mj (by omega) (fun o h=>XR (by omega) h) ho.hb
 ·rw [e]
  have:=ho.hl (b+5)
  grind
 ·rw [e];simp only [u7]
  rw [no _ (fun x hx=>by have:=Dn FE x hx;omega),no [b+2] (fun x hx=>by simp at hx;omega),all,no _ (fun x hx=>by
   have h1:jt b (.cells true (aI fnv) true 1 [fnv]):= .inr ⟨ho.fv,trivial⟩
   have:=G6 h1 x hx;omega),no [] (fun x hx=>by simp at hx),no _ (fun x hx=>by have:=hHr x hx;omega)]
  simp
end
end
section
open Go (IntKind)
section
variable {pre x post:List Nat} {i:Nat}
end
def Ey (n:Nat) (k:IntKind) (a:Int):below n (.int k a)=True:=rfl
def I9 (n id o k:Nat):below n (.au id o k)=(id<n):=rfl
def Ej (n:Nat):ij n []=True:=rfl
def D2 (n i:Nat) (v:AV) (r:Env):ij n ((i,v)::r)=(below n v/\ij n r):=rfl
section
variable {P:aF} {L:Lib}
end
end
section
open Go (IntKind)
structure fC (x vs:List Nat) (n v1 v2 u0 u1 u2:Nat):Prop where
 n2:2<=n
 nb:n<=99999999999
 lx:x.length=n+1
 lv:vs.length=n
 gx:lo 18446744073709551616 x
 gv:lo 18446744073709551616 vs
 eO:vs.getD (n-1) 0=v1
 cT:vs.getD (n-2) 0=v2
 h0:x.getD n 0=u0
 h1:x.getD (n-1) 0=u1
 h2:x.getD (n-2) 0=u2
 pos:0<v1
 lt:bv 18446744073709551616 x<18446744073709551616*bv 18446744073709551616 vs
def ait (b p a v1 v2:Nat):a+p*v2+p*b*v1=(v1*b+v2)*p+a:=by grind
def aiu (b p a v0 v1 v2:Nat):a+p*v2+p*b*v1+p*b*b*v0=((v0*b+v1)*b+v2)*p+a:=by grind
section
variable {x vs:List Nat} {n v1 v2 u0 u1 u2:Nat}
def fC.La (h:fC x vs n v1 v2 u0 u1 u2):v1<18446744073709551616:=h.eO▸Bs (by decide) h.gv _
def fC.Ak (h:fC x vs n v1 v2 u0 u1 u2):v2<18446744073709551616:=h.cT▸Bs (by decide) h.gv _
def fC.Lb (h:fC x vs n v1 v2 u0 u1 u2):u0<18446744073709551616:=h.h0▸Bs (by decide) h.gx _
def fC.Gx (h:fC x vs n v1 v2 u0 u1 u2):u1<18446744073709551616:=h.h1▸Bs (by decide) h.gx _
def fC.Gy (h:fC x vs n v1 v2 u0 u1 u2):u2<18446744073709551616:=h.h2▸Bs (by decide) h.gx _
def fC.parts (h:fC x vs n v1 v2 u0 u1 u2):∃p vr ur,bv 18446744073709551616 vs=(v1*18446744073709551616+v2)*p+vr/\vr<p/\bv 18446744073709551616 x=((u0*18446744073709551616+u1)*18446744073709551616+u2)*p+ur/\ur<p:=by
 obtain ⟨m,hm⟩:∃m,n=m+2:=⟨n-2,by have:=h.n2;omega⟩;subst hm;have e1:=A5 (b:=18446744073709551616) (l:=vs) (m+1);have e2:=A5 (b:=18446744073709551616) (l:=vs) m;have f0:=A5 (b:=18446744073709551616) (l:=x) (m+2);have f1:=A5 (b:=18446744073709551616) (l:=x) (m+1);have f2:=A5 (b:=18446744073709551616) (l:=x) m;have eO:vs.getD (m+1) 0=v1:=h.eO;have cT:vs.getD m 0=v2:=h.cT;have h0:x.getD (m+2) 0=u0:=h.h0;have h1:x.getD (m+1) 0=u1:=h.h1;have h2:x.getD m 0=u2:=h.h2
 rw [yF (by have:=h.lv;omega),eO,e2,cT] at e1
 rw [yF (by have:=h.lx;omega),h0,f1,h1,f2,h2] at f0;have g1:=Jv (PA h.gv m)
 rw [yN,xX (by have:=h.lv;omega)] at g1;have g2:=Jv (PA h.gx m)
 rw [yN,xX (by have:=h.lx;omega)] at g2;refine ⟨18446744073709551616^m,_,_,?_,g1,?_,g2⟩
 ·grind
 ·grind
def fC.down (h:fC x vs n v1 v2 u0 u1 u2) {t r:Nat} (ht:t*v1+r=u0*18446744073709551616+u1) (hr:r*18446744073709551616+u2<t*v2):bv 18446744073709551616 x/bv 18446744073709551616 vs<=t-1:=by
 obtain ⟨p,vr,ur,h1,h2,h3,h4⟩:=h.parts;exact MO h1 h3 h4 ht hr
def fC.stop (h:fC x vs n v1 v2 u0 u1 u2) {t r:Nat} (iP:t<18446744073709551616) (ht:t*v1+r=u0*18446744073709551616+u1) (hr:18446744073709551616<=r\/t*v2<=r*18446744073709551616+u2):t<=bv 18446744073709551616 x/bv 18446744073709551616 vs+1:=by
 obtain ⟨p,vr,ur,h1,h2,h3,h4⟩:=h.parts;exact NF (by decide) h1 h2 h3 h.pos h.Ak iP ht hr
def fC.first (h:fC x vs n v1 v2 u0 u1 u2):bv 18446744073709551616 x/bv 18446744073709551616 vs<=(u0*18446744073709551616+u1)/v1:=by
 obtain ⟨p,vr,ur,h1,h2,h3,h4⟩:=h.parts;exact Me h1 h3 h4 h.Gy h.pos
def fC.top (h:fC x vs n v1 v2 u0 u1 u2):u0<=v1:=by
 obtain ⟨p,vr,ur,h1,h2,h3,h4⟩:=h.parts;exact NG h1 h3 h2 h.Ak h.lt
def fC.digit (h:fC x vs n v1 v2 u0 u1 u2):bv 18446744073709551616 x/bv 18446744073709551616 vs<18446744073709551616:=by
 refine (Nat.div_lt_iff_lt_mul ?_).2 h.lt;rcases xv (bv 18446744073709551616 vs) with h0 | h0
 ·have:=h.lt;rw [h0] at this;simp at this
 ·exact h0
end
section
variable {P:aF} {L:Lib}
end
end
section
open Go (IntKind)
section
variable {P:aF} {L:Lib}
structure Wd (P:aF) (L:Lib):Prop where
 Ux:L.pure 143=some qG
 ant:L.pure 171=some En
 anu:L.pure 173=some Eo
 anv:L.pure 167=some EM
 anw:Has P L 165 Ub
 anx:Has P L 166 Uc
 anz:Has P L 168 Ud
 anA:Has P L 169 Ue
 anB:Has P L 158 TZ
 anC:Has P L 157 TY
 anD:Has P L 159 Ua
 anE:Has P L 144 TQ
 anF:Has P L 137 TP
def bq:VC->VC
 | .seq _ b=>b
 | c=>c
end
end
section
open Go (IntKind)
def WN (v:AV) (m:Nat):Prop:=∃l,dB v l/\lo 18446744073709551616 l/\od l/\bv 18446744073709551616 l=m
def ab9 {hp:Hp} {id n h:Nat} {pu ex:Bool} {cs:List AV} {tm:Env} {y:X} (hg:ak hp id=some (.cells true pu ex 1 cs)) (hy:cR tm n (some y)=some h) (h1:0<h) (h2:h<=n):
  fu hp (.sl 1) (.au id 0 n) tm none (some y)=some (.au id 0 h):=by
 have hx:cR tm 0 none=some 0:=rfl;simp only [fu,hg,hx,hy,yt (tX h),yt h2,y9,vR,yi,cD (show (0:Nat)≠h by omega),Bool.false_and,yr,Nat.zero_mul,xH,Nat.sub_zero]
def aiv (P:aF) (L:Lib) (f:b9) (hp:Hp) (ct n:Nat) (xs:List AV):cK P L f hp ct .heap (.fn (.f n) [] []) xs=fK P L f hp ct n xs:=by
 simp only [cK,xu,xS]
section
variable {P:aF} {L:Lib}
end
end
section
open Go (IntKind)
def Z4 {b p A V bu V5 U0 pre:Nat} (h1:bu=pre+p*A) (h2:bu+V5*V=U0):(pre+p*(A%V))+(V5+p*(A/V))*V=U0:=by
 have kg:=Nat.div_add_mod A V
 grind
section
variable {P:aF} {L:Lib}
end
end
section
open Go (IntKind)
def gP (v:AV) (n:Int):Prop:=∃w l,v= .agg [.bool (decide (n<0)),w]/\aX w l/\dg l/\nz l/\dv l=n.natAbs
def fY {l:List Int} {k:Nat} (hd:dg l) (hn:nz l) (h:dv l<1000000000^k):l.length<=k:=by
 by_cases h0:l=[]
 ·grind
 ·have h1:=EW hn hd h0;have h2:1000000000^(l.length-1)<1000000000^k:=xA h1 h;have h3:=(Nat.pow_lt_pow_iff_right (show 1<1000000000 by decide)).1 h2;omega
def eL {hp:Hp} {ct id:Nat} {a b x y:AV} (h1:cm a=true) (h2:cm b=true) (p1:aI a=true) (p2:aI b=true):
  iQ hp ct id 0 2 [a,b] (some (.cells true true true 2 [x,y]))=some (.aw [],aY hp id (.cells true true true 2 [a,b]),ct):=by
 rw [zh (by rfl) (by simp) (by simp [bY,h1,h2])];simp [az,p1,p2,over]
section
variable {P:aF} {L:Lib}
def fp (neg:Bool) (m:Nat):Int:=if neg=true then -(m:Int) else m
def lF (h:Has P L 294 o6) (bZ:Has P L 300 iL) (neg:Bool) {v:AV} {l:List Int} (hv:aX v l) (hd:dg l) (hl:l.length<=20000000000):
  ∃r,aj P L 294 [.bool neg,v] r/\gP r (fp neg (dv l)):=by
 obtain ⟨w,e1,hw,gQ⟩:=pf bZ hv hl;have kV:=nj l;have pV:=sR l;have jF:=oE hd;have hc:(neg&&decide ((0:Int)<((cX l).length:Nat)))=decide (fp neg (dv l)<0):=by
  unfold fp
  cases neg with
  | false=>simp
  | true=>
   simp only [u6,yR];by_cases h0:cX l=[]
   ·rw [h0] at kV ⊢;simp only [dv] at kV;simp [<-kV]
   ·have h1:0<(cX l).length:=List.length_pos_iff.2 h0;have h2:0<dv l:=by
     rw [<-kV];rcases xv (dv (cX l)) with h | h
     ·exact absurd (Py pV jF h) h0
     ·exact h
    rw [wM (by omega),wM (by omega)]
 refine ⟨.agg [.bool (decide (fp neg (dv l)<0)),w],?_,w,cX l,rfl,hw,jF,pV,?_⟩
 ·rw [<-hc];unfold aj at e1 ⊢;rw [aR h]
  cases neg with
  | false=>
   simp only [go_sem,ya,yc,ym,o6,bL,hv.aE,e1,hw.pu,hw.shut,hw.one,hw.cells,eL];rcases hw with ⟨rfl,_⟩ | ⟨e,rfl⟩<;>rfl
  | true=>
   simp only [go_sem,ya,yc,ym,o6,bL,hv.aE,e1,hw.len,hw.pu,hw.shut,hw.one,hw.cells,eL];rcases hw with ⟨rfl,_⟩ | ⟨e,rfl⟩<;>rfl
 ·rw [kV];unfold fp;split<;>omega
def Uy (h:Has P L 298 Ft) (fE:Has P L 294 o6) (bZ:Has P L 300 iL) {v:AV} {n:Int} {K:Nat} (hK:K<=20000000000) (hv:gP v n) (hn:n.natAbs<1000000000^K):∃r,aj P L 298 [v] r/\gP r (-n):=by
 obtain ⟨w,l,rfl,hw,hd,hz,kV⟩:=hv;obtain ⟨r,e1,hr⟩:=lF fE bZ (!decide (n<0)) hw hd (xz (fY hd hz (by rw [kV];exact hn)) hK)
 have e:fp (!decide (n<0)) (dv l)= -n:=by
  rw [kV];unfold fp;by_cases h0:n<0
  ·simp [h0];omega
  ·simp [h0];omega
 rw [e] at hr;obtain ⟨w2,l2,rfl,fa,gM,fR,nU⟩:=hr;refine ⟨_,?_,w2,l2,rfl,fa,gM,fR,nU⟩;unfold aj at e1 ⊢;rw [aR h];simp only [go_sem,ya,yc,Ft,bL,hw.pu,hw.aE,hw.one,fa.pu,fa.one,cP,yp,fj,e1,eL,cI];rcases fa with ⟨rfl,_⟩ | ⟨e,rfl⟩<;>rfl
end
end
section
open Go (IntKind)
def mY (s:Int) (w:AV) (z:Int):Prop:=
 (w= .aa/\s=z/\-9223372036854775808<=z/\z<9223372036854775808)\/
 (∃e l,w= .aB e l.length (l.map uc)/\lo 18446744073709551616 l/\od l/\bv 18446744073709551616 l=z.natAbs/\s=(if z<0 then -1 else 1)/\9223372036854775808<=z.natAbs)
def Bd (k:Nat) (z:Int):Prop:=z.natAbs<2^k
def Bd.mono {k m:Nat} {z:Int} (h:Bd k z) (hk:k<=m):Bd m z:=yU h (xL (by decide) hk)
def Bd.neg {k:Nat} {z:Int} (h:Bd k z):Bd k (-z):=by unfold Bd at h ⊢;rwa [Int.natAbs_neg]
def Bd.add {k m:Nat} {a b:Int} (ha:Bd k a) (hb:Bd m b):Bd (max k m+1) (a+b):=by
 have h1:Bd (max k m) a:=ha.mono (by omega);have h2:Bd (max k m) b:=hb.mono (by omega);unfold Bd at h1 h2 ⊢
 grind
def Bd.sub {k m:Nat} {a b:Int} (ha:Bd k a) (hb:Bd m b):Bd (max k m+1) (a-b):=by
 rw [Int.sub_eq_add_neg];exact ha.add hb.neg
def Bd.mul {k m:Nat} {a b:Int} (ha:Bd k a) (hb:Bd m b):Bd (k+m) (a*b):=by
 unfold Bd at*
 rw [xi,Nat.pow_add];exact Nat.mul_lt_mul'' ha hb
def Bd.le {k:Nat} {a b:Int} (hb:Bd k b) (h:a.natAbs<=b.natAbs):Bd k a:=xA h hb
def WN.pos {v:AV} {m:Nat} (h:WN v m) (h0:0<m):∃e l,v= .aB e l.length (l.map uc)/\l≠[]/\lo 18446744073709551616 l/\od l/\bv 18446744073709551616 l=m:=by
 obtain ⟨l,hv,g,n,hb⟩:=h;have hl:l≠[]:=fun e=>by subst e;simp [bv] at hb;omega
 rcases hv with ⟨_,e⟩ | ⟨e,rfl⟩
 ·simp_all
 ·exact ⟨e,l,by simp,hl,g,n,hb⟩
def WN.zero {v:AV} (h:WN v 0):∃n,fh [] 1 v=some (.int .i64 n)/\n=0:=by
 obtain ⟨l,hv,g,n,hb⟩:=h
 have:=abD (b:=18446744073709551616) (by decide) n hb
 subst this;exact ⟨_,hv.len,rfl⟩
def WN.sd {v:AV} {m:Nat} (h:WN v m):∃l,dB v l/\lo 18446744073709551616 l/\od l/\bv 18446744073709551616 l=m:=h
def mY.eR {s:Int} {w:AV} {z:Int} (h:mY s w z):(s<0↔z<0)/\(s=0↔z=0)/\-9223372036854775808<=s/\s<9223372036854775808:=by
 rcases h with ⟨_,rfl,h1,h2⟩ | ⟨e,l,_,_,_,_,rfl,h1⟩
 ·grind
 ·grind
section
variable {P:aF} {L:Lib}
structure Nu (P:aF) (L:Lib):Prop extends Wd P L where
 J3:Has P L 117 BZ
 nS:Has P L 142 rB
 anG:Has P L 136 TO
 anH:Has P L 145 TR
 jU:Has P L 146 nN
 mE:Has P L 147 oY
 rG:Has P L 163 oZ
 anI:Has P L 118 TJ
 J4:Has P L 119 c119
 anJ:Has P L 156 TX
 zH:Has P L 100 zu
 kH:Has P L 164 mA
 Ci:Has P L 148 zB
 FD:Has P L 130 zy
end
end
section
open Go (IntKind)
def eC:VC->VC
 | .seq a _=>a
 | c=>c
def mY.sd {s:Int} {w:AV} {z:Int} (h:mY s w z):∃l,dB w l:=by
 rcases h with ⟨rfl,_⟩ | ⟨e,l,rfl,_⟩
 ·exact ⟨[],ab6⟩
 ·exact ⟨l,aeh e l⟩
section
variable {P:aF} {L:Lib}
end
end
section
open Go (IntKind)
def Il {P:aF} {L:Lib} (a b c:VC) (s:St):D P L (.seq a (.seq b c)) s=q8 P L (D P L (.seq a b) s) c:=by
 rw [mu,mu]
 cases D P L a s with
 | none=>rfl
 | some q=>
  obtain ⟨ex,st⟩:=q
  cases ex with
  | normal=>rw [ku,ku,mu]
  | ret=>rfl
  | exit id=>rfl
section
variable {P:aF} {L:Lib}
end
end
section
open Go (IntKind)
section
variable {P:aF} {L:Lib}
end
def jk (v:AV) (r:Rat):Prop:=∃s1 w1 s2 w2,v= .agg [ab s1,w1,ab s2,w2]/\mY s1 w1 r.num/\mY s2 w2 (r.den:Int)
def Hq (k:Nat) (r:Rat):Prop:=Bd k r.num/\Bd k (r.den:Int)
def G1 {a b:Int} (hb:0<b):(xM a b).num=a/(Int.gcd a b:Nat)/\((xM a b).den:Int)=b/(Int.gcd a b:Nat):=by
 constructor
 ·rw [Rat.num_divInt,Int.sign_eq_one_of_pos hb,Int.one_mul,yaM]
 ·rw [Rat.den_divInt,yE (by omega),yaM]
  grind
def Hq.divInt {k:Nat} {a b:Int} (hb:0<b) (ka:Bd k a) (kb:Bd k b):Hq k (xM a b):=by
 obtain ⟨h1,h2⟩:=G1 (a:=a) hb;refine ⟨ka.le ?_,kb.le ?_⟩
 ·rw [h1,wW (Int.gcd_dvd_left a b)];exact uN _ _
 ·rw [h2,wW (Int.gcd_dvd_right a b)];exact uN _ _
section
def aiw {s t:Int} {v w:AV} {l m:List Nat} (hv:dB v l) (hw:dB w m) (hp:Hp) (ct id:Nat) (a b x y:AV):iQ hp ct id 0 4 [.int .i64 s,v,.int .i64 t,w] (some (.cells true true true 4 [a,b,x,y]))=some (.aw [],aY hp id (.cells true true true 4 [.int .i64 s,v,.int .i64 t,w]),ct):=by
 rw [zh (by rfl) (by simp) (by simp [bY,hv.one,hw.one,Eg])];simp [az,hv.pu,hw.pu,over,Es]
def aix {s t:Int} {v w:AV} {l m:List Nat} (hv:dB v l) (hw:dB w m) (hp:Hp):result hp (.agg [ab s,v,ab t,w])=some (.agg [ab s,v,ab t,w]):=by
 rcases hv with ⟨rfl,_⟩ | ⟨e,rfl⟩<;>rcases hw with ⟨rfl,_⟩ | ⟨e',rfl⟩<;>rfl
variable {P:aF} {L:Lib}
structure V6 (P:aF) (L:Lib):Prop extends Nu P L where
 Uz:Has P L 101 zx
 V7:Has P L 69 Gc
 UA:Has P L 111 Fi
 Gz:Has P L 98 CS
 anK:Has P L 108 TC
 UB:Has P L 102 Fh
 Lc:Has P L 74 z6
 V8:Has P L 50 F7
 kW:Has P L 49 c49
 V9:Has P L 73 Ge
 Wa:Has P L 70 Gd
 h71:Has P L 71 VM
 anL:Has P L 149 TS
end
end
section
open Go (IntKind)
def Hq.mono {k m:Nat} {r:Rat} (h:Hq k r) (hk:k<=m):Hq m r:=⟨h.1.mono hk,h.2.mono hk⟩
def Hq.neg {k:Nat} {r:Rat} (h:Hq k r):Hq k (-r):=⟨h.1.neg,h.2⟩
def add_eq (a b:Rat):a+b=xM (a.num*b.den+b.num*a.den) ((a.den:Int)*b.den):=by
 rw [Rat.add_def',<-tU,xC]
def mul_eq (a b:Rat):a*b=xM (a.num*b.num) ((a.den:Int)*b.den):=by
 rw [Rat.mul_def',<-tU,xC]
def OE (a:Rat):0<(a.den:Int):=by have:=a.den_pos;omega
def Dq (a b:Rat):0<(a.den:Int)*b.den:=Int.mul_pos (OE a) (OE b)
def Bd.UC {k:Nat} {a b:Int} (ha:Bd k a) (hb:Bd k b):Bd (k+1) (a+b):=by
 have:=ha.add hb
 grind
def Hq.add {k m:Nat} {a b:Rat} (ha:Hq k a) (hb:Hq m b):Hq (k+m+1) (a+b):=by
 rw [add_eq];refine Hq.divInt (Dq a b) ?_ ((ha.2.mul hb.2).mono (by omega));exact (ha.1.mul hb.2).UC ((hb.1.mul ha.2).mono (by omega))
def Hq.mul {k m:Nat} {a b:Rat} (ha:Hq k a) (hb:Hq m b):Hq (k+m) (a*b):=by
 rw [mul_eq];exact Hq.divInt (Dq a b) (ha.1.mul hb.1) (ha.2.mul hb.2)
def Hq.sub {k m:Nat} {a b:Rat} (ha:Hq k a) (hb:Hq m b):Hq (k+m+1) (a-b):=by
 rw [Rat.sub_eq_add_neg];exact ha.add hb.neg
def Hq.inv {k:Nat} {a:Rat} (ha:Hq k a):Hq k a⁻¹:=by
 have h1:(a⁻¹).num.natAbs<=a.den:=by
  rw [Rat.num_inv,xi]
  grind
 refine ⟨ha.2.le (by simpa using h1),?_⟩;unfold Bd;rw [Rat.den_inv]
 split
 ·have h2:=ha.2;unfold Bd at h2
  simp_all
 ·exact ha.1
def Hq.div {k m:Nat} {a b:Rat} (ha:Hq k a) (hb:Hq m b):Hq (k+m) (a/b):=by
 rw [Rat.div_def];exact ha.mul hb.inv
section
variable {P:aF} {L:Lib}
end
end
section
open Go (IntKind)
def Rl:List AV->Option (List Nat)
 | []=>some []
 | .int .u64 (.ofNat d)::r=>bif yA d 18446744073709551616 then (match Rl r with | some l=>some (d::l) | none=>none) else none
 | _::_=>none
def FF:List Nat->Nat
 | []=>0
 | a::r=>a+18446744073709551616*FF r
def S3:List Nat->Bool
 | []=>false
 | [a]=> !yk a 0
 | _::r=>S3 r
def aei:List AV->Option AV
 | [.agg [.int .i64 s,.aa]]=>bif BJ s then some (.str (bE s)) else none
 | [.agg [.int .i64 s,.aB _ n cs]]=>
  match Rl cs with
  | some l=>
   bif yk l.length n&&(yy n 4000000000&&(S3 l&&yy 9223372036854775808 (FF l))) then
    match s with
    | .ofNat 1=>some (.str (aD (FF l)))
    | .negSucc 0=>some (.str (45::aD (FF l)))
    | _=>none
   else none
  | none=>none
 | _=>none
end
section
open Go (IntKind)
section
variable {P:aF} {L:Lib}
structure Tx (P:aF) (L:Lib):Prop extends V6 P L where
 Wb:L.pure 99=some aei
 anM:L.pure 175=some Ep
 anN:L.pure 152=some Dy
 anO:L.pure 153=some Dk
 anP:L.pure 154=some EL
 anQ:L.pure 109=some Fb
 anR:Has P L 155 TW
 anS:Has P L 172 Uf
 anT:Has P L 151 TV
 anU:Has P L 107 TB
 Wc:Has P L 46 CQ
 anV:Has P L 110 TD
 h62:Has P L 62 VF
def RT (r:Rat):List Nat:=bE r.num++(if r.den=1 then [] else 47::aD r.den)
def HK {z:Int} {k:Nat} (h:Bd k z):(bE z).length<=k+1:=by
 have h1:∀m:Nat,m<2^k->(aD m).length<=max k 1:=fun m hm=>by
  cases k with
  | zero=>
       have:m=0:=by simpa using hm
       subst this;decide
  | succ k=>
   rw [Nat.max_eq_left (by omega)];exact oF (k:=k) (yU hm (u9 (by decide) _))
 by_cases h0:z<0
 ·rw [qv h0];unfold Bd at h
  grind
 ·obtain ⟨m,rfl⟩:∃m:Nat,z=m:=⟨z.toNat,by omega⟩
  have:=h1 m (by unfold Bd at h;simpa using h)
  rw [oG];omega
end
end
section
open Go (IntKind)
section
variable {P:aF} {L:Lib}
def OF:∀(l m:List Nat) (a:Nat),dT (l++m) a=(dT l a).bind (fun v=>dT m v)
 | [],m,a=>rfl
 | b::l,m,a=>by
  simp only [yH,dT]
  cases (yy 48 b&&yy b 57) with
  | true=>exact OF l m _
  | false=>rfl
end
end
section
open Go (IntKind)
def Z5 {b:Nat} {r:List Nat} (h:ep (b::r)=true):48<=b/\b<=57:=by
 simp only [ep,ye] at h
 simp_all
section
variable {P:aF} {L:Lib}
end
end
section
open Go (IntKind)
def eX (p:List Nat):Bool:=ep p&&(match p with | []=>false | b::r=> !(yk b 48)||r.isEmpty)
def fF (p:List Nat):Nat:=(dT p 0).getD 0
def jV (neg:Bool) (t:List Nat):Int:=
 if eX (t.take (bV t))=false\/(neg=true/\t.take (bV t)=[48]) then 1
 else if bV t<t.length/\(eX (t.drop (bV t+1))=false\/t.drop (bV t+1)=[48]\/t.drop (bV t+1)=[49]) then 1
 else if 600<bV t\/600<t.length-bV t-1 then 4
 else if bV t<t.length/\wb (fF (t.take (bV t))) (fF (t.drop (bV t+1)))≠1 then 1
 else 0
def dV:List Nat->Int
 | []=>jV false []
 | b::t=>if b=45 then jV true t else jV false (b::t)
def OG:∀{p:List Nat} (a:Nat),ep p=true->∃n,dT p a=some n
 | [],a,_=>⟨a,rfl⟩
 | b::r,a,h=>by
  have h':=h;simp only [ep,ye] at h';obtain ⟨n,hn⟩:=OG (p:=r) (10*a+(b-48)) h'.2;exact ⟨n,by simp only [dT,h'.1.1,h'.1.2,vR,yi];exact hn⟩
def DM:∀(k:Nat) {p:List Nat},p.length=k->eX p=true->aD (fF p)=p:=by
 intro k
 induction k with
 | zero=>intro p hl h;rw [yB hl] at h;simp [eX] at h
 | succ k ih=>
  intro p hl h;rcases snoc p with rfl | ⟨m,a,rfl⟩
  ·grind
  ·simp only [eX,ye,G5] at h;obtain ⟨⟨h1,h2⟩,h3⟩:=h;simp only [ep,ye] at h2;have ha1:=yo h2.1.1;have ha2:=yo h2.1.2;obtain ⟨n,hn⟩:=OG 0 h1;have hv:fF (m++[a])=10*n+(a-48):=by
    unfold fF;rw [OF,hn];simp only [Option.bind_some,dT,h2.1.1,h2.1.2,vR,yi,Option.getD_some]
   cases m with
   | nil=>
    have:n=0:=by simpa [dT] using hn.symm
    rw [hv,kj (by omega)]
    simp;omega
   | cons b r=>
    have hd:eX (b::r)=true:=by
     simp only [eX,h1,u6]
     cases r with
     | nil=>simp
     | cons c r=>simp at h3 ⊢;exact h3
    have hm:=ih (p:=b::r) (by simpa using hl) hd;have hnv:fF (b::r)=n:=by unfold fF;rw [hn];rfl
    rw [hnv] at hm;have jB:n≠0:=fun e=>by
     rw [kj (by omega)] at hm
     simp_all
    rw [hv,li (by omega),show (10*n+(a-48))/10=n by omega,show 48+(10*n+(a-48))%10=a by omega,hm]
def LP (t:List Nat):bV t<t.length->t=t.take (bV t)++47::t.drop (bV t+1):=by
 induction t with
 | nil=>simp
 | cons b r ih=>
  intro h;simp only [bV] at h ⊢
  grind
def NN {n:Int} {d:Nat} (hd:0<d) (hg:wb n.natAbs d=1):∃r:Rat,r.num=n/\r.den=d:=⟨⟨n,d,by omega,hg⟩,rfl,rfl⟩
def agV {s:List Nat} (h:dV s=0):∃r:Rat,s=RT r/\(aD r.num.natAbs).length<=600/\(aD r.den).length<=600:=by
 have key:∀(neg:Bool) (t:List Nat),jV neg t=0->∃r:Rat,(if neg=true then [45] else [])++t=RT r/\(aD r.num.natAbs).length<=600/\(aD r.den).length<=600:=by
  intro neg t h;unfold jV at h
  split at h
  ·grind
  rename_i h1
  split at h
  ·grind
  rename_i h2
  split at h
  ·grind
  rename_i h3
  split at h
  ·grind
  rename_i h4;have hle:=DK t;have hp:eX (t.take (bV t))=true:=by
   cases hb:eX (t.take (bV t)) with
   | true=>rfl
   | false=>exact absurd (.inl hb) h1
  have oh:=DM _ rfl hp;generalize hn:fF (t.take (bV t))=n at*
  have aiy:neg=true->n≠0:=fun hh e=>by
   subst e;exact h1 (.inr ⟨hh,by rw [<-oh];rfl⟩)
  have hint:(if neg=true then [45] else [])++aD n=bE (if neg=true then -(n:Int) else n):=by
   cases neg with
   | true=>
    have:=aiy rfl
    simp only [yR];rw [qv (by omega)]
    simp
   | false=>simp [oG]
  have J5:(if neg=true then -(n:Int) else n).natAbs=n:=by split<;>omega
  have We:(aD n).length<=600:=by rw [oh,yN];omega
  by_cases hs:bV t<t.length
  ·have hq:eX (t.drop (bV t+1))=true:=by
    cases hb:eX (t.drop (bV t+1)) with
    | true=>rfl
    | false=>exact absurd ⟨hs,.inl hb⟩ h2
   have lV:=DM _ rfl hq;have hg:wb n (fF (t.drop (bV t+1)))=1:=by
    grind
   have jN:=LP t hs;have Ld:(t.drop (bV t+1)).length<=600:=by rw [List.length_drop];omega
   rw [<-lV] at jN Ld;have se:fF (t.drop (bV t+1))≠0:=fun e=>by
    rw [e] at lV;exact h2 ⟨hs,.inr (.inl (by rw [<-lV];rfl))⟩
   have lK:fF (t.drop (bV t+1))≠1:=fun e=>by
    rw [e] at lV;exact h2 ⟨hs,.inr (.inr (by rw [<-lV];rfl))⟩
   generalize fF (t.drop (bV t+1))=d at*
   obtain ⟨r,cz,eH⟩:=NN (n:=if neg=true then -(n:Int) else n) (d:=d) (by omega) (by rw [J5];exact hg)
   refine ⟨r,?_,by rw [cz,J5];exact We,by rw [eH];exact Ld⟩
   unfold RT;rw [cz,eH,yE lK,<-hint,y7]
   congr 1
   rw [oh];exact jN
  ·have ht:t.take (bV t)=t:=yF (by omega);rw [ht] at oh;obtain ⟨r,cz,eH⟩:=NN (n:=if neg=true then -(n:Int) else n) (d:=1) (by omega) (Nat.gcd_one_right _);refine ⟨r,?_,by rw [cz,J5];exact We,by rw [eH];decide⟩
   unfold RT;rw [cz,eH,yS rfl,<-hint,xS,oh]
 cases s with
 | nil=>exact absurd h (by decide)
 | cons b t=>
  simp only [dV] at h
  split at h
  ·rename_i hb;subst hb;exact key true t h
  ·exact key false (b::t) h
end
section
namespace Nd
structure Ord (n:Nat) (l:List Int):Prop where
 len:l.length=n
 kL:∀a,a<n->0<=l.getD a 0/\l.getD a 0<n
 inj:∀a b,a<n->b<n->l.getD a 0=l.getD b 0->a=b
end Nd
end
section
namespace Nd
open Go (IntKind)
section
variable {P:aF} {L:Lib}
abbrev aj (P:aF) (L:Lib) (f:Nat) (ap:List AV) (r:AV):Prop:=b5 P L (D P L) f ap=some r
end
end Nd
end
section
open Go (IntKind)
def PB (a b:List Nat):binOp .neq (.str a) (.str b)=some (.bool (!(dA a b))):=rfl
structure Ck (P:aF) (L:Lib):Prop extends Tx P L where
 anW:L.pure 128=some Dx
 anX:L.pure 162=some trimS
 h86:Has P L 86 VO
 anY:Has P L 124 TK
 anZ:Has P L 125 TL
 an0:Has P L 129 TN
section
variable {P:aF} {L:Lib}
def aej {a b:List Nat} (h:a=b):dA a b=true:=by
 subst h
 induction a with
 | nil=>rfl
 | cons x a ih=>simp [dA,ih]
end
end
section
open Go (IntKind)
def M2 {m B k:Nat} (hB:B<=3*k) (hk:0<k) (h:m<2^B):(aD m).length<=k:=by
 obtain ⟨j,rfl⟩:∃j,k=j+1:=⟨k-1,by omega⟩;refine oF (yU h (xz (xL (by decide) hB) ?_));rw [Nat.pow_mul];exact u9 (by decide) _
section
variable {P:aF} {L:Lib}
end
end
section
open Go (IntKind)
def Z6 (p s:Nat):p*(s%1000000000)+p*1000000000*(s/1000000000)=p*s:=by
 rw [Nat.mul_assoc,<-Nat.mul_add,Nat.mod_add_div]
def AY {l:List Int} {i:Nat} (h:l.length<=i):l.getD i 0=0:=by simp_all
def aca {a b out:List Int} {i c:Nat} {x y:Int} (hx:x=a.getD i 0) (hy:y=b.getD i 0) (h1:0<=x) (h2:0<=y) (hl:out.length=i) (hv:dv out+1000000000^i*c=dv (a.take i)+dv (b.take i)):
  dv (out++[(((x.toNat+y.toNat+c)%1000000000:Nat):Int)])+1000000000^(i+1)*((x.toNat+y.toNat+c)/1000000000)=dv (a.take (i+1))+dv (b.take (i+1)):=by
 rw [kw,kw,iT,hl,<-hx,<-hy];simp only [dv,Int.toNat_natCast,wz,xH,xq]
 have:=Z6 (1000000000^i) (x.toNat+y.toNat+c)
 grind
section
variable {P:aF} {L:Lib}
def agW (jy:Has P L 302 mD) {v w:AV} {a b:List Int} (hv:aX v a) (hw:aX w b) (ha:dg a) (hb:dg b) {N:Nat} (la:a.length<=N) (lb:b.length<=N) (lN:N<=20000000000):
  ∀k s,(∃(i c:Nat) (out:List Int),2*(N-i)+c=k/\out.length=i/\c<=1/\dg out/\dv out+1000000000^i*c=dv (a.take i)+dv (b.take i)/\i<=N+1/\(i<=N\/c=0)/\
    ((i=0/\bA [0,1,5,6,7] s=⟨[(0,v),(1,w),(5,.aa),(6,ab c),(7,ab i)],[],0,0⟩)\/
    (0<i/\bA [0,1,5,6,7] s=⟨[(0,v),(1,w),(5,.au 0 0 i),(6,ab c),(7,ab i)],[(0,.cells true true false 1 (out.map ab))],1,0⟩)))->
   ∃ex s',D P L (.loop [0,1,5,6,7] kz) s=some (ex,s')/\∃tm out,ex= .exit 0/\dg out/\dv out=dv a+dv b/\out.length<=N+1/\((out=[]/\ah tm 5= .aa/\s'=⟨tm,[],0,0⟩)\/(0<out.length/\ah tm 5= .au 0 0 out.length/\s'=⟨tm,[(0,.cells true true false 1 (out.map ab))],1,0⟩)):=by
 refine dt (I:=fun k s=>∃(i c:Nat) (out:List Int),2*(N-i)+c=k/\out.length=i/\c<=1/\dg out/\dv out+1000000000^i*c=dv (a.take i)+dv (b.take i)/\i<=N+1/\(i<=N\/c=0)/\
    ((i=0/\s=⟨[(0,v),(1,w),(5,.aa),(6,ab c),(7,ab i)],[],0,0⟩)\/
    (0<i/\s=⟨[(0,v),(1,w),(5,.au 0 0 i),(6,ab c),(7,ab i)],[(0,.cells true true false 1 (out.map ab))],1,0⟩)))
  (Q:=fun ex s'=>∃tm out,ex= .exit 0/\dg out/\dv out=dv a+dv b/\out.length<=N+1/\((out=[]/\ah tm 5= .aa/\s'=⟨tm,[],0,0⟩)\/(0<out.length/\ah tm 5= .au 0 0 out.length/\s'=⟨tm,[(0,.cells true true false 1 (out.map ab))],1,0⟩))) ?_
 rintro k s ⟨i,c,out,hk,hlen,hc,jF,bi,hi,zN,hs⟩;have e1:=J0 jy hv i;have e2:=J0 jy hw i;unfold aj at e1 e2;have ga:=fe ha i;have gb:=fe hb i;by_cases mX:i<a.length\/i<b.length\/0<c
 ·left
  obtain ⟨x,hx⟩:∃x,x=a.getD i 0:=⟨_,rfl⟩;obtain ⟨y,hy⟩:∃y,y=b.getD i 0:=⟨_,rfl⟩;rw [<-hx] at e1 ga;rw [<-hy] at e2 gb;have zj:=aca (c:=c) hx hy ga.1 gb.1 hlen bi;obtain ⟨s0,jX⟩:∃s0,s0=x.toNat+y.toNat+c:=⟨_,rfl⟩;rw [<-jX] at zj;have ph:x+y+(c:Int)=(s0:Int):=by omega
  have hs9:s0<2000000000:=by omega
  have hr:((s0:Nat):Int).tmod 1000000000=((s0%1000000000:Nat):Int):=by rw [Int.tmod_eq_emod_of_nonneg (by omega)];rfl
  have hq:((s0:Nat):Int).tdiv 1000000000=((s0/1000000000:Nat):Int):=by rw [Int.tdiv_eq_ediv_of_nonneg (by omega)];rfl
  have sf:s0/1000000000<=1:=by omega
  have aiz:2*(N-(i+1))+s0/1000000000<k:=by
   by_cases hm:i<N
   ·omega
   ·have:c=1:=by omega
    have Lf:x=0:=by rw [hx];exact AY (by omega)
    have Ai:y=0:=by rw [hy];exact AY (by omega)
    subst Lf;subst Ai
    have:s0=1:=by rw [jX,this];rfl
    subst this;omega
  have lG:dg (out++[((s0%1000000000:Nat):Int)]):=eU.2 ⟨jF,ig.2 (by omega)⟩;have Jw:(out++[((s0%1000000000:Nat):Int)]).length=i+1:=by simp [hlen]
  have ajW:i+1<=N\/s0/1000000000=0:=by
   by_cases hm:i<N
   ·exact .inl hm
   ·right
    have:c=1:=by omega
    have Lf:x=0:=by rw [hx];exact AY (by omega)
    have Ai:y=0:=by rw [hy];exact AY (by omega)
    subst Lf;subst Ai
    have:s0=1:=by rw [jX,this];rfl
    subst this;rfl
  have fin:∃s',D P L kz s=some (.normal,s')/\bA [0,1,5,6,7] s'=⟨[(0,v),(1,w),(5,.au 0 0 (i+1)),(6,ab (s0/1000000000:Nat)),(7,ab (i+1:Nat))],[(0,.cells true true false 1 ((out++[((s0%1000000000:Nat):Int)]).map ab))],1,0⟩:=by
   have three:((i:Int)<a.length)\/(¬(i:Int)<a.length/\(i:Int)<b.length)\/(¬(i:Int)<a.length/\¬(i:Int)<b.length/\(0:Int)<c):=by omega
   rcases three with t1 | ⟨t1,t2⟩ | ⟨t1,t2,t3⟩
   ·rcases hs with ⟨h0,rfl⟩ | ⟨h0,rfl⟩
    ·subst h0;have fQ:out=[]:=yB hlen;subst fQ
     simp only [go_sem,ya,yc,xR,yV,ym,yv,kz,hv.len,hv.aE,hw.aE,t1,e1,e2,wrap64 (n:=x+y) (by omega) (by omega),ph,wrap64 (n:=(s0:Int)) (by omega) (by omega),eJ _ _ _ (show (1000000000:Int)≠0 by decide),dX _ _ _ (show (1000000000:Int)≠0 by decide),hr,hq,wrap64 (n:=((s0/1000000000:Nat):Int)) (by omega) (by omega),jH];refine ⟨_,rfl,?_⟩;rw [wrap64 (by omega) (by omega)];simp only [go_sem,ya,yc,aM,a6 hv.pu,bc _ hv.pu,a6 hw.pu,bc _ hw.pu]<;>rfl
    ·simp only [go_sem,ya,yc,ym,yv,kz,hv.len,hv.aE,hw.aE,t1,e1,e2,wrap64 (n:=x+y) (by omega) (by omega),ph,wrap64 (n:=(s0:Int)) (by omega) (by omega),eJ _ _ _ (show (1000000000:Int)≠0 by decide),hr]
     rw [jn (ex:=false) (pu:=true) (cs:=out.map ab) (by simp only [go_sem,ya]) (by rw [yL,hlen,yv]) (by omega) (by omega) (by decide) (by simp only [go_sem])]
     simp only [go_sem,ya,yc,dX _ _ _ (show (1000000000:Int)≠0 by decide),hq,wrap64 (n:=((s0/1000000000:Nat):Int)) (by omega) (by omega)];refine ⟨_,rfl,?_⟩;rw [wrap64 (by omega) (by omega),xm];simp only [go_sem,ya,yc,aM,a6 hv.pu,bc _ hv.pu,a6 hw.pu,bc _ hw.pu]<;>rfl
   ·rcases hs with ⟨h0,rfl⟩ | ⟨h0,rfl⟩
    ·subst h0;have fQ:out=[]:=yB hlen;subst fQ
     simp only [go_sem,ya,yc,xR,yV,ym,yv,kz,hv.len,hv.aE,hw.len,hw.aE,t1,t2,e1,e2,wrap64 (n:=x+y) (by omega) (by omega),ph,wrap64 (n:=(s0:Int)) (by omega) (by omega),eJ _ _ _ (show (1000000000:Int)≠0 by decide),dX _ _ _ (show (1000000000:Int)≠0 by decide),hr,hq,wrap64 (n:=((s0/1000000000:Nat):Int)) (by omega) (by omega),jH];refine ⟨_,rfl,?_⟩;rw [wrap64 (by omega) (by omega)];simp only [go_sem,ya,yc,aM,a6 hv.pu,bc _ hv.pu,a6 hw.pu,bc _ hw.pu]<;>rfl
    ·simp only [go_sem,ya,yc,ym,yv,kz,hv.len,hv.aE,hw.len,hw.aE,t1,t2,e1,e2,wrap64 (n:=x+y) (by omega) (by omega),ph,wrap64 (n:=(s0:Int)) (by omega) (by omega),eJ _ _ _ (show (1000000000:Int)≠0 by decide),hr]
     rw [jn (ex:=false) (pu:=true) (cs:=out.map ab) (by simp only [go_sem,ya]) (by rw [yL,hlen,yv]) (by omega) (by omega) (by decide) (by simp only [go_sem])]
     simp only [go_sem,ya,yc,dX _ _ _ (show (1000000000:Int)≠0 by decide),hq,wrap64 (n:=((s0/1000000000:Nat):Int)) (by omega) (by omega)];refine ⟨_,rfl,?_⟩;rw [wrap64 (by omega) (by omega),xm];simp only [go_sem,ya,yc,aM,a6 hv.pu,bc _ hv.pu,a6 hw.pu,bc _ hw.pu]<;>rfl
   ·rcases hs with ⟨h0,rfl⟩ | ⟨h0,rfl⟩
    ·subst h0;have fQ:out=[]:=yB hlen;subst fQ
     simp only [go_sem,ya,yc,xR,yV,ym,yv,kz,hv.len,hv.aE,hw.len,hw.aE,t1,t2,t3,e1,e2,wrap64 (n:=x+y) (by omega) (by omega),ph,wrap64 (n:=(s0:Int)) (by omega) (by omega),eJ _ _ _ (show (1000000000:Int)≠0 by decide),dX _ _ _ (show (1000000000:Int)≠0 by decide),hr,hq,wrap64 (n:=((s0/1000000000:Nat):Int)) (by omega) (by omega),jH];refine ⟨_,rfl,?_⟩;rw [wrap64 (by omega) (by omega)];simp only [go_sem,ya,yc,aM,a6 hv.pu,bc _ hv.pu,a6 hw.pu,bc _ hw.pu]<;>rfl
    ·simp only [go_sem,ya,yc,ym,yv,kz,hv.len,hv.aE,hw.len,hw.aE,t1,t2,t3,e1,e2,wrap64 (n:=x+y) (by omega) (by omega),ph,wrap64 (n:=(s0:Int)) (by omega) (by omega),eJ _ _ _ (show (1000000000:Int)≠0 by decide),hr]
     rw [jn (ex:=false) (pu:=true) (cs:=out.map ab) (by simp only [go_sem,ya]) (by rw [yL,hlen,yv]) (by omega) (by omega) (by decide) (by simp only [go_sem])]
     simp only [go_sem,ya,yc,dX _ _ _ (show (1000000000:Int)≠0 by decide),hq,wrap64 (n:=((s0/1000000000:Nat):Int)) (by omega) (by omega)];refine ⟨_,rfl,?_⟩;rw [wrap64 (by omega) (by omega),xm];simp only [go_sem,ya,yc,aM,a6 hv.pu,bc _ hv.pu,a6 hw.pu,bc _ hw.pu]<;>rfl
  obtain ⟨s',f1,f2⟩:=fin;exact ⟨s',_,f1,aiz,i+1,s0/1000000000,_,rfl,Jw,sf,lG,zj,by omega,ajW,.inr ⟨by omega,f2⟩⟩
 ·right
  have kS:c=0:=by omega
  subst kS;rw [wz,xH,yF (by omega),yF (by omega)] at bi;rcases hs with ⟨h0,rfl⟩ | ⟨h0,rfl⟩
  ·simp only [go_sem,ya,kz,hv.len,hw.len,show ¬(i:Int)<a.length by omega,show ¬(i:Int)<b.length by omega,show ¬(0:Int)<((0:Nat):Int) by omega];exact ⟨_,_,rfl,by simp,_,out,rfl,jF,bi,by omega,.inl ⟨yB (by omega),by simp only [go_sem,ya],rfl⟩⟩
  ·simp only [go_sem,ya,kz,hv.len,hw.len,show ¬(i:Int)<a.length by omega,show ¬(i:Int)<b.length by omega,show ¬(0:Int)<((0:Nat):Int) by omega];exact ⟨_,_,rfl,by simp,_,out,rfl,jF,bi,by omega,.inr ⟨by omega,by rw [hlen];simp only [go_sem,ya],rfl⟩⟩
def ajX (h:Has P L 295 Cb) (jy:Has P L 302 mD) {v w:AV} {a b:List Int} (hv:aX v a) (hw:aX w b) (ha:dg a) (hb:dg b) (la:a.length<=20000000000) (lb:b.length<=20000000000):
  ∃r out,aj P L 295 [v,w] r/\aX (shut r) out/\dg out/\dv out=dv a+dv b/\out.length<=max a.length b.length+1:=by
 have rJ:∃out,aj P L 295 [v,w] (if out=[] then .aa else .bX false 1 out.length (out.map ab))/\dg out/\dv out=dv a+dv b/\out.length<=max a.length b.length+1:=by
  unfold aj;rw [aR h];simp only [go_sem,Cb];generalize hq:D P L (.loop [0,1,5,6,7] kz) _=q;obtain ⟨ex,s,rfl,tm,out,rfl,hd,bi,hl,hs⟩:=cW hq (agW (P:=P) (L:=L) jy hv hw ha hb (N:=max a.length b.length) (by omega) (by omega) (by omega) (2*(max a.length b.length))) ⟨0,0,[],by omega,rfl,by omega,rfl,by simp [dv],by omega,.inr rfl,.inl ⟨rfl,by simp only [go_sem,ya,aM,a6 hv.pu,bc _ hv.pu,a6 hw.pu,bc _ hw.pu]<;>rfl⟩⟩
  refine ⟨out,?_,hd,bi,hl⟩;rcases hs with ⟨h0,h5,rfl⟩ | ⟨h0,h5,rfl⟩
  ·rw [yS h0];simp only [go_sem,aM,h5]
  ·rw [yE (by intro e;subst e;simp at h0)];simp only [go_sem,yc,aM,h5];exact Ys (Ib _ _ _) (by simp) (by decide)
 obtain ⟨out,g1,g2,g3,g4⟩:=rJ;refine ⟨_,out,g1,?_,g2,g3,g4⟩
 split
 ·rename_i e;subst e;exact ni
 ·exact gC false out
end
end
section
open Go (IntKind)
section
variable {P:aF} {L:Lib}
def J6 (h:Has P L 296 mC) {v w:AV} {a b:List Int} (hv:aX v a) (hw:aX w b) (ha:dg a) (hb:dg b) (na:nz a) (nb:nz b) (la:a.length<=20000000000) (lb:b.length<=20000000000):
  aj P L 296 [v,w] (ab (gl (dv a) (dv b))):=by
 unfold aj;rw [aR h];by_cases hlen:a.length=b.length
 ·have key:=dt (P:=P) (L:=L) (live:=[0,1,5]) (a:=qI)
   (I:=fun k st=>∃j:Nat,st=⟨[(0,v),(1,w),(5,ab ((j:Int)-1))],[],0,0⟩/\j<=a.length/\j=k/\a.drop j=b.drop j)
   (Q:=fun ex st=>∃tm ct,st=⟨tm,[],ct,0⟩/\((ex= .ret/\ah tm 4=ab (gl (dv a) (dv b)))\/(ex= .exit 0/\a=b))) ?_
  ·simp only [go_sem,ya,mC,hv.len,hw.len,show (a.length:Int)=b.length by omega];generalize hq:D P L (.loop [0,1,5] qI) _=q;obtain ⟨ex,st,rfl,tm,ct,rfl,h2⟩:=cW hq (key a.length) ⟨a.length,by
    rw [wrap64 (by omega) (by omega)];rw [hlen]
    simp only [go_sem,ya,aM,a6 hv.pu,bc _ hv.pu,a6 hw.pu,bc _ hw.pu]<;>rfl,yC _,rfl,by rw [xr (yC _),xr (by omega)]⟩
   rcases h2 with ⟨rfl,h2⟩ | ⟨rfl,h2⟩
   ·simp only [go_sem,h2]
   ·simp only [go_sem,aM];subst h2;simp [gl]
  ·rintro k st ⟨j,rfl,hj,rfl,he⟩
   cases j with
   | zero=>
    right
    simp only [go_sem,ya,qI,show ¬(0:Int)<=((0:Nat):Int)-1 by omega];exact ⟨_,_,rfl,by simp,_,_,rfl,.inr ⟨rfl,by simpa using he⟩⟩
   | succ i=>
    have h1:i<a.length:=by omega
    have h2:i<b.length:=by omega
    have Vk:=Pz ha hb h1 h2 he;have aV:=Pz hb ha h2 h1 he.symm;by_cases c1:a[i]<b[i]
    ·right
     simp only [go_sem,ya,qI,show ((i+1:Nat):Int)-1=(i:Int) by omega,show (0:Int)<=(i:Int) by omega,hv.bt h1,hw.bt h2,c1];refine ⟨_,_,rfl,by simp,_,_,rfl,.inl ⟨rfl,?_⟩⟩;simp only [go_sem];unfold gl;rw [yS (Vk c1)]
    ·by_cases c2:b[i]<a[i]
     ·right
      simp only [go_sem,ya,qI,show ((i+1:Nat):Int)-1=(i:Int) by omega,show (0:Int)<=(i:Int) by omega,hv.bt h1,hw.bt h2,c1,c2];refine ⟨_,_,rfl,by simp,_,_,rfl,.inl ⟨rfl,?_⟩⟩;simp only [go_sem];unfold gl;rw [yE (by omega),yS (by omega)]
     ·left
      simp only [go_sem,ya,qI,show ((i+1:Nat):Int)-1=(i:Int) by omega,show (0:Int)<=(i:Int) by omega,hv.bt h1,hw.bt h2,c1,c2];refine ⟨_,i,rfl,by omega,i,?_,by omega,rfl,?_⟩
      ·rw [wrap64 (by omega) (by omega)];simp only [go_sem,ya,aM,a6 hv.pu,bc _ hv.pu,a6 hw.pu,bc _ hw.pu]<;>rfl
      ·rw [yT h1,yT h2,he,show a[i]=b[i] by omega]
 ·by_cases c1:a.length<b.length
  ·have:=I4 ha nb hb c1
   simp only [go_sem,ya,mC,hv.len,hw.len,show ¬(a.length:Int)=b.length by omega,show (a.length:Int)<b.length by omega];unfold gl;rw [yS this]
  ·have:=I4 hb na ha (show b.length<a.length by omega)
   simp only [go_sem,ya,mC,hv.len,hw.len,show ¬(a.length:Int)=b.length by omega,show ¬(a.length:Int)<b.length by omega];unfold gl;rw [yE (by omega),yS this]
def acb {a b out:List Int} {i c:Nat} {x y z:Int} {c':Nat} (hx:x=a.getD i 0) (hy:y=b.getD i 0) (h1:0<=x) (h2:0<=y) (h3:0<=z) (hz:z=x-y-c+1000000000*c') (hl:out.length=i) (hv:dv out+dv (b.take i)=dv (a.take i)+1000000000^i*c):
  dv (out++[z])+dv (b.take (i+1))=dv (a.take (i+1))+1000000000^(i+1)*c':=by
 rw [kw,kw,iT,hl,<-hx,<-hy];simp only [dv,wz,xH,xq];have e:z.toNat+y.toNat+c=x.toNat+1000000000*c':=by omega
 grind
end
end
section
open Go (IntKind)
section
variable {P:aF} {L:Lib}
def agX (jy:Has P L 302 mD) {v w:AV} {a b:List Int} (hv:aX v a) (hw:aX w b) (ha:dg a) (hb:dg b) (la:a.length<=20000000000) (hle:dv b<=dv a) (GA:b.length<=a.length):
  ∀k s,(∃(i c:Nat) (out:List Int),i+k=a.length/\out.length=i/\c<=1/\dg out/\dv out+dv (b.take i)=dv (a.take i)+1000000000^i*c/\
    ((i=0/\bA [0,1,5,6,7] s=⟨[(0,v),(1,w),(5,.aa),(6,ab c),(7,ab i)],[],0,0⟩)\/
    (0<i/\bA [0,1,5,6,7] s=⟨[(0,v),(1,w),(5,.au 0 0 i),(6,ab c),(7,ab i)],[(0,.cells true true false 1 (out.map ab))],1,0⟩)))->
   ∃ex s',D P L (.loop [0,1,5,6,7] mo) s=some (ex,s')/\∃tm out,ex= .exit 0/\dg out/\dv out+dv b=dv a/\out.length<=20000000000/\((out=[]/\ah tm 5= .aa/\s'=⟨tm,[],0,0⟩)\/(0<out.length/\ah tm 5= .au 0 0 out.length/\s'=⟨tm,[(0,.cells true true false 1 (out.map ab))],1,0⟩)):=by
 refine dt (I:=fun k s=>∃(i c:Nat) (out:List Int),i+k=a.length/\out.length=i/\c<=1/\dg out/\dv out+dv (b.take i)=dv (a.take i)+1000000000^i*c/\
    ((i=0/\s=⟨[(0,v),(1,w),(5,.aa),(6,ab c),(7,ab i)],[],0,0⟩)\/
    (0<i/\s=⟨[(0,v),(1,w),(5,.au 0 0 i),(6,ab c),(7,ab i)],[(0,.cells true true false 1 (out.map ab))],1,0⟩)))
  (Q:=fun ex s'=>∃tm out,ex= .exit 0/\dg out/\dv out+dv b=dv a/\out.length<=20000000000/\((out=[]/\ah tm 5= .aa/\s'=⟨tm,[],0,0⟩)\/(0<out.length/\ah tm 5= .au 0 0 out.length/\s'=⟨tm,[(0,.cells true true false 1 (out.map ab))],1,0⟩))) ?_
 rintro k s ⟨i,c,out,hk,hlen,hc,jF,bi,hs⟩;have e2:=J0 jy hw i;unfold aj at e2;have ga:=fe ha i;have gb:=fe hb i;by_cases mX:i<a.length
 ·left
  obtain ⟨x,hx⟩:∃x,x=a.getD i 0:=⟨_,rfl⟩;obtain ⟨y,hy⟩:∃y,y=b.getD i 0:=⟨_,rfl⟩;have C1:a[i]=x:=by rw [hx];simp [List.getD_eq_getElem?_getD,List.getElem?_eq_getElem mX]
  have e1:=hv.bt mX;rw [C1] at e1;rw [<-hx] at ga;rw [<-hy] at e2 gb;obtain ⟨z,c',hz,sf,Wf,jA,rh⟩:∃(z:Int) (c':Nat),z=x-y-c+1000000000*c'/\c'<=1/\0<=z/\z<1000000000/\((x-y-c<0/\c'=1)\/(¬x-y-c<0/\c'=0)):=by
   by_cases h:x-y-c<0
   ·exact ⟨x-y-c+1000000000,1,by omega,by omega,by omega,by omega,.inl ⟨h,rfl⟩⟩
   ·exact ⟨x-y-c,0,by omega,by omega,by omega,by omega,.inr ⟨h,rfl⟩⟩
  have zj:=acb hx hy ga.1 gb.1 Wf hz hlen bi;have lG:dg (out++[z]):=eU.2 ⟨jF,ig.2 ⟨Wf,jA⟩⟩;have Jw:(out++[z]).length=i+1:=by simp [hlen]
  have fin:∃s',D P L mo s=some (.normal,s')/\bA [0,1,5,6,7] s'=⟨[(0,v),(1,w),(5,.au 0 0 (i+1)),(6,ab c'),(7,ab (i+1:Nat))],[(0,.cells true true false 1 ((out++[z]).map ab))],1,0⟩:=by
   rcases rh with ⟨dU,rfl⟩ | ⟨dU,rfl⟩
   ·have ew:x-y-c+1000000000=z:=by omega
    rcases hs with ⟨h0,rfl⟩ | ⟨h0,rfl⟩
    ·subst h0;have fQ:out=[]:=yB hlen;subst fQ
     simp only [go_sem,ya,yc,xR,yV,ym,yv,mo,hv.len,hw.aE,show ((0:Nat):Int)<a.length by omega,e1,e2,wrap64 (n:=x-y) (by omega) (by omega),wrap64 (n:=x-y-(c:Int)) (by omega) (by omega),dU,ew,wrap64 (n:=z) (by omega) (by omega),jH];refine ⟨_,rfl,?_⟩;rw [wrap64 (by omega) (by omega)];simp only [go_sem,ya,yc,aM,a6 hv.pu,bc _ hv.pu,a6 hw.pu,bc _ hw.pu]<;>rfl
    ·simp only [go_sem,ya,yc,ym,yv,mo,hv.len,hw.aE,show (i:Int)<a.length by omega,e1,e2,wrap64 (n:=x-y) (by omega) (by omega),wrap64 (n:=x-y-(c:Int)) (by omega) (by omega),dU,ew,wrap64 (n:=z) (by omega) (by omega)]
     rw [jn (ex:=false) (pu:=true) (cs:=out.map ab) (by simp only [go_sem,ya]) (by rw [yL,hlen,yv]) (by omega) (by omega) (by decide) (by simp only [go_sem])];simp only [go_sem,ya,yc];refine ⟨_,rfl,?_⟩;rw [wrap64 (by omega) (by omega),xm];simp only [go_sem,ya,yc,aM,a6 hv.pu,bc _ hv.pu,a6 hw.pu,bc _ hw.pu]<;>rfl
   ·have ew:x-y-c=z:=by omega
    have dU:¬z<0:=by omega
    rcases hs with ⟨h0,rfl⟩ | ⟨h0,rfl⟩
    ·subst h0;have fQ:out=[]:=yB hlen;subst fQ
     simp only [go_sem,ya,yc,xR,yV,ym,yv,mo,hv.len,hw.aE,show ((0:Nat):Int)<a.length by omega,e1,e2,wrap64 (n:=x-y) (by omega) (by omega),ew,wrap64 (n:=z) (by omega) (by omega),dU,jH];refine ⟨_,rfl,?_⟩;rw [wrap64 (by omega) (by omega)];simp only [go_sem,ya,yc,aM,a6 hv.pu,bc _ hv.pu,a6 hw.pu,bc _ hw.pu]<;>rfl
    ·simp only [go_sem,ya,yc,ym,yv,mo,hv.len,hw.aE,show (i:Int)<a.length by omega,e1,e2,wrap64 (n:=x-y) (by omega) (by omega),ew,wrap64 (n:=z) (by omega) (by omega),dU]
     rw [jn (ex:=false) (pu:=true) (cs:=out.map ab) (by simp only [go_sem,ya]) (by rw [yL,hlen,yv]) (by omega) (by omega) (by decide) (by simp only [go_sem])];simp only [go_sem,ya,yc];refine ⟨_,rfl,?_⟩;rw [wrap64 (by omega) (by omega),xm];simp only [go_sem,ya,yc,aM,a6 hv.pu,bc _ hv.pu,a6 hw.pu,bc _ hw.pu]<;>rfl
  obtain ⟨s',f1,f2⟩:=fin;exact ⟨s',k-1,f1,by omega,i+1,c',_,by omega,Jw,sf,lG,zj,.inr ⟨by omega,f2⟩⟩
 ·right
  have S4:dv out+dv b=dv a:=by
   rw [yF (by omega),yF (by omega)] at bi;have aV:=gG jF;rw [hlen] at aV;rcases (show c=0\/c=1 by omega) with rfl | rfl
   ·omega
   ·omega
  rcases hs with ⟨h0,rfl⟩ | ⟨h0,rfl⟩
  ·simp only [go_sem,ya,mo,hv.len,show ¬(i:Int)<a.length by omega];exact ⟨_,_,rfl,by simp,_,out,rfl,jF,S4,by omega,.inl ⟨yB (by omega),by simp only [go_sem,ya],rfl⟩⟩
  ·simp only [go_sem,ya,mo,hv.len,show ¬(i:Int)<a.length by omega];exact ⟨_,_,rfl,by simp,_,out,rfl,jF,S4,by omega,.inr ⟨by omega,by rw [hlen];simp only [go_sem,ya],rfl⟩⟩
def UD (h:Has P L 297 Cc) (jy:Has P L 302 mD) (bZ:Has P L 300 iL) {v w:AV} {a b:List Int} (hv:aX v a) (hw:aX w b) (ha:dg a) (hb:dg b) (na:nz a) (nb:nz b) (la:a.length<=20000000000) (hle:dv b<=dv a):
  ∃r out,aj P L 297 [v,w] r/\aX r out/\shut r=r/\dg out/\nz out/\dv out+dv b=dv a:=by
 have GA:b.length<=a.length:=by
  by_cases h:a.length<b.length
  ·have:=I4 ha nb hb h;omega
  ·omega
 unfold aj;rw [aR h];simp only [go_sem,Cc];generalize hq:D P L (.loop [0,1,5,6,7] mo) _=q;obtain ⟨ex,s,rfl,tm,out,rfl,hd,bi,hl,hs⟩:=cW hq (agX (P:=P) (L:=L) jy hv hw ha hb la hle GA a.length) ⟨0,0,[],by omega,rfl,by omega,rfl,by simp [dv],.inl ⟨rfl,by simp only [go_sem,ya,aM,a6 hv.pu,bc _ hv.pu,a6 hw.pu,bc _ hw.pu]<;>rfl⟩⟩
 have jg:=gC false out;rcases hs with ⟨h0,h5,rfl⟩ | ⟨h0,h5,rfl⟩
 ·subst h0;obtain ⟨r,e1,hr,gQ⟩:=pf bZ (v:= .aa) (l:=[]) ni (by simp);refine ⟨r,cX [],?_,hr,gQ,rfl,rfl,by rw [nj];exact bi⟩
  simp only [go_sem,aM,h5,e1,gQ,hr.dI]
 ·obtain ⟨r,e1,hr,gQ⟩:=pf bZ jg hl;refine ⟨r,cX out,?_,hr,gQ,oE hd,sR out,by rw [nj];exact bi⟩
  have ia:∀hp:Hp,jT 0 out.length (some (false,1,out.map ab,hp))=some (.aB false out.length (out.map ab),hp):=fun hp=>jl false (by simp) (by decide)
  simp only [go_sem,yc,aM,h5,ia,e1,gQ,hr.dI]
end
end
end VE
