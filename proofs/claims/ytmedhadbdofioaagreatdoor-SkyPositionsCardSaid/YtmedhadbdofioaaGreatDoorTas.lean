import Derived.Test.YtmedhadbdofioaaGreatDoorTap
import Derived.Test.YtmedhadbdofioaaGreatDoorTak
import Derived.Test.YtmedhadbdofioaaGreatDoorTar
set_option linter.all false
set_option maxRecDepth 100000
open Bool renaming and_eq_true→yg,false_eq_true→yD
open List renaming append_assoc→xp,append_nil→wc,cons_append→y7,filter_append→tN,filter_cons→yac,filter_eq_nil_iff→vT,length_cons→yr,length_map→xu,length_nil→yE,length_range→tZ,length_reverse→tE,length_take→yT,map_append→xC,mem_append→wv,mem_singleton→wS,nil_append→wa,range→xi,range'→xB,range'_succ→vz,range_succ→td,replicate→yz,replicate_succ→xW,reverse_cons→tY,take_of_length_le→yM
open Nat renaming add_mul→wj,add_sub_cancel→uN,add_zero→yX,beq→yu,blt→yK,div_add_mod→wq,div_eq_of_lt→wH,div_lt_iff_lt_mul→wz,eq_zero_or_pos→xo,le_refl→yC,lt_of_lt_of_le→yN,min_eq_left→wu,mod_eq_of_lt→yP,mod_lt→xy,mul_add→xt,mul_assoc→xk,mul_comm→xE,mul_le_mul_right→yW,mul_one→yh,mul_zero→xF,one_mul→tz,pow_succ→xg,pow_zero→ybd,reduceAdd→yb,reduceEqDiff→ya,reduceLT→yt,reduceMul→xQ,two_pow_pos→wG,zero_add→yd
namespace VE
section
open Go (IntKind)
mutual
def below (n:Nat):AV->Prop
 | .ptr id _=>id<n
 | .an id _ _=>id<n
 | .map id=>id<n
 | .it id=>id<n
 | .fn (.f _) first cap=>kj n first/\kj n cap
 | .fn (.y l) first cap=>l<n/\first=[]/\cap=[]
 | .agg cs=>kj n cs
 | .ap cs=>kj n cs
 | _=>True
def kj (n:Nat):List AV->Prop
 | []=>True
 | v::r=>below n v/\kj n r
end
def jG (n:Nat):Env->Prop
 | []=>True
 | (_,v)::r=>below n v/\jG n r
def mV (n:Nat):Obj->Prop
 | .cells _ pu _ _ cs=>pu=true\/kj n cs
 | .mp _ ks vs=>kj n ks/\kj n vs
 | .si _ _=>True
 | .lp tm _ _ _ _ _=>jG n tm
def jH (b n:Nat):Hp->Prop
 | []=>True
 | (id,o)::r=>id<b/\mV n o/\jH b n r
mutual
def ZK {f:Nat->Option Nat} {n:Nat} (hf:∀x,x<n->f x=some x):∀{v:AV},below n v->cr f v=v
 | .int _ _,_ | .bool _,_ | .dE _ _,_ | .str _,_ | .kB,_ | .aI _,_ | .ab,_ | .aE _ _ _,_ | .iA,_ | .jP,_ | .jy _ _,_ | .undef,_ | .cJ _ _ _ _,_=>rfl
 | .ptr id o,h=>by simp only [cr,hf id h]
 | .an id o k,h=>by simp only [cr,hf id h]
 | .map id,h=>by simp only [cr,hf id h]
 | .it id,h=>by simp only [cr,hf id h]
 | .fn (.y l) first cap,h=>by
  obtain ⟨h1,rfl,rfl⟩:=h;simp only [cr,hf l h1,fV]
 | .fn (.f _) first cap,h=>by
  simp only [cr,AM hf h.1,AM hf h.2]
 | .agg cs,h=>by simp only [below] at h;simp only [cr,AM hf h]
 | .ap cs,h=>by simp only [below] at h;simp only [cr,AM hf h]
def AM {f:Nat->Option Nat} {n:Nat} (hf:∀x,x<n->f x=some x):∀{vs:List AV},kj n vs->fV f vs=vs
 | [],_=>rfl
 | v::r,h=>by simp only [fV,ZK hf h.1,AM hf h.2]
end
def QX {f:Nat->Option Nat} {n:Nat} (hf:∀x,x<n->f x=some x):∀{tm:Env},jG n tm->kV f tm=tm
 | [],_=>rfl
 | (_,v)::r,h=>by simp only [kV,ZK hf h.1,QX hf h.2]
def ajS {f:Nat->Option Nat} {n:Nat} (hf:∀x,x<n->f x=some x):∀{o:Obj},mV n o->lP f o=o
 | .cells _ pu _ _ cs,h=>by
  cases pu with
  | true=>rfl
  | false=>simp only [mV,yD,yaT] at h;simp only [lP,yA,AM hf h]
 | .mp _ ks vs,h=>by simp only [lP,AM hf h.1,AM hf h.2]
 | .si _ _,_=>rfl
 | .lp tm _ _ _ _ _,h=>by simp only [mV] at h;simp only [lP,QX hf h]
mutual
def YX {n:Nat}:∀{v:AV},below n v->∀x,x∈refs v->x<n
 | .int _ _,_,x,h | .bool _,_,x,h | .dE _ _,_,x,h | .str _,_,x,h | .kB,_,x,h | .aI _,_,x,h | .ab,_,x,h | .aE _ _ _,_,x,h | .iA,_,x,h | .jP,_,x,h | .jy _ _,_,x,h | .undef,_,x,h | .cJ _ _ _ _,_,x,h=>by simp [refs] at h
 | .ptr id o,h,x,hx=>by simp only [refs,wS] at hx;subst hx;exact h
 | .an id o k,h,x,hx=>by simp only [refs,wS] at hx;subst hx;exact h
 | .map id,h,x,hx=>by simp only [refs,wS] at hx;subst hx;exact h
 | .it id,h,x,hx=>by simp only [refs,wS] at hx;subst hx;exact h
 | .fn (.y l) first cap,h,x,hx=>by simp only [refs,wS] at hx;subst hx;exact h.1
 | .fn (.f _) first cap,h,x,hx=>by
  simp only [refs,wv] at hx;exact hx.elim (AI h.1 x) (AI h.2 x)
 | .agg cs,h,x,hx=>by simp only [below] at h;simp only [refs] at hx;exact AI h x hx
 | .ap cs,h,x,hx=>by simp only [below] at h;simp only [refs] at hx;exact AI h x hx
def AI {n:Nat}:∀{vs:List AV},kj n vs->∀x,x∈eQ vs->x<n
 | [],_,x,h=>by simp [eQ] at h
 | v::r,h,x,hx=>by
  simp only [eQ,wv] at hx;exact hx.elim (YX h.1 x) (AI h.2 x)
end
def LH {n:Nat}:∀{tm:Env},jG n tm->∀x,x∈fy tm->x<n
 | [],_,x,h=>by simp [fy] at h
 | (_,v)::r,h,x,hx=>by
  simp only [fy,wv] at hx;exact hx.elim (YX h.1 x) (LH h.2 x)
def QI {n:Nat}:∀{o:Obj},mV n o->∀x,x∈fA o->x<n
 | .cells _ pu _ _ cs,h,x,hx=>by
  cases pu with
  | true=>simp [fA] at hx
  | false=>simp only [mV,yD,yaT] at h;exact AI h x hx
 | .mp _ ks vs,h,x,hx=>by
  simp only [fA,wv] at hx;exact hx.elim (AI h.1 x) (AI h.2 x)
 | .si _ _,_,x,hx=>by simp [fA] at hx
 | .lp tm _ _ _ _ _,h,x,hx=>by simp only [mV] at h;exact LH h x hx
def bG (B:Nat):List (List AV)->Hp
 | []=>[]
 | cs::r=>(B+r.length,.cells true true true 1 cs)::bG B r
def CV (B:Nat):List (List AV)->Hp->Hp
 | [],acc=>acc
 | cs::r,acc=>CV (B+1) r ((B,.cells true true true 1 cs)::acc)
def YY:∀(l:List (List AV)) (B:Nat) (x:List AV) (acc:Hp),CV B (l++[x]) acc=(B+l.length,.cells true true true 1 x)::CV B l acc
 | [],B,x,acc=>rfl
 | c::l,B,x,acc=>by
  simp only [y7,CV,YY l,yr]
  grind
def ZL (B:Nat) (acc:Hp):∀rs:List (List AV),CV B rs.reverse acc=bG B rs++acc
 | []=>rfl
 | c::r=>by
  simp only [tY,YY,ZL B acc r,tE,bG,y7]
def Rw {B:Nat} {old:Hp}:∀{rs:List (List AV)} {i:Nat} (h:i<rs.length),ak (bG B rs++old) (B+i)=some (.cells true true true 1 (rs.reverse[i]'(by simpa using h)))
 | c::r,i,h=>by
  simp only [bG,y7,tY];by_cases hi:i=r.length
  ·subst hi;rw [ak,Nat.beq_refl,ym]
   simp
  ·have bi:i<r.length:=by grind
   rw [ak,cG (by omega),yA,Rw bi]
   grind
def qY {B:Nat} {old:Hp}:∀{rs:List (List AV)} {x:Nat},x<B->ak (bG B rs++old) x=ak old x
 | [],x,_=>rfl
 | c::r,x,h=>by
  simp only [bG,y7];rw [ak,cG (by omega),yA,qY h]
def Qx {B:Nat} {old:Hp} {o:Obj}:∀{rs:List (List AV)} {x:Nat},x<B->aW (bG B rs++old) x o=bG B rs++aW old x o
 | [],x,_=>rfl
 | c::r,x,h=>by
  simp only [bG,y7];rw [aW,cG (by omega),yA,Qx h]
def XQ {B:Nat} {old:Hp}:∀{rs:List (List AV)} {x:Nat},x<B->dA (bG B rs++old) x=bG B rs++dA old x
 | [],x,_=>rfl
 | c::r,x,h=>by
  simp only [bG,y7];rw [dA,cG (by omega),yA,XQ h]
def iw {a b:Nat} (h:a<b):yK a b=true:=by simp_all
def EQ {a b:Nat} (h:b<=a):yK a b=false:=by
 cases hq:yK a b with
 | false=>rfl
 | true=>have:=Nat.le_of_ble_eq_true hq;omega
def QA {B:Nat} {old:Hp}:∀rs:List (List AV),dz B (bG B rs++old)=dz B old
 | []=>rfl
 | c::r=>by
  simp only [bG,y7];rw [dz,EQ (by omega),yA,QA r]
def YZ {B:Nat} {old:Hp} {f:Nat->Option Nat}:∀rs:List (List AV),mw B f (bG B rs++old)=mw B f old
 | []=>rfl
 | c::r=>by
  simp only [bG,y7];rw [mw,EQ (by omega),yA,YZ r]
def Ym {B n:Nat} {f:Nat->Option Nat} (hf:∀x,x<n->f x=some x):∀{old:Hp},jH B n old->mw B f old=old
 | [],_=>rfl
 | (id,o)::r,h=>by
  rw [mw,iw h.1,ym,ajS hf h.2.1,Ym hf h.2.2]
def ajT {B s x:Nat} (h:B+s<=x):lQ x (xB B s)=false:=by
 induction s generalizing B with
 | zero=>rfl
 | succ s ih=>rw [vz,lQ,cG (by omega),yA,ih (by omega)]
def QY {hp:Hp} {B R:Nat} (Fx:∀i,i<R->∃rw ex sz cs,ak hp (B+i)=some (.cells rw true ex sz cs)):
  ∀(W:List Nat) (bB s:Nat),W.length<bB->s<=R->W.filter (fun x=> !yK x B)=xB (B+s) (R-s)->reach hp B bB W (xB B s)=xB B R
 | [],0,s,hf,_,_=>by simp at hf
 | [],bB+1,s,hf,hs,h=>by
  have:R-s=0:=by
   grind
  rw [reach,show R=s by omega]
 | id::W,0,s,hf,_,_=>by simp at hf
 | id::W,bB+1,s,hf,hs,h=>by
  have n7:W.length<bB:=by simp_all
  rw [reach];by_cases hid:id<B
  ·rw [iw hid,Bool.true_or,ym];rw [yac,iw hid] at h;exact QY Fx W bB s n7 hs (by simpa using h)
  ·rw [yac,EQ (by omega)] at h;have hRs:R-s=(R-s-1)+1:=by
    have:=congrArg List.length h
    grind
   rw [hRs,vz] at h;injection h with h1 h2
   subst h1;rw [EQ (by omega),Bool.false_or,ajT (yC _),yA];obtain ⟨rw,ex,sz,cs,ho⟩:=Fx s (by omega);simp only [ho,fA,ym,wa];have e:xB B s++[B+s]=xB B (s+1):=by rw [List.range'_concat];simp
   rw [e];exact QY Fx W bB (s+1) n7 (by omega) (by rw [h2,show R-s-1=R-(s+1) by omega,show B+s+1=B+(s+1) by omega])
def ajU {B s i k:Nat} (h:i<s):mD (B+i) (xB B s) k=some (k+i):=by
 induction s generalizing B i k with
 | zero=>omega
 | succ s ih=>
  rw [vz,mD];by_cases hi:i=0
  ·simp_all
  ·rw [cG (by omega),yA]
   have:=ih (B:=B+1) (i:=i-1) (k:=k+1) (by omega)
   grind
def ai5 {B R x:Nat} (h:x<B+R):kP B (xB B R) x=some x:=by
 unfold kP;by_cases hx:x<B
 ·rw [iw hx,ym]
 ·rw [EQ (by omega),yA]
  have:=ajU (B:=B) (s:=R) (i:=x-B) (k:=B) (by omega)
  grind
def Y0 {hp:Hp} {f:Nat->Option Nat}:∀(ro:List (List AV)) (B:Nat) (acc:Hp),(∀i (h:i<ro.length),ak hp (B+i)=some (.cells true true true 1 ro[i]))->kQ hp f (xB B ro.length) B acc=CV B ro acc
 | [],B,acc,_=>rfl
 | c::r,B,acc,h=>by
  have h0:=h 0 (by simp);simp only [yX,List.getElem_cons_zero] at h0;rw [yr,vz,kQ];simp only [h0,lP,ym,CV]
  exact Y0 r (B+1) _ (fun i hi=>by
   have:=h (i+1) (by simpa using hi)
   rw [show B+1+i=B+(i+1) by omega,this]
   simp)
def XY {live:List Nat} {tm:Env} {B ct:Nat} {old:Hp} {rs:List (List AV)} (ht:jG B (df tm live)) (ho:jH B (B+rs.length) old) (hl:(fy (df tm live)).length+(dz B old).length<100000)
  (hr:(dz B old).filter (fun x=> !yK x B)=xB B rs.length):bD live ⟨tm,bG B rs++old,ct,B⟩=⟨df tm live,bG B rs++old,B+rs.length,B⟩:=by
 have Fx:∀i (h:i<rs.length),ak (bG B rs++old) (B+i)=some (.cells true true true 1 (rs.reverse[i]'(by simpa using h))):=fun i h=>Rw h
 have adV:reach (bG B rs++old) B 100000 (fy (df tm live)++dz B (bG B rs++old)) []=xB B rs.length:=by
  have:=QY (hp:=bG B rs++old) (B:=B) (R:=rs.length) (fun i hi=>⟨_,_,_,_,Fx i hi⟩) (fy (df tm live)++dz B (bG B rs++old)) 100000 0 (by rw [QA,List.length_append];exact hl) (Nat.zero_le _) (by
   rw [tN,QA,hr,vT.2 (fun x hx=>by
    have:=LH ht x hx
    simp [iw this])]
   simp)
  grind
 have hid:∀x,x<B+rs.length->kP B (xB B rs.length) x=some x:=fun x hx=>ai5 hx
 have hn:=Y0 (hp:=bG B rs++old) (f:=kP B (xB B rs.length)) rs.reverse B old (fun i hi=>Fx i (by simpa using hi));rw [tE] at hn;simp only [bD,adV,YZ,Ym hid ho,hn,ZL,List.length_range']
 rw [QX (n:=B) (fun x hx=>hid x (by omega)) ht]
def Y1 {B b n:Nat} (hb:b<=B):∀{H:Hp},jH b n H->∀x,x∈dz B H->x<n
 | [],_,x,hx=>by simp [dz] at hx
 | (id,o)::r,h,x,hx=>by
  rw [dz,iw (by have:=h.1;omega),ym,wv] at hx;exact hx.elim (QI h.2.1 x) (Y1 hb h.2.2 x)
def LI {live:List Nat} {tm:Env} {B ct:Nat} {old:Hp} (ht:jG B (df tm live)) (ho:jH B B old) (hl:(fy (df tm live)).length+(dz B old).length<100000):
  bD live ⟨tm,old,ct,B⟩=⟨df tm live,old,B,B⟩:=by
 have:=XY (rs:=[]) (ct:=ct) ht (by simpa using ho) hl (by
  rw [vT.2 (fun x hx=>by have:=Y1 (yC B) ho x hx;simp [iw this])]
  rfl)
 simpa [bG] using this
def QZ {b n:Nat}:∀{a c:Hp},jH b n a->jH b n c->jH b n (a++c)
 | [],_,_,h=>h
 | (_,_)::_,_,h,k=>⟨h.1,h.2.1,QZ h.2.2 k⟩
def QJ {B:Nat}:∀{a c:Hp},dz B (a++c)=dz B a++dz B c
 | [],_=>rfl
 | (id,o)::a,c=>by
  simp only [y7,dz,QJ (a:=a)]
  cases yK id B with
  | true=>simp only [ym,xp]
  | false=>simp only [yA]
def Yn {B b n:Nat}:∀{rs:List (List AV)},B+rs.length<=b->jH b n (bG B rs)
 | [],_=>trivial
 | c::r,h=>by
  simp only [yr] at h;exact ⟨by omega,.inl rfl,Yn (by omega)⟩
def XR {B b:Nat}:∀{rs:List (List AV)},dz b (bG B rs)=[]
 | []=>rfl
 | c::r=>by
  simp only [bG,dz,fA,ym,wa,XR]
  grind
end
section
open Go (IntKind)
section
variable {P:aG} {L:Lib}
def Er {n:Nat} {F:aD} (h:Has P L n F) {hp:Hp} {ct:Nat} {vals:List AV} {ex:Ex} {s:St} {v:AV} (hD:D P L F.body ⟨fG 0 vals,hp,ct,ct⟩=some (ex,s)) (he:ex= .normal\/ex= .ret) (hr:gN s F.dT=some v):
  iH P L (D P L) hp ct n vals=some (v,s.hp,s.ct):=by
 simp only [iH,h.heap,h.code,hD]
 grind
def aaL {hp:Hp} {ct l:Nat} {xs:List AV} {tm tm' iQ jh:Env} {ps rW BL:List Nat} {a b a1 b1 a2 b2:VC} {pe px pe2:rG} {s1 s2:St}
  (h1:ak hp l=some (.lp tm ps a b 0 pe)) (h2:qj tm ps xs=some tm') (h3:D P L a ⟨tm',hp,ct,ct⟩=some (.normal,s1)) (h4:ak s1.hp l=some (.lp iQ rW a1 b1 0 px))
  (h5:D P L b ⟨s1.tm,aW s1.hp l (.lp iQ rW a1 b1 1 px),s1.ct,s1.ct⟩=some (.normal,s2)) (h6:ak s2.hp l=some (.lp jh BL a2 b2 1 pe2)):
  jt (D P L) hp ct l xs=some (.bool true,aW s2.hp l (.lp jh BL a2 b2 0 .none),s2.ct):=by
 simp only [jt,h1,h2,h3,h4,h5,h6]
def afa {f:X} {ps:List Nat} {as_ body:VC} {s:St} {n:Nat} {first cap:List AV} {v:AV} {hp:Hp} {ct:Nat} {tm:Env} {ps':List Nat} {a b:VC} {st:Nat}
  (h1:aA s.tm f= .fn (.f n) first cap) (h2:L.heap n=none) (h3:iH P L (D P L) ((s.ct,.lp s.tm ps as_ body 0 .none)::s.hp) (s.ct+1) n (first++(.fn (.y s.ct) [] []::cap))=some (v,hp,ct))
  (h4:ak hp s.ct=some (.lp tm ps' a b st .none)) (h5:st≠1):D P L (.rf f ps as_ body) s=some (.normal,⟨s.tm,dA hp s.ct,ct,s.base⟩):=by
 rw [lh];simp only [bI,h1,h2,h3,h4,cG h5,yA]
def fX (B n R:Nat):List AV:=(xi R).map (fun i=> .an (B+i) 0 n)++yz (n-R) .ab
def lk (zero:AV) (val:Nat->Nat->AV) (n r c:Nat):List AV:=(xi c).map (fun c=>val c r)++yz (n-c) zero
def fg (val:Nat->Nat->AV) (n:Nat):Nat->List (List AV)
 | 0=>[]
 | r+1=>((xi n).map fun c=>val c r)::fg val n r
def AQ (val:Nat->Nat->AV) (n:Nat):∀r,(fg val n r).length=r
 | 0=>rfl
 | r+1=>by rw [fg,yr,AQ val n r]
def anP {B n R:Nat} (h:R<=n):(fX B n R).length=n:=by simp [fX];omega
def anQ {zero:AV} {val:Nat->Nat->AV} {n r c:Nat} (h:c<=n):(lk zero val n r c).length=n:=by simp [lk];omega
def aaM {l:List AV} {k:Nat} {v z:AV}:over l.length [v] (l++yz (k+1) z)=l++[v]++yz k z:=by
 simp only [over,List.take_left',yr,yE,yd,xW]
 simp_all
def alx {B n R:Nat} (h:R<n):over R [.an (B+R) 0 n] (fX B n R)=fX B n (R+1):=by
 have:=aaM (l:=(xi R).map (fun i=>AV.an (B+i) 0 n)) (k:=n-R-1) (v:= .an (B+R) 0 n) (z:= .ab)
 simp only [xu,tZ] at this;rw [show n-R-1+1=n-R by omega] at this;rw [fX,this,fX,td,xC];rfl
def ZM {zero:AV} {val:Nat->Nat->AV} {n r c:Nat} (h:c<n):over c [val c r] (lk zero val n r c)=lk zero val n r (c+1):=by
 have:=aaM (l:=(xi c).map (fun c=>val c r)) (k:=n-c-1) (v:=val c r) (z:=zero)
 simp only [xu,tZ] at this;rw [show n-c-1+1=n-c by omega] at this;rw [lk,this,lk,td,xC];rfl
def aly {zero:AV} {val:Nat->Nat->AV} {n r:Nat}:lk zero val n r n=(xi n).map fun c=>val c r:=by simp [lk]
def alz {zero:AV} {val:Nat->Nat->AV} {n r:Nat}:lk zero val n r 0=yz n zero:=by simp [lk]
def R1 (z:AV):∀n,(yz n [z]).flatten=yz n z
 | 0=>rfl
 | n+1=>by rw [xW,List.flatten_cons,R1 z n,xW];rfl
def gY (b n:Nat) (fnv:AV):Env:=[(11,.fn (.f 133) [] [.aI [.int .i64 n]]),(10,.int .i64 n),(5,.ptr (b+3) 0),(9,.an (b+2) 0 n),(8,.int .i64 n),(4,.ab),(3,.ptr (b+1) 0),(2,.ptr b 0),(0,.int .i64 n),(1,fnv)]
def cD (b n R:Nat) (fnv:AV) (st:Nat) (H:Hp):Hp:=
 (b+4,.lp (gY b n fnv) [12,13] zu qt st .none)::(b+3,.cells true false true 1 [.an (b+2) 0 n])::(b+2,.cells true (yu R 0) true 1 (fX (b+5) n R))::(b+1,.cells true (aR fnv) true 1 [fnv])::(b,.cells true true true 1 [.int .i64 n])::H
def XS {B b n:Nat} (hb:b<=B):∀{H:Hp},jH b n H->∀x,x∈dz B H->x<n
 | [],_,x,hx=>by simp [dz] at hx
 | (id,o)::r,h,x,hx=>by
  rw [dz,iw (by have:=h.1;omega),ym,wv] at hx;exact hx.elim (QI h.2.1 x) (XS hb h.2.2 x)
def Yo {b b' n n':Nat} (hb:b<=b') (hn:∀o,mV n o->mV n' o):∀{H:Hp},jH b n H->jH b' n' H
 | [],_=>trivial
 | (id,o)::r,h=>⟨yN h.1 hb,hn o h.2.1,Yo hb hn h.2.2⟩
mutual
def Ec {n n':Nat} (h:n<=n'):∀{v:AV},below n v->below n' v
 | .int _ _,_ | .bool _,_ | .dE _ _,_ | .str _,_ | .kB,_ | .aI _,_ | .ab,_ | .aE _ _ _,_ | .iA,_ | .jP,_ | .jy _ _,_ | .undef,_ | .cJ _ _ _ _,_=>trivial
 | .ptr _ _,k=>yN k h
 | .an _ _ _,k=>yN k h
 | .map _,k=>yN k h
 | .it _,k=>yN k h
 | .fn (.f _) _ _,k=>⟨AJ h k.1,AJ h k.2⟩
 | .fn (.y _) _ _,k=>⟨yN k.1 h,k.2⟩
 | .agg cs,k=>by simp only [below] at k ⊢;exact AJ h k
 | .ap cs,k=>by simp only [below] at k ⊢;exact AJ h k
def AJ {n n':Nat} (h:n<=n'):∀{vs:List AV},kj n vs->kj n' vs
 | [],_=>trivial
 | _::_,k=>⟨Ec h k.1,AJ h k.2⟩
end
def LJ {n n':Nat} (h:n<=n'):∀{tm:Env},jG n tm->jG n' tm
 | [],_=>trivial
 | (_,_)::_,k=>⟨Ec h k.1,LJ h k.2⟩
def ai6 {n n':Nat} (h:n<=n'):∀{o:Obj},mV n o->mV n' o
 | .cells _ pu _ _ cs,k=>k.imp id (AJ h)
 | .mp _ ks vs,k=>⟨AJ h k.1,AJ h k.2⟩
 | .si _ _,_=>trivial
 | .lp tm _ _ _ _ _,k=>by simp only [mV] at k ⊢;exact LJ h k
mutual
def mg {n:Nat}:∀{v:AV},aR v=true->below n v
 | .int _ _,_ | .bool _,_ | .dE _ _,_ | .str _,_ | .kB,_ | .aI _,_ | .ab,_ | .aE _ _ _,_ | .iA,_ | .jP,_ | .jy _ _,_ | .undef,_=>trivial
 | .cJ _ _ _ _,_=>trivial
 | .ptr _ _,h | .an _ _ _,h | .map _,h | .it _,h=>by simp [aR] at h
 | .fn (.y _) _ _,h=>by simp [aR] at h
 | .fn (.f _) _ _,h=>by
  simp only [aR,yg] at h;exact ⟨D5 h.1,D5 h.2⟩
 | .agg cs,h=>by simp only [aR] at h;simp only [below];exact D5 h
 | .ap cs,h=>by simp only [aR] at h;simp only [below];exact D5 h
def D5 {n:Nat}:∀{vs:List AV},aH vs=true->kj n vs
 | [],_=>trivial
 | _::_,h=>by
  simp only [aH,yg] at h;exact ⟨mg h.1,D5 h.2⟩
end
structure NG (b:Nat) (fnv:AV) (H:Hp):Prop where
 fv:below b fnv
 fl:(refs fnv).length<=1000
 one:bm fnv=true
 hb:jH b b H
 hl:∀B,(dz B H).length<=1000
def Y2 {B n R:Nat}:kj (B+R) (fX B n R):=by
 have dL:∀{a c:List AV},kj (B+R) a->kj (B+R) c->kj (B+R) (a++c):=by
  intro a c
  induction a with
  | nil=>intro _ h;exact h
  | cons x a ih=>intro h1 h2;exact ⟨h1.1,ih h1.2 h2⟩
 have hm:∀l:List Nat,(∀i,i∈l->i<R)->kj (B+R) (l.map fun i=>AV.an (B+i) 0 n):=by
  intro l
  induction l with
  | nil=>intro _;trivial
  | cons x l ih=>intro h;exact ⟨by have:=h x (by simp);show B+x<B+R;omega,ih (fun i hi=>h i (by simp [hi]))⟩
 refine dL (hm _ (fun i hi=>List.mem_range.1 hi)) (D5 ?_)
 induction n-R with
 | zero=>rfl
 | succ k ih=>rw [xW];exact ih
def ZN {B n R:Nat}:eQ (fX B n R)=xB B R:=by
 unfold fX;have dL:∀a c:List AV,eQ (a++c)=eQ a++eQ c:=by
  intro a c
  induction a with
  | nil=>rfl
  | cons x a ih=>simp only [y7,eQ,ih,xp]
 have hm:∀l:List Nat,eQ (l.map fun i=>AV.an (B+i) 0 n)=l.map (B+·):=by
  intro l
  induction l with
  | nil=>rfl
  | cons x l ih=>simp only [List.map_cons,eQ,refs,ih];rfl
 have hr:eQ (yz (n-R) AV.ab)=[]:=by
  induction n-R with
  | zero=>rfl
  | succ k ih=>rw [xW];exact ih
 rw [dL,hm,hr,wc,List.range'_eq_map_range]
def Ht {live:List Nat} {tm:Env} {b n ct st:Nat} {fnv:AV} {H:Hp} {rs:List (List AV)} (ho:NG b fnv H) (hn:rs.length<=n) (gV:n<=1000) (ht:jG (b+5) (df tm live)) (hl:(fy (df tm live)).length<=1000):
  bD live ⟨tm,bG (b+5) rs++cD b n rs.length fnv st H,ct,b+5⟩=⟨df tm live,bG (b+5) rs++cD b n rs.length fnv st H,b+5+rs.length,b+5⟩:=by
 have E9:mV (b+5+rs.length) (.cells true (yu rs.length 0) true 1 (fX (b+5) n rs.length)):= .inr Y2;have asr:fA (.cells true (yu rs.length 0) true 1 (fX (b+5) n rs.length))=xB (b+5) rs.length:=by
  cases rs with
  | nil=>rfl
  | cons c r=>simp only [fA,yr,cG (Nat.succ_ne_zero _),yA,ZN]
 have hTM:jG b (gY b n fnv)->True:=fun _=>trivial
 have OL:jG (b+4) (gY b n fnv):=by
  have:=Ec (show b<=b+4 by omega) ho.fv
  refine ⟨⟨trivial,trivial,trivial⟩,trivial,show b+3<b+4 by omega,show b+2<b+4 by omega,trivial,trivial,show b+1<b+4 by omega,show b<b+4 by omega,trivial,this,trivial⟩
 have avH:(fy (gY b n fnv)).length<=1010:=by
  have:=ho.fl
  simp [gY,fy,refs,eQ];omega
 have pD:(fA (.cells true (aR fnv) true 1 [fnv])).length<=1000:=by
  cases aR fnv with
  | true=>simp [fA]
  | false=>simp [fA,eQ];exact ho.fl
 have hHr:=XS (B:=b+5) (show b<=b+5 by omega) ho.hb;have e:dz (b+5) (cD b n rs.length fnv st H)=fy (gY b n fnv)++([b+2]++(xB (b+5) rs.length++(fA (.cells true (aR fnv) true 1 [fnv])++([]++dz (b+5) H)))):=by
  simp only [cD,dz,iw (show b+4<b+5 by omega),iw (show b+3<b+5 by omega),iw (show b+2<b+5 by omega),iw (show b+1<b+5 by omega),iw (show b<b+5 by omega),ym,asr];simp only [fA,eQ,refs,yA,ym,wc]
 have no:∀(l:List Nat),(∀x,x∈l->x<b+5)->l.filter (fun x=> !yK x (b+5))=[]:=fun l h=>vT.2 (fun x hx=>by simp [iw (h x hx)])
 have all:∀(k:Nat),(xB (b+5) k).filter (fun x=> !yK x (b+5))=xB (b+5) k:=fun k=>List.filter_eq_self.2 (fun x hx=>by
  have:=(List.mem_range'_1.1 hx).1
  simp [EQ this])
 refine XY ht ?_ ?_ ?_
 ·refine ⟨by omega,LJ (by omega) OL,by omega,.inr ⟨show b+2<_ by omega,trivial⟩,by omega,E9,by omega,.inr ⟨Ec (by omega) ho.fv,trivial⟩,by omega,.inl rfl,?_⟩;exact Yo (by omega) (fun o h=>ai6 (by omega) h) ho.hb
 ·rw [e]
  have:=ho.hl (b+5)
  grind
 ·rw [e];simp only [tN]
  rw [no _ (fun x hx=>by have:=LH OL x hx;omega),no [b+2] (fun x hx=>by simp at hx;omega),all,no _ (fun x hx=>by
   have h1:mV b (.cells true (aR fnv) true 1 [fnv]):= .inr ⟨ho.fv,trivial⟩
   have:=QI h1 x hx;omega),no [] (fun x hx=>by simp at hx),no _ (fun x hx=>by have:=hHr x hx;omega)]
  simp
end
end
section
open Go (IntKind)
section
variable {pre x post:List Nat} {i:Nat}
def oI:(pre++x++post).length=pre.length+x.length+post.length:=by grind
def Cw (h:i<x.length):(pre++x++post).getD (pre.length+i) 0=x.getD i 0:=by grind
def MQ (a:Nat) (h:i<x.length):(pre++x++post).set (pre.length+i) a=pre++x.set i a++post:=by simp_all
end
def mv (n:Nat) (k:IntKind) (a:Int):below n (.int k a)=True:=rfl
def mW (n id o k:Nat):below n (.an id o k)=(id<n):=rfl
def ml (n:Nat):jG n []=True:=rfl
def mj (n i:Nat) (v:AV) (r:Env):jG n ((i,v)::r)=(below n v/\jG n r):=rfl
def qc {live:List Nat} {tm:Env} {ct:Nat} {a b:List AV} (ht:jG 2 (df tm live)) (hl:(fy (df tm live)).length<100000):
  bD live ⟨tm,[(1,.cells true true true 1 a),(0,.cells true true true 1 b)],ct,2⟩=⟨df tm live,[(1,.cells true true true 1 a),(0,.cells true true true 1 b)],2,2⟩:=
 LI ht ⟨by omega,.inl rfl,by omega,.inl rfl,trivial⟩ (by
  have:dz 2 [(1,Obj.cells true true true 1 a),(0,Obj.cells true true true 1 b)]=[]:=rfl
  rw [this,yE,yX];exact hl)
section
variable {P:aG} {L:Lib}
def ajV {x s c:Nat} (hs:s<64) (hx:x<18446744073709551616) (hc:c<2^s):
  c|||(x*2^s%18446744073709551616)<18446744073709551616/\c<18446744073709551616/\x/2^(64-s)<2^s/\(c|||(x*2^s%18446744073709551616))+18446744073709551616*(x/2^(64-s))=x*2^s+c:=by
 have e:18446744073709551616=2^(64-s)*2^s:=by rw [<-Nat.pow_add,show 64-s+s=64 by omega]
 have h1:x*2^s%18446744073709551616=(x%2^(64-s))*2^s:=by rw [e,Nat.mul_mod_mul_right]
 have h2:x/2^(64-s)<2^s:=by
  refine (wz (wG _)).2 ?_
  grind
 have h3:c|||(x*2^s%18446744073709551616)=(x%2^(64-s))*2^s+c:=by rw [h1,Nat.or_comm,SP hc]
 have h4:(x%2^(64-s))*2^s+c<18446744073709551616:=by
  have:=yW (2^s) (show x%2^(64-s)+1<=2^(64-s) from xy _ (wG _))
  grind
 have h5:=Nat.mod_add_div x (2^(64-s))
 grind
def ass {v:AV} {w:List Nat} (hv:bJ v w) (hw:lo 18446744073709551616 w) (lw:w.length<=99999999999) {s n:Nat} (hs:s<64) (hn:n=w.length+1):
  ∀k st,(∃(i:Nat) (out:List Nat),bD [1,5,12,13,14] st=⟨[(1,aa s),(5,.an 0 0 n),(12,v),(13,aa w.length),(14,aa i)],[(0,.cells true true true 1 (out.map uc))],1,0⟩/\i+k=w.length/\out.length=n/\lo 18446744073709551616 out/\bv 18446744073709551616 out=bv 18446744073709551616 (w.take i)*2^s/\out.getD i 0<2^s/\(∀m,i<m->out.getD m 0=0))->
   ∃ex st',D P L (.loop [1,5,12,13,14] ED) st=some (ex,st')/\∃tm out,st'=⟨tm,[(0,.cells true true true 1 (out.map uc))],1,0⟩/\ex= .exit 0/\af tm 5= .an 0 0 n/\out.length=n/\lo 18446744073709551616 out/\bv 18446744073709551616 out=bv 18446744073709551616 w*2^s:=by
 refine cg (I:=fun k st=>∃(i:Nat) (out:List Nat),st=⟨[(1,aa s),(5,.an 0 0 n),(12,v),(13,aa w.length),(14,aa i)],[(0,.cells true true true 1 (out.map uc))],1,0⟩/\i+k=w.length/\out.length=n/\lo 18446744073709551616 out/\bv 18446744073709551616 out=bv 18446744073709551616 (w.take i)*2^s/\out.getD i 0<2^s/\(∀m,i<m->out.getD m 0=0))
  (Q:=fun ex st'=>∃tm out,st'=⟨tm,[(0,.cells true true true 1 (out.map uc))],1,0⟩/\ex= .exit 0/\af tm 5= .an 0 0 n/\out.length=n/\lo 18446744073709551616 out/\bv 18446744073709551616 out=bv 18446744073709551616 w*2^s) ?_
 rintro k st ⟨i,out,rfl,hk,hlen,bq,aQ,hc,gM⟩;by_cases hi:i<w.length
 ·left
  have gx:=gP (show 0<18446744073709551616 by decide) hw i;have ex:=hv.bk hi;have ec:=zB (l:=out) (o:=i) (by omega);have aW:=nG (b:=18446744073709551616) (l:=out) (i:=i) (x:=out.getD i 0|||(w.getD i 0*2^s%18446744073709551616)) (by omega);have hz:out.getD (i+1) 0=0:=gM _ (by omega);have eF:=jv (b:=18446744073709551616) (l:=w) i;generalize out.getD i 0=c at*
  generalize w.getD i 0=x at*
  obtain ⟨s1,s2,s3,s4⟩:=ajV hs gx hc;have o1:=JX .i64 x (s:=s) (by omega);have o2:=Ww s2 (xy (x*2^s) (by decide));have o3:binOp .sub (.int .i64 64) (aa s)=some (aa (64-s:Nat)):=by
   rw [MO,wrap64 (by omega) (by omega)];congr 2;omega
  have o4:=JY .i64 x (s:=64-s) (by omega);generalize ma:c|||(x*2^s%18446744073709551616)=c' at*
  by_cases h0:0<s
  ·have NH:=nG (b:=18446744073709551616) (l:=out.set i c') (i:=i+1) (x:=x/2^(64-s)) (by simp;omega);rw [oH (by omega),hz,xF,yX] at NH;have avI:x/2^(64-s)<18446744073709551616:=Nat.lt_of_le_of_lt (Nat.div_le_self _ _) gx;generalize x/2^(64-s)=y at*
   simp only [go_sem,ya,yh,ED,show (i:Int)<w.length by omega,ex,dj 0 0 (show i<n by omega),yd,ec,o1,o2,kI (l:=out) (o:=i) (by omega),show (0:Int)<(s:Int) by omega,show (i:Int)+1=((i+1:Nat):Int) from rfl,wrapN (n:=i+1) (by omega),o3,o4,dj 0 0 (show i+1<n by omega),kI (l:=out.set i c') (o:=i+1) (by simp;omega)];refine ⟨_,k-1,rfl,by omega,i+1,(out.set i c').set (i+1) y,by simp only [go_sem,ya,yb,ay,aJ hv.pu,aO _ hv.pu]<;>rfl,by omega,by simp [hlen],mr (mr bq s1) avI,?_,by rw [ajt (by simp;omega)];exact s3,fun m hm=>by rw [oH (by omega),oH (by omega)];exact gM m (by omega)⟩
   rw [eF,wj,NH,<-aQ,xg,xk,xk (18446744073709551616^i)];have e:=congrArg (fun t=>18446744073709551616^i*t) s4;simp only [xt] at e;generalize 18446744073709551616^i*(18446744073709551616*y)=p1 at*
   generalize 18446744073709551616^i*(x*2^s)=p2 at*
   generalize 18446744073709551616^i*c'=p3 at*
   omega
  ·have ji:s=0:=by omega
   subst ji;have lD:c=0:=by simpa using hc
   have At:x/2^(64-0)=0:=wH gx;rw [At,xF,yX,ybd,yh] at s4
   simp only [go_sem,ya,yh,ED,show (i:Int)<w.length by omega,ex,dj 0 0 (show i<n by omega),yd,ec,o1,o2,kI (l:=out) (o:=i) (by omega),show ¬(0:Int)<((0:Nat):Int) by omega,show (i:Int)+1=((i+1:Nat):Int) from rfl,wrapN (n:=i+1) (by omega)];refine ⟨_,k-1,rfl,by omega,i+1,out.set i c',by simp only [go_sem,ya,yb,ay,aJ hv.pu,aO _ hv.pu]<;>rfl,by omega,by simp [hlen],mr bq s1,?_,by rw [oH (by omega),hz];exact wG _,fun m hm=>by rw [oH (by omega)];exact gM m (by omega)⟩
   rw [ybd,yh] at aQ ⊢;rw [eF,<-aQ];rw [lD,xF,yX] at aW;rw [aW,s4,lD,yX]
 ·right
  have:i=w.length:=by omega
  subst this;rw [List.take_length] at aQ;simp only [go_sem,ya,ED,show ¬(w.length:Int)<w.length by omega];exact ⟨_,_,rfl,by simp,_,out,rfl,rfl,by simp only [go_sem,ya],hlen,bq,aQ⟩
def afQ (h:Has P L 168 Of) {v:AV} {w:List Nat} (hv:bJ v w) (hw:lo 18446744073709551616 w) (lw:w.length<=99999999999) {s:Nat} (hs:s<64):
  ∃out,ae P L 168 [v,aa s] (.cJ true 1 (w.length+1) (out.map uc))/\out.length=w.length+1/\lo 18446744073709551616 out/\bv 18446744073709551616 out=bv 18446744073709551616 w*2^s:=by
 obtain ⟨n,hn⟩:∃n,n=w.length+1:=⟨_,rfl⟩;unfold ae;rw [av h]
 simp only [go_sem,ya,yb,Of,hv.len,wrapN (n:=n) (by omega),show (w.length:Int)+1=((w.length+1:Nat):Int) from rfl,<-hn,Df (n:=n) _ (by omega)];generalize hq:D P L (.loop [1,5,12,13,14] ED) _=q;obtain ⟨ex,st,rfl,tm,o,rfl,rfl,t5,hlen,bq,aQ⟩:=bP hq (ass (P:=P) (L:=L) hv hw lw hs hn w.length)
  ⟨0,yz n 0,by simp only [go_sem,ya,yb,ay,aJ hv.pu,aO _ hv.pu]<;>rfl,by omega,by simp,EL (by decide) n,by rw [EM];simp [bv],by rw [Cv];exact wG _,fun m _=>Cv n m⟩
 refine ⟨o,?_,hlen,bq,aQ⟩;simp only [go_sem,yb,ay,t5];exact QV (H4 _ _ _) (by simp [hlen]) (by decide)
end
end
section
open Go (IntKind)
abbrev H2 (a b:List Nat):Hp:=[(1,.cells true true true 1 (a.map uc)),(0,.cells true true true 1 (b.map uc))]
structure gI (x vs:List Nat) (n v1 v2 u0 u1 u2:Nat):Prop where
 n2:2<=n
 nb:n<=99999999999
 lx:x.length=n+1
 lv:vs.length=n
 gx:lo 18446744073709551616 x
 gv:lo 18446744073709551616 vs
 eG:vs.getD (n-1) 0=v1
 cX:vs.getD (n-2) 0=v2
 h0:x.getD n 0=u0
 h1:x.getD (n-1) 0=u1
 h2:x.getD (n-2) 0=u2
 pos:0<v1
 lt:bv 18446744073709551616 x<18446744073709551616*bv 18446744073709551616 vs
def auo (b p a v1 v2:Nat):a+p*v2+p*b*v1=(v1*b+v2)*p+a:=by grind
def aup (b p a v0 v1 v2:Nat):a+p*v2+p*b*v1+p*b*b*v0=((v0*b+v1)*b+v2)*p+a:=by grind
section
variable {x vs:List Nat} {n v1 v2 u0 u1 u2:Nat}
def gI.KZ (h:gI x vs n v1 v2 u0 u1 u2):v1<18446744073709551616:=h.eG▸gP (by decide) h.gv _
def gI.DG (h:gI x vs n v1 v2 u0 u1 u2):v2<18446744073709551616:=h.cX▸gP (by decide) h.gv _
def gI.WB (h:gI x vs n v1 v2 u0 u1 u2):u0<18446744073709551616:=h.h0▸gP (by decide) h.gx _
def gI.K0 (h:gI x vs n v1 v2 u0 u1 u2):u1<18446744073709551616:=h.h1▸gP (by decide) h.gx _
def gI.K1 (h:gI x vs n v1 v2 u0 u1 u2):u2<18446744073709551616:=h.h2▸gP (by decide) h.gx _
def gI.parts (h:gI x vs n v1 v2 u0 u1 u2):∃p vr ur,bv 18446744073709551616 vs=(v1*18446744073709551616+v2)*p+vr/\vr<p/\bv 18446744073709551616 x=((u0*18446744073709551616+u1)*18446744073709551616+u2)*p+ur/\ur<p:=by
 obtain ⟨m,hm⟩:∃m,n=m+2:=⟨n-2,by have:=h.n2;omega⟩;subst hm;have e1:=jv (b:=18446744073709551616) (l:=vs) (m+1);have e2:=jv (b:=18446744073709551616) (l:=vs) m;have f0:=jv (b:=18446744073709551616) (l:=x) (m+2);have f1:=jv (b:=18446744073709551616) (l:=x) (m+1);have f2:=jv (b:=18446744073709551616) (l:=x) m;have eG:vs.getD (m+1) 0=v1:=h.eG;have cX:vs.getD m 0=v2:=h.cX;have h0:x.getD (m+2) 0=u0:=h.h0;have h1:x.getD (m+1) 0=u1:=h.h1;have h2:x.getD m 0=u2:=h.h2
 rw [yM (by have:=h.lv;omega),eG,e2,cX] at e1
 rw [yM (by have:=h.lx;omega),h0,f1,h1,f2,h2] at f0;have g1:=mz (A0 h.gv m)
 rw [yT,wu (by have:=h.lv;omega)] at g1;have g2:=mz (A0 h.gx m)
 rw [yT,wu (by have:=h.lx;omega)] at g2;refine ⟨18446744073709551616^m,_,_,?_,g1,?_,g2⟩
 ·grind
 ·grind
def gI.down (h:gI x vs n v1 v2 u0 u1 u2) {t r:Nat} (ht:t*v1+r=u0*18446744073709551616+u1) (hr:r*18446744073709551616+u2<t*v2):bv 18446744073709551616 x/bv 18446744073709551616 vs<=t-1:=by
 obtain ⟨p,vr,ur,h1,h2,h3,h4⟩:=h.parts;exact YQ h1 h3 h4 ht hr
def gI.stop (h:gI x vs n v1 v2 u0 u1 u2) {t r:Nat} (kH:t<18446744073709551616) (ht:t*v1+r=u0*18446744073709551616+u1) (hr:18446744073709551616<=r\/t*v2<=r*18446744073709551616+u2):t<=bv 18446744073709551616 x/bv 18446744073709551616 vs+1:=by
 obtain ⟨p,vr,ur,h1,h2,h3,h4⟩:=h.parts;exact ZC (by decide) h1 h2 h3 h.pos h.DG kH ht hr
def gI.first (h:gI x vs n v1 v2 u0 u1 u2):bv 18446744073709551616 x/bv 18446744073709551616 vs<=(u0*18446744073709551616+u1)/v1:=by
 obtain ⟨p,vr,ur,h1,h2,h3,h4⟩:=h.parts;exact QG h1 h3 h4 h.K1 h.pos
def gI.top (h:gI x vs n v1 v2 u0 u1 u2):u0<=v1:=by
 obtain ⟨p,vr,ur,h1,h2,h3,h4⟩:=h.parts;exact ZD h1 h3 h2 h.DG h.lt
def gI.digit (h:gI x vs n v1 v2 u0 u1 u2):bv 18446744073709551616 x/bv 18446744073709551616 vs<18446744073709551616:=by
 refine (wz ?_).2 h.lt;rcases xo (bv 18446744073709551616 vs) with h0 | h0
 ·have:=h.lt;rw [h0] at this;simp at this
 ·exact h0
end
section
variable {P:aG} {L:Lib}
def adD (mJ:L.pure 143=some rq) (gT:L.pure 171=some nE) {w:AV} {x vs pre post qs:List Nat} (hw:bJ w vs) {n v1 v2 u0 u1 u2:Nat} (hl:gI x vs n v1 v2 u0 u1 u2):
  ∀k s,(∃q r:Nat,bD [0,1,5,6,7,8] s=⟨[(0,.an 0 pre.length (n+1)),(1,w),(5,aa n),(6,uc q),(7,uc (r%18446744073709551616)),(8,uc (r/18446744073709551616))],H2 qs (pre++x++post),2,2⟩/\q*v1+r=u0*18446744073709551616+u1/\r<2*18446744073709551616/\q<18446744073709551616/\bv 18446744073709551616 x/bv 18446744073709551616 vs<=q/\q=k)->
   ∃ex s',D P L (.loop [0,1,5,6,7,8] zh) s=some (ex,s')/\∃tm q,s'=⟨tm,H2 qs (pre++x++post),2,2⟩/\ex= .exit 0/\af tm 0= .an 0 pre.length (n+1)/\af tm 1=w/\af tm 5=aa n/\af tm 6=uc q/\q<18446744073709551616/\bv 18446744073709551616 x/bv 18446744073709551616 vs<=q/\q<=bv 18446744073709551616 x/bv 18446744073709551616 vs+1:=by
 refine cg (I:=fun k s=>∃q r:Nat,s=⟨[(0,.an 0 pre.length (n+1)),(1,w),(5,aa n),(6,uc q),(7,uc (r%18446744073709551616)),(8,uc (r/18446744073709551616))],H2 qs (pre++x++post),2,2⟩/\q*v1+r=u0*18446744073709551616+u1/\r<2*18446744073709551616/\q<18446744073709551616/\bv 18446744073709551616 x/bv 18446744073709551616 vs<=q/\q=k)
  (Q:=fun ex s'=>∃tm q,s'=⟨tm,H2 qs (pre++x++post),2,2⟩/\ex= .exit 0/\af tm 0= .an 0 pre.length (n+1)/\af tm 1=w/\af tm 5=aa n/\af tm 6=uc q/\q<18446744073709551616/\bv 18446744073709551616 x/bv 18446744073709551616 vs<=q/\q<=bv 18446744073709551616 x/bv 18446744073709551616 vs+1) ?_
 rintro k s ⟨q,r,rfl,hq,hr,ol,hQ,rfl⟩;have eH:=hl.n2;have pI:=hl.nb;by_cases lY:r<18446744073709551616
 ·have F7:r%18446744073709551616=r:=yP lY;have BY:r/18446744073709551616=0:=wH lY;rw [F7,BY];have Fy:=hl.KZ;have Ux:=hl.DG;have afR:=hl.K1;have pM:=hw.bk (i:=n-2) (by have:=hl.lv;omega);have fh:=hw.bk (i:=n-1) (by have:=hl.lv;omega);rw [hl.cX] at pM;rw [hl.eG] at fh;have sH:=zB (l:=pre++x++post) (o:=pre.length+(n-2)) (by rw [oI];have:=hl.lx;omega)
  rw [Cw (by have:=hl.lx;omega),hl.h2] at sH;have f1:=M9 (P:=P) (f:=D P L) mJ ol Ux;have f2:=CN (P:=P) (f:=D P L) gT (x:=r) (y:=v1) (c:=0) lY Fy (by omega);rw [show (uc 0)=AV.int .u64 0 from rfl] at f2;have eO:=wq (q*v2) 18446744073709551616;have bq:=xy (q*v2) (show 0<18446744073709551616 by decide);obtain ⟨H,hH⟩:∃H,H=q*v2/18446744073709551616:=⟨_,rfl⟩;obtain ⟨G,hG⟩:∃G,G=q*v2%18446744073709551616:=⟨_,rfl⟩;rw [<-hH,<-hG] at f1 eO;rw [<-hG] at bq;have Au:(n:Int)-2=((n-2:Nat):Int):=by omega
  have pN:(n:Int)-1=((n-1:Nat):Int):=by omega
  by_cases c1:H<r
  ·right
   simp only [go_sem,ya,zh,H2,show ((0:Nat):Int)=0 from rfl,Au,wrapN (n:=n-2) (by omega),pM,f1,show (H:Int)<(r:Int) by omega];exact ⟨_,_,rfl,by simp,_,q,rfl,rfl,by simp only [go_sem,ya],by simp only [go_sem,ya],by simp only [go_sem,ya],by simp only [go_sem,ya],ol,hQ,hl.stop ol hq (.inr (by omega))⟩
  ·by_cases c2:H=r/\G<=u2
   ·right
    obtain ⟨c2,c3⟩:=c2
    simp only [go_sem,ya,zh,H2,show ((0:Nat):Int)=0 from rfl,Au,wrapN (n:=n-2) (by omega),pM,f1,show (H:Int)=(r:Int) by omega];simp only [show ¬(r:Int)<(r:Int) by omega,yo]
    simp only [go_sem,ya,yh,Au,wrapN (n:=n-2) (by omega),dj 0 pre.length (show n-2<n+1 by omega),sH,show (G:Int)<=(u2:Int) by omega];exact ⟨_,_,rfl,by simp,_,q,rfl,rfl,by simp only [go_sem,ya],by simp only [go_sem,ya],by simp only [go_sem,ya],by simp only [go_sem,ya],ol,hQ,hl.stop ol hq (.inr (by omega))⟩
   ·left
    have FM:r*18446744073709551616+u2<q*v2:=by omega
    have Aq:0<q:=by
     rcases xo q with h0 | h0
     ·subst h0;omega
     ·exact h0
    have e3:binOp .sub (uc q) (.int .u64 1)=some (uc (q-1)):=Dg (b:=1) (by omega) (by omega);have h1:(q-1)*v1+(r+v1)=u0*18446744073709551616+u1:=by
     obtain ⟨p,rfl⟩:∃p,q=p+1:=⟨q-1,by omega⟩;rw [wj,tz] at hq;rw [uN];omega
    have Aw:=hl.down hq FM;rw [yX] at f2;by_cases c3:H=r
    ·have c4:¬G<=u2:=fun h=>c2 ⟨c3,h⟩
     subst c3
     simp only [go_sem,ya,xQ,yh,zh,H2,show ((0:Nat):Int)=0 from rfl,Au,pN,wrapN (n:=n-2) (by omega),wrapN (n:=n-1) (by omega),pM,fh,f1,f2,show ¬(H:Int)<(H:Int) by omega,dj 0 pre.length (show n-2<n+1 by omega),sH,show ¬(G:Int)<=(u2:Int) by omega,e3];refine ⟨_,q-1,rfl,by omega,q-1,H+v1,?_,h1,by omega,by omega,Aw,rfl⟩;rw [qc (by simp only [go_sem,ya,yt,mv,mW,ml,mj,mg hw.pu,wi]) (by simp only [go_sem,ya,yb,yt,aJ hw.pu])];simp only [go_sem,ya]
    ·simp only [go_sem,ya,xQ,zh,H2,show ((0:Nat):Int)=0 from rfl,Au,pN,wrapN (n:=n-2) (by omega),wrapN (n:=n-1) (by omega),pM,fh,f1,f2,show ¬(H:Int)<(r:Int) by omega,show ¬(H:Int)=(r:Int) by omega,e3];refine ⟨_,q-1,rfl,by omega,q-1,r+v1,?_,h1,by omega,by omega,Aw,rfl⟩;rw [qc (by simp only [go_sem,ya,yt,mv,mW,ml,mj,mg hw.pu,wi]) (by simp only [go_sem,ya,yb,yt,aJ hw.pu])];simp only [go_sem,ya]
 ·right
  have BY:r/18446744073709551616=1:=by omega
  rw [BY];simp only [go_sem,ya,zh,H2,show ((1:Nat):Int)=1 from rfl,Int.reduceEq];exact ⟨_,_,rfl,by simp,_,q,rfl,rfl,by simp only [go_sem,ya],by simp only [go_sem,ya],by simp only [go_sem,ya],by simp only [go_sem,ya],ol,hQ,hl.stop ol hq (.inl (by omega))⟩
end
end
section
open Go (IntKind)
def alA {b p x y z ns c bo Ax ca q v X Y:Nat} (h1:q*v+c=b*ca+ns) (h2:z+ns+bo=x+b*Ax) (h3:Y+q*X=y+p*(c+bo)) (W:Nat) (hW:W+p*x=Y+p*z):
  W+q*(X+p*v)=y+p*b*(ca+Ax):=by grind
def alB {q v c:Nat} (hq:q<18446744073709551616) (hv:v<18446744073709551616) (hc:c<18446744073709551616):
  q*v+c=18446744073709551616*(q*v/18446744073709551616+(q*v%18446744073709551616+c+0)/18446744073709551616)+(q*v%18446744073709551616+c+0)%18446744073709551616/\
  q*v/18446744073709551616+(q*v%18446744073709551616+c+0)/18446744073709551616<18446744073709551616:=by
 have h:=Nat.mul_le_mul (show q<=18446744073709551615 by omega) (show v<=18446744073709551615 by omega);generalize q*v=m at*
 omega
section
variable {P:aG} {L:Lib}
def ast (mJ:L.pure 143=some rq) (gT:L.pure 171=some nE) (rQ:L.pure 173=some A4) {w:AV} {x vs pre post qs:List Nat} (hw:bJ w vs) {n:Nat} (pI:n<=99999999999) (lv:vs.length=n) (gv:lo 18446744073709551616 vs) {q:Nat} (hq:q<18446744073709551616):
  ∀k s,(∃(i c bo:Nat) (y:List Nat),bD [0,1,5,6,11,12,104,105] s=⟨[(0,.an 0 pre.length (n+1)),(1,w),(5,aa n),(6,uc q),(11,uc bo),(12,uc c),(104,aa n),(105,aa i)],H2 qs (pre++y++post),2,2⟩/\i+k=n/\y.length=n+1/\lo 18446744073709551616 y/\c<18446744073709551616/\bo<=1/\
    bv 18446744073709551616 y+q*bv 18446744073709551616 (vs.take i)=bv 18446744073709551616 x+18446744073709551616^i*(c+bo))->
   ∃ex s',D P L (.loop [0,1,5,6,11,12,104,105] IE) s=some (ex,s')/\∃tm c bo y,s'=⟨tm,H2 qs (pre++y++post),2,2⟩/\ex= .exit 2/\af tm 0= .an 0 pre.length (n+1)/\af tm 1=w/\af tm 5=aa n/\af tm 6=uc q/\af tm 11=uc bo/\af tm 12=uc c/\y.length=n+1/\lo 18446744073709551616 y/\c<18446744073709551616/\bo<=1/\
    bv 18446744073709551616 y+q*bv 18446744073709551616 vs=bv 18446744073709551616 x+18446744073709551616^n*(c+bo):=by
 refine cg (I:=fun k s=>∃(i c bo:Nat) (y:List Nat),s=⟨[(0,.an 0 pre.length (n+1)),(1,w),(5,aa n),(6,uc q),(11,uc bo),(12,uc c),(104,aa n),(105,aa i)],H2 qs (pre++y++post),2,2⟩/\i+k=n/\y.length=n+1/\lo 18446744073709551616 y/\c<18446744073709551616/\bo<=1/\
    bv 18446744073709551616 y+q*bv 18446744073709551616 (vs.take i)=bv 18446744073709551616 x+18446744073709551616^i*(c+bo))
  (Q:=fun ex s'=>∃tm c bo y,s'=⟨tm,H2 qs (pre++y++post),2,2⟩/\ex= .exit 2/\af tm 0= .an 0 pre.length (n+1)/\af tm 1=w/\af tm 5=aa n/\af tm 6=uc q/\af tm 11=uc bo/\af tm 12=uc c/\y.length=n+1/\lo 18446744073709551616 y/\c<18446744073709551616/\bo<=1/\
    bv 18446744073709551616 y+q*bv 18446744073709551616 vs=bv 18446744073709551616 x+18446744073709551616^n*(c+bo)) ?_
 rintro k s ⟨i,c,bo,y,rfl,hk,ly,gy,hc,jn,aQ⟩;by_cases hi:i<n
 ·left
  have ej:(0:Nat)<18446744073709551616:=by decide
  have qU:=gP ej gv i;have pO:=gP ej gy i;have ev:=hw.bk (i:=i) (by omega);have ey:=zB (l:=pre++y++post) (o:=pre.length+i) (by rw [oI];omega);rw [Cw (by omega)] at ey;have eF:=jv (b:=18446744073709551616) (l:=vs) i;obtain ⟨a,ha⟩:∃a,a=vs.getD i 0:=⟨_,rfl⟩;obtain ⟨d,hd⟩:∃d,d=y.getD i 0:=⟨_,rfl⟩;rw [<-ha] at qU ev eF;rw [<-hd] at pO ey;obtain ⟨m1,m2⟩:=alB hq qU hc;have f1:=M9 (P:=P) (f:=D P L) mJ hq qU;have f2:=CN (P:=P) (f:=D P L) gT (x:=q*a%18446744073709551616) (y:=c) (c:=0) (xy _ ej) hc (by omega);obtain ⟨ns,afS⟩:∃t,t=(q*a%18446744073709551616+c+0)%18446744073709551616:=⟨_,rfl⟩;obtain ⟨c1,eh⟩:∃t,t=(q*a%18446744073709551616+c+0)/18446744073709551616:=⟨_,rfl⟩;have afT:ns<18446744073709551616:=by rw [afS];exact xy _ ej
  rw [<-afS,<-eh] at f2 m1;rw [<-eh] at m2;obtain ⟨h1,jk⟩:∃t,t=q*a/18446744073709551616:=⟨_,rfl⟩;rw [<-jk] at f1 m1 m2;rw [show (uc 0)=AV.int .u64 0 from rfl] at f2;have f3:=SO (P:=P) (f:=D P L) rQ pO afT jn;have gF:=RZ pO afT jn;obtain ⟨z,hz⟩:∃t,t=(d+18446744073709551616*2-ns-bo)%18446744073709551616:=⟨_,rfl⟩;obtain ⟨b',cY⟩:∃t,t=(if ns+bo<=d then 0 else 1):=⟨_,rfl⟩;have ff:b'<=1:=by rw [cY];split<;>omega
  have F6:z<18446744073709551616:=by rw [hz];exact xy _ ej
  rw [<-hz,<-cY] at f3 gF;have f4:binOp .add (uc h1) (uc c1)=some (uc (h1+c1)):=by
   rw [Bj,yP m2]
  have aW:=nG (b:=18446744073709551616) (l:=y) (i:=i) (x:=z) (by omega);rw [<-hd] at aW;have aX:=fun (hp:Hp) (ct:Nat)=>kI (hp:=hp) (ct:=ct) (id:=0) (v:=z) (ex:=true) (l:=pre++y++post) (o:=pre.length+i) (by rw [oI];omega)
  have nP:=MQ (pre:=pre) (x:=y) (post:=post) (i:=i) z (by omega);simp only [go_sem,ya,yh,IE,H2,show (i:Int)<(n:Int) by omega,ev,f1,f2,f4,dj 0 pre.length (show i<n+1 by omega),ey,f3,aX,nP];refine ⟨_,k-1,rfl,by omega,i+1,h1+c1,b',y.set i z,?_,by omega,by simp [ly],mr gy F6,m2,ff,?_⟩
  ·rw [qc (by simp only [go_sem,ya,yt,mv,mW,ml,mj,mg hw.pu,wi]) (by simp only [go_sem,ya,yb,yt,aJ hw.pu])];rw [wrap64 (by omega) (by omega)];simp only [go_sem,ya]<;>rfl
  ·rw [eF,xg];exact alA m1 gF aQ _ aW
 ·right
  have:i=n:=by omega
  subst this;rw [yM (by omega)] at aQ;simp only [go_sem,ya,IE,H2,show ¬(i:Int)<(i:Int) by omega];exact ⟨_,_,rfl,by simp,_,c,bo,y,rfl,rfl,by simp only [go_sem,ya],by simp only [go_sem,ya],by simp only [go_sem,ya],by simp only [go_sem,ya],by simp only [go_sem,ya],by simp only [go_sem,ya],ly,gy,hc,jn,aQ⟩
def asu (gT:L.pure 171=some nE) {w:AV} {y0 vs pre post qs:List Nat} (hw:bJ w vs) {n:Nat} (pI:n<=99999999999) (lv:vs.length=n) (gv:lo 18446744073709551616 vs) {q:Nat}:
  ∀k s,(∃(i c:Nat) (y:List Nat),bD [0,1,5,6,17,156,157] s=⟨[(0,.an 0 pre.length (n+1)),(1,w),(5,aa n),(6,uc q),(17,uc c),(156,aa n),(157,aa i)],H2 qs (pre++y++post),2,2⟩/\i+k=n/\y.length=n+1/\lo 18446744073709551616 y/\c<=1/\
    bv 18446744073709551616 y+18446744073709551616^i*c=bv 18446744073709551616 y0+bv 18446744073709551616 (vs.take i))->
   ∃ex s',D P L (.loop [0,1,5,6,17,156,157] IF) s=some (ex,s')/\∃tm c y,s'=⟨tm,H2 qs (pre++y++post),2,2⟩/\ex= .exit 4/\af tm 0= .an 0 pre.length (n+1)/\af tm 5=aa n/\af tm 6=uc q/\af tm 17=uc c/\y.length=n+1/\lo 18446744073709551616 y/\c<=1/\
    bv 18446744073709551616 y+18446744073709551616^n*c=bv 18446744073709551616 y0+bv 18446744073709551616 vs:=by
 refine cg (I:=fun k s=>∃(i c:Nat) (y:List Nat),s=⟨[(0,.an 0 pre.length (n+1)),(1,w),(5,aa n),(6,uc q),(17,uc c),(156,aa n),(157,aa i)],H2 qs (pre++y++post),2,2⟩/\i+k=n/\y.length=n+1/\lo 18446744073709551616 y/\c<=1/\
    bv 18446744073709551616 y+18446744073709551616^i*c=bv 18446744073709551616 y0+bv 18446744073709551616 (vs.take i))
  (Q:=fun ex s'=>∃tm c y,s'=⟨tm,H2 qs (pre++y++post),2,2⟩/\ex= .exit 4/\af tm 0= .an 0 pre.length (n+1)/\af tm 5=aa n/\af tm 6=uc q/\af tm 17=uc c/\y.length=n+1/\lo 18446744073709551616 y/\c<=1/\
    bv 18446744073709551616 y+18446744073709551616^n*c=bv 18446744073709551616 y0+bv 18446744073709551616 vs) ?_
 rintro k s ⟨i,c,y,rfl,hk,ly,gy,hc,aQ⟩;by_cases hi:i<n
 ·left
  have ej:(0:Nat)<18446744073709551616:=by decide
  have qU:=gP ej gv i;have pO:=gP ej gy i;have ev:=hw.bk (i:=i) (by omega);have ey:=zB (l:=pre++y++post) (o:=pre.length+i) (by rw [oI];omega);rw [Cw (by omega)] at ey;have eF:=jv (b:=18446744073709551616) (l:=vs) i;obtain ⟨a,ha⟩:∃a,a=vs.getD i 0:=⟨_,rfl⟩;obtain ⟨d,hd⟩:∃d,d=y.getD i 0:=⟨_,rfl⟩;rw [<-ha] at qU ev eF;rw [<-hd] at pO ey;have f1:=CN (P:=P) (f:=D P L) gT pO qU hc;have aW:=nG (b:=18446744073709551616) (l:=y) (i:=i) (x:=(d+a+c)%18446744073709551616) (by omega);rw [<-hd] at aW;have jl:=LZ (18446744073709551616^i) 18446744073709551616 (d+a+c);have ma:(d+a+c)/18446744073709551616<=1:=by omega
  have F6:(d+a+c)%18446744073709551616<18446744073709551616:=xy _ ej;generalize (d+a+c)%18446744073709551616=z at*
  generalize (d+a+c)/18446744073709551616=c' at*
  have aX:=fun (hp:Hp) (ct:Nat)=>kI (hp:=hp) (ct:=ct) (id:=0) (v:=z) (ex:=true) (l:=pre++y++post) (o:=pre.length+i) (by rw [oI];omega)
  have nP:=MQ (pre:=pre) (x:=y) (post:=post) (i:=i) z (by omega);simp only [go_sem,ya,yh,IF,H2,show (i:Int)<(n:Int) by omega,ev,f1,dj 0 pre.length (show i<n+1 by omega),ey,aX,nP];refine ⟨_,k-1,rfl,by omega,i+1,c',y.set i z,?_,by omega,by simp [ly],mr gy F6,ma,?_⟩
  ·rw [qc (by simp only [go_sem,ya,yt,mv,mW,ml,mj,mg hw.pu,wi]) (by simp only [go_sem,ya,yb,yt,aJ hw.pu])];rw [wrap64 (by omega) (by omega)];simp only [go_sem,ya]<;>rfl
  ·rw [eF,xg];rw [xt,xt] at jl;generalize 18446744073709551616^i*18446744073709551616*c'=p1 at*
   generalize 18446744073709551616^i*z=p2 at*
   generalize 18446744073709551616^i*d=p3 at*
   generalize 18446744073709551616^i*a=p4 at*
   generalize 18446744073709551616^i*c=p5 at*
   omega
 ·right
  have:i=n:=by omega
  subst this;rw [yM (by omega)] at aQ;simp only [go_sem,ya,IF,H2,show ¬(i:Int)<(i:Int) by omega];exact ⟨_,_,rfl,by simp,_,c,y,rfl,rfl,by simp only [go_sem,ya],by simp only [go_sem,ya],by simp only [go_sem,ya],by simp only [go_sem,ya],ly,gy,hc,aQ⟩
end
end
section
open Go (IntKind)
def step_end {A V q Y B bo:Nat} (hV:0<V) (h:Y+q*V=A+B*bo) (h1:A/V<=q) (h2:q<=A/V+1) (hY:Y<B) (hVB:V<=B) (jn:bo<=1):
  (bo=0->q=A/V/\Y=A%V)/\(bo=1->q=A/V+1/\Y+V=B+A%V):=by
 have eO:=wq A V;have hm:=xy A hV;generalize A/V=Q at*
 generalize A%V=R at*
 rw [xE] at eO;have hq:q=Q\/q=Q+1:=by omega
 constructor
 ·rintro rfl;rw [xF,yX] at h;rcases hq with rfl | rfl
  ·exact ⟨rfl,by omega⟩
  ·rw [wj,tz] at h;omega
 ·rintro rfl;rw [yh] at h;rcases hq with rfl | rfl
  ·omega
  ·rw [wj,tz] at h;exact ⟨rfl,by omega⟩
section
variable {P:aG} {L:Lib}
structure Wd (P:aG) (L:Lib):Prop where
 mJ:L.pure 143=some rq
 gT:L.pure 171=some nE
 rQ:L.pure 173=some A4
 JZ:L.pure 167=some EZ
 afU:Has P L 165 Ju
 mI:Has P L 166 Bs
 afV:Has P L 168 Of
 avJ:Has P L 169 rK
 afW:Has P L 158 Fj
 avK:Has P L 157 Jt
 afX:Has P L 159 Oe
 avL:Has P L 144 Ob
 Uy:Has P L 137 Js
def ax:VC->VC
 | .seq _ b=>b
 | c=>c
def asv (h:Wd P L) {w:AV} {x vs pre post qs:List Nat} (hw:bJ w vs) {n v1 v2 u0 u1 u2:Nat} (hl:gI x vs n v1 v2 u0 u1 u2) {q:Nat} (hq:q<18446744073709551616) (eN:bv 18446744073709551616 x/bv 18446744073709551616 vs<=q) (lF:q<=bv 18446744073709551616 x/bv 18446744073709551616 vs+1):
  ∃tm x',D P L (ax (ax (ax (ax (ax (ax rK.body)))))) ⟨[(0,.an 0 pre.length (n+1)),(1,w),(5,aa n),(6,uc q)],H2 qs (pre++x++post),2,2⟩=some (.ret,⟨tm,H2 qs (pre++x'++post),2,2⟩)/\af tm 4=uc (bv 18446744073709551616 x/bv 18446744073709551616 vs)/\x'.length=n+1/\lo 18446744073709551616 x'/\bv 18446744073709551616 x'=bv 18446744073709551616 x%bv 18446744073709551616 vs:=by
 have eH:=hl.n2;have pI:=hl.nb;have ej:(0:Nat)<18446744073709551616:=by decide
 have hV:0<bv 18446744073709551616 vs:=by
  rcases xo (bv 18446744073709551616 vs) with h0 | h0
  ·have:=hl.lt;rw [h0] at this;simp at this
  ·exact h0
 have sI:below 2 w:=mg hw.pu;have K2:=mz hl.gv;rw [hl.lv] at K2;have aAY:18446744073709551616^n<=18446744073709551616^(n+1):=Nat.pow_le_pow_right (by decide) (by omega);have aAZ:ax (ax (ax (ax (ax (ax rK.body)))))=ax (ax (ax (ax (ax (ax rK.body))))):=rfl;simp only [go_sem,ya,rK,ax,H2];generalize mQ:D P L (.loop [0,1,5,6,11,12,104,105] IE) _=qq;obtain ⟨ex,s,rfl,tm,c,bo,y,rfl,rfl,t0,t1,t5,t6,t11,t12,ly,gy,hc,jn,aQ⟩:=bP mQ (ast (P:=P) (L:=L) h.mJ h.gT h.rQ hw pI hl.lv hl.gv hq (x:=x) (pre:=pre) (post:=post) (qs:=qs) n) ⟨0,0,0,x,by
  rw [qc (by simp only [go_sem,ya,yt,mv,mW,ml,mj,sI,wi]) (by simp only [go_sem,ya,yb,yt,aJ hw.pu])]
  simp only [go_sem,ya]<;>rfl,by omega,hl.lx,hl.gx,ej,by omega,by simp [bv]⟩
 have WC:=gP ej gy n;have ey:=zB (l:=pre++y++post) (o:=pre.length+n) (by rw [oI];omega);rw [Cw (by omega)] at ey;obtain ⟨d,hd⟩:∃d,d=y.getD n 0:=⟨_,rfl⟩;rw [<-hd] at WC ey;have f3:=SO (P:=P) (f:=D P L) h.rQ WC hc jn;have gF:=RZ WC hc jn;obtain ⟨z,hz⟩:∃t,t=(d+18446744073709551616*2-c-bo)%18446744073709551616:=⟨_,rfl⟩;obtain ⟨b',cY⟩:∃t,t=(if c+bo<=d then 0 else 1):=⟨_,rfl⟩;have ff:b'<=1:=by rw [cY];split<;>omega
 have F6:z<18446744073709551616:=by rw [hz];exact xy _ ej
 rw [<-hz,<-cY] at f3 gF;have aW:=nG (b:=18446744073709551616) (l:=y) (i:=n) (x:=z) (by omega);rw [<-hd] at aW;have aX:=fun (hp:Hp) (ct:Nat)=>kI (hp:=hp) (ct:=ct) (id:=0) (v:=z) (ex:=true) (l:=pre++y++post) (o:=pre.length+n) (by rw [oI];omega)
 have nP:=MQ (pre:=pre) (x:=y) (post:=post) (i:=n) z (by omega);have DH:lo 18446744073709551616 (y.set n z):=mr gy F6;have BZ:(y.set n z).length=n+1:=by simp [ly]
 have hY:=mz DH;rw [BZ] at hY;have avM:bv 18446744073709551616 (y.set n z)+q*bv 18446744073709551616 vs=bv 18446744073709551616 x+18446744073709551616^(n+1)*b':=by
  have e2:=congrArg (fun t=>18446744073709551616^n*t) gF;rw [xg,xk];simp only [xt] at e2 aQ;generalize 18446744073709551616^n*(18446744073709551616*b')=p1 at*
  generalize 18446744073709551616^n*z=p2 at*
  generalize 18446744073709551616^n*d=p3 at*
  generalize 18446744073709551616^n*c=p4 at*
  generalize 18446744073709551616^n*bo=p5 at*
  omega
 obtain ⟨s0,s1⟩:=step_end hV avM eN lF hY (by omega) ff;simp only [go_sem,ya,yb,yt,yh,qc,mv,mW,ml,mj,sI,wi,aJ hw.pu,t0,t1,t5,t6,t11,t12,dj 0 pre.length (show n<n+1 by omega),ey,f3,aX,nP];by_cases mb:b'=0
 ·obtain ⟨e1,e2⟩:=s0 mb;simp only [go_sem,ya,show (b':Int)=0 by omega];exact ⟨_,y.set n z,rfl,by rw [<-e1];simp only [go_sem],BZ,DH,e2⟩
 ·obtain ⟨e1,e2⟩:=s1 (by omega);simp only [go_sem,ya,show ¬(b':Int)=0 by omega];generalize Dh:D P L (.loop [0,1,5,6,17,156,157] IF) _=WA;obtain ⟨ex,s,rfl,jh,c2,y2,rfl,rfl,t0,t5,t6,t17,WD,P5,pG,auq⟩:=bP Dh (asu (P:=P) (L:=L) h.gT hw pI hl.lv hl.gv (y0:=y.set n z) (pre:=pre) (post:=post) (qs:=qs) (q:=q) n) ⟨0,0,y.set n z,by
   rw [qc (by simp only [go_sem,ya,yt,mv,mW,ml,mj,sI,wi]) (by simp only [go_sem,ya,yb,yt,aJ hw.pu])]
   simp only [go_sem,ya]<;>rfl,by omega,BZ,DH,by omega,by simp [bv]⟩
  have avN:=gP ej P5 n;have WE:=zB (l:=pre++y2++post) (o:=pre.length+n) (by rw [oI];omega);rw [Cw (by omega)] at WE;obtain ⟨d2,dU⟩:∃d,d=y2.getD n 0:=⟨_,rfl⟩;rw [<-dU] at avN WE;have f4:=Bj d2 c2;have NH:=nG (b:=18446744073709551616) (l:=y2) (i:=n) (x:=(d2+c2)%18446744073709551616) (by omega);rw [<-dU] at NH;have jl:=LZ (18446744073709551616^n) 18446744073709551616 (d2+c2);have avO:(d2+c2)%18446744073709551616<18446744073709551616:=xy _ ej;have hc3:(d2+c2)/18446744073709551616<=1:=by omega
  generalize (d2+c2)%18446744073709551616=z2 at*
  generalize (d2+c2)/18446744073709551616=c3 at*
  have OM:=fun (hp:Hp) (ct:Nat)=>kI (hp:=hp) (ct:=ct) (id:=0) (v:=z2) (ex:=true) (l:=pre++y2++post) (o:=pre.length+n) (by rw [oI];omega)
  have NI:=MQ (pre:=pre) (x:=y2) (post:=post) (i:=n) z2 (by omega);have P6:lo 18446744073709551616 (y2.set n z2):=mr P5 avO;have K3:(y2.set n z2).length=n+1:=by simp [WD]
  have hY3:=mz P6;rw [K3] at hY3;have Aq:0<q:=by rw [e1];exact Nat.succ_pos _
  have WG:bv 18446744073709551616 x/bv 18446744073709551616 vs=q-1:=by rw [e1,uN]
  have f5:binOp .sub (uc q) (.int .u64 1)=some (uc (q-1)):=Dg (b:=1) (by omega) (by omega);simp only [go_sem,ya,yb,yt,yh,qc,mv,mW,ml,mj,wi,t0,t5,t6,t17,dj 0 pre.length (show n<n+1 by omega),WE,f4,OM,NI,f5];refine ⟨_,y2.set n z2,rfl,by rw [WG];simp only [go_sem],K3,P6,?_⟩;have hm:=xy (bv 18446744073709551616 x) hV;have e3:bv 18446744073709551616 (y2.set n z2)+18446744073709551616^(n+1)*c3=18446744073709551616^(n+1)+bv 18446744073709551616 x%bv 18446744073709551616 vs:=by
   rw [<-e2,<-auq,xg];rw [xt] at jl;generalize 18446744073709551616^n*18446744073709551616*c3=p1 at*
   generalize 18446744073709551616^n*z2=p2 at*
   generalize 18446744073709551616^n*d2=p3 at*
   generalize 18446744073709551616^n*c2=p4 at*
   omega
  rcases (show c3=0\/c3=1 by omega) with rfl | rfl
  ·omega
  ·omega
def avP (h:Wd P L) {w:AV} {x vs pre post qs:List Nat} (hw:bJ w vs) {n v1 v2 u0 u1 u2:Nat} (hl:gI x vs n v1 v2 u0 u1 u2):
  ∃x',iH P L (D P L) (H2 qs (pre++x++post)) 2 169 [.an 0 pre.length (n+1),w]=some (uc (bv 18446744073709551616 x/bv 18446744073709551616 vs),H2 qs (pre++x'++post),2)/\x'.length=n+1/\lo 18446744073709551616 x'/\bv 18446744073709551616 x'=bv 18446744073709551616 x%bv 18446744073709551616 vs:=by
 have eH:=hl.n2;have pI:=hl.nb;have sI:below 2 w:=mg hw.pu;have pN:(n:Int)-1=((n-1:Nat):Int):=by omega
 have fh:=hw.bk (i:=n-1) (by have:=hl.lv;omega);rw [hl.eG] at fh;have B0:=zB (l:=pre++x++post) (o:=pre.length+n) (by rw [oI];have:=hl.lx;omega)
 rw [Cw (by have:=hl.lx;omega),hl.h0] at B0;have B1:=zB (l:=pre++x++post) (o:=pre.length+(n-1)) (by rw [oI];have:=hl.lx;omega)
 rw [Cw (by have:=hl.lx;omega),hl.h1] at B1;have Fy:=hl.KZ;have ON:=hl.K0;have nQ:=hl.top;have je:∃tm x',D P L rK.body ⟨fG 0 [.an 0 pre.length (n+1),w],H2 qs (pre++x++post),2,2⟩=some (.ret,⟨tm,H2 qs (pre++x'++post),2,2⟩)/\af tm 4=uc (bv 18446744073709551616 x/bv 18446744073709551616 vs)/\x'.length=n+1/\lo 18446744073709551616 x'/\bv 18446744073709551616 x'=bv 18446744073709551616 x%bv 18446744073709551616 vs:=by
  have behind:∀(iQ:Env) (q:Nat),af iQ 0= .an 0 pre.length (n+1)->af iQ 1=w->af iQ 5=aa n->af iQ 6=uc q->q<18446744073709551616->bv 18446744073709551616 x/bv 18446744073709551616 vs<=q->q<=bv 18446744073709551616 x/bv 18446744073709551616 vs+1->
    ∃tm x',mA P L (mA P L (zx 0 (some (Ex.exit 0,⟨iQ,H2 qs (pre++x++post),2,2⟩))) (.kp [0,1,5,6])) (ax (ax (ax (ax (ax (ax rK.body))))))=some (.ret,⟨tm,H2 qs (pre++x'++post),2,2⟩)/\af tm 4=uc (bv 18446744073709551616 x/bv 18446744073709551616 vs)/\x'.length=n+1/\lo 18446744073709551616 x'/\bv 18446744073709551616 x'=bv 18446744073709551616 x%bv 18446744073709551616 vs:=by
   intro iQ q t0 t1 t5 t6 g1 g2 g3;have hk:df iQ [0,1,5,6]=[(0,.an 0 pre.length (n+1)),(1,w),(5,aa n),(6,uc q)]:=by simp only [go_sem,t0,t1,t5,t6]
   rw [Ij,fu,JQ,qc (by rw [hk];simp only [go_sem,yt,mv,mW,ml,mj,sI,wi]) (by rw [hk];simp only [go_sem,yb,yt,aJ hw.pu]),fu,hk];exact asv h hw hl g1 g2 g3
  by_cases hc:u0<v1
  ·have f1:=afP h.afU h.JZ (P:=P) (L:=L) hc ON Fy;have eO:=wq (u0*18446744073709551616+u1) v1;have pc:=xy (u0*18446744073709551616+u1) hl.pos;have ol:(u0*18446744073709551616+u1)/v1<18446744073709551616:=by
    refine (wz hl.pos).2 ?_
    have:=yW 18446744073709551616 (show u0+1<=v1 from hc)
    rw [xE 18446744073709551616 v1];omega
   have Na:=hl.first;rw [xE] at eO;generalize (u0*18446744073709551616+u1)/v1=q0 at*
   generalize (u0*18446744073709551616+u1)%v1=r0 at*
   unfold ae at f1
   simp only [go_sem,ya,yh,rK,H2,hw.len,hl.lv,pN,wrapN (n:=n-1) (by omega),fh,dj 0 pre.length (show n<n+1 by omega),dj 0 pre.length (show n-1<n+1 by omega),B0,B1,show ¬(v1:Int)<=(u0:Int) by omega,f1];generalize mQ:D P L (.loop [0,1,5,6,7,8] zh) _=qq;obtain ⟨ex,s,rfl,iQ,q,rfl,rfl,t0,t1,t5,t6,g1,g2,g3⟩:=bP mQ (adD (P:=P) (L:=L) h.mJ h.gT hw hl (pre:=pre) (post:=post) (qs:=qs) q0) ⟨q0,r0,by
    rw [qc (by simp only [go_sem,ya,yt,mv,mW,ml,mj,sI,wi]) (by simp only [go_sem,ya,yb,yt,aJ hw.pu])];rw [yP (show r0<18446744073709551616 by omega),wH (show r0<18446744073709551616 by omega)]
    simp only [go_sem,ya]<;>rfl,eO,by omega,ol,Na,rfl⟩
   exact behind iQ q t0 t1 t5 t6 g1 g2 g3
  ·have fZ:u0=v1:=by omega
   have f1:=CN (P:=P) (f:=D P L) h.gT ON Fy (c:=0) (by omega);rw [yX,show (uc 0)=AV.int .u64 0 from rfl] at f1;have OO:=hl.digit
   simp only [go_sem,ya,yh,rK,H2,hw.len,hl.lv,pN,wrapN (n:=n-1) (by omega),fh,dj 0 pre.length (show n<n+1 by omega),dj 0 pre.length (show n-1<n+1 by omega),B0,B1,show (v1:Int)<=(u0:Int) by omega,f1];generalize mQ:D P L (.loop [0,1,5,6,7,8] zh) _=qq;obtain ⟨ex,s,rfl,iQ,q,rfl,rfl,t0,t1,t5,t6,g1,g2,g3⟩:=bP mQ (adD (P:=P) (L:=L) h.mJ h.gT hw hl (pre:=pre) (post:=post) (qs:=qs) 18446744073709551615) ⟨18446744073709551615,u1+v1,by
    rw [qc (by simp only [go_sem,ya,yt,mv,mW,ml,mj,sI,wi]) (by simp only [go_sem,ya,yb,yt,aJ hw.pu])]
    simp only [go_sem,ya]<;>rfl,by rw [fZ];omega,by omega,by decide,by omega,rfl⟩
   exact behind iQ q t0 t1 t5 t6 g1 g2 g3
 obtain ⟨tm,x',g1,g2,g3,g4,g5⟩:=je;refine ⟨x',?_,g3,g4,g5⟩;exact Er h.avJ g1 (.inr rfl) (by show gN _ [RV.t 4]=_;rw [Fv,E2,g2])
end
end
end VE
