import Derived.Test.YtflgmingejdfnaaGreatDoorUap
import Derived.Test.YtflgmingejdfnaaGreatDoorUak
import Derived.Test.YtflgmingejdfnaaGreatDoorUar
set_option linter.all false
set_option maxRecDepth 100000
open Bool renaming and_eq_true→yg,false_eq_true→yA
open List renaming append_assoc→xo,append_nil→wg,cons_append→yW,filter_append→yam,filter_cons→yaN,filter_eq_nil_iff→uh,length_cons→yy,length_map→xm,length_nil→yG,length_range→yaz,length_reverse→yaf,length_take→yS,map_append→xt,mem_append→wG,mem_singleton→ve,nil_append→xN,range→xg,range'→xC,range'_succ→vP,range_succ→tF,replicate→yz,replicate_succ→wb,reverse_cons→yay,take_of_length_le→yK
open Nat renaming add_mul→wZ,add_sub_cancel→th,add_zero→yZ,beq→yx,blt→yJ,div_add_mod→wC,div_eq_of_lt→wR,div_lt_iff_lt_mul→wH,eq_zero_or_pos→xu,le_refl→yB,lt_of_lt_of_le→yL,min_eq_left→xY,mod_eq_of_lt→yP,mod_lt→xD,mul_add→xH,mul_assoc→xn,mul_comm→xQ,mul_le_mul_right→y5,mul_one→yi,mul_zero→xO,pow_succ→xj,pow_zero→ybU,reduceAdd→yb,reduceEqDiff→ya,reduceLT→yt,reduceMul→xK,two_pow_pos→wS,zero_add→yd
namespace VE
section
open Go (IntKind)
mutual
def below (n:Nat):AV->Prop
 | .ptr id _=>id<n
 | .ak id _ _=>id<n
 | .map id=>id<n
 | .it id=>id<n
 | .fn (.f _) first cap=>kZ n first/\kZ n cap
 | .fn (.y l) first cap=>l<n/\first=[]/\cap=[]
 | .agg cs=>kZ n cs
 | .aw cs=>kZ n cs
 | _=>True
def kZ (n:Nat):List AV->Prop
 | []=>True
 | v::r=>below n v/\kZ n r
end
def kA (n:Nat):Env->Prop
 | []=>True
 | (_,v)::r=>below n v/\kA n r
def nV (n:Nat):Obj->Prop
 | .cells _ pu _ _ cs=>pu=true\/kZ n cs
 | .mp _ ks vs=>kZ n ks/\kZ n vs
 | .si _ _=>True
 | .lp tm _ _ _ _ _=>kA n tm
def jP (b n:Nat):Hp->Prop
 | []=>True
 | (id,o)::r=>id<b/\nV n o/\jP b n r
mutual
def abp {f:Nat->Option Nat} {n:Nat} (hf:∀x,x<n->f x=some x):∀{v:AV},below n v->cE f v=v
 | .int _ _,_ | .bool _,_ | .dP _ _,_ | .str _,_ | .lm,_ | .bi _,_ | .ae,_ | .aO _ _ _,_ | .iH,_ | .kF,_ | .jS _ _,_ | .undef,_ | .cR _ _ _ _,_=>rfl
 | .ptr id o,h=>by simp only [cE,hf id h]
 | .ak id o k,h=>by simp only [cE,hf id h]
 | .map id,h=>by simp only [cE,hf id h]
 | .it id,h=>by simp only [cE,hf id h]
 | .fn (.y l) first cap,h=>by
  obtain ⟨h1,rfl,rfl⟩:=h;simp only [cE,hf l h1,gm]
 | .fn (.f _) first cap,h=>by
  simp only [cE,BN hf h.1,BN hf h.2]
 | .agg cs,h=>by simp only [below] at h;simp only [cE,BN hf h]
 | .aw cs,h=>by simp only [below] at h;simp only [cE,BN hf h]
def BN {f:Nat->Option Nat} {n:Nat} (hf:∀x,x<n->f x=some x):∀{vs:List AV},kZ n vs->gm f vs=vs
 | [],_=>rfl
 | v::r,h=>by simp only [gm,abp hf h.1,BN hf h.2]
end
def Sj {f:Nat->Option Nat} {n:Nat} (hf:∀x,x<n->f x=some x):∀{tm:Env},kA n tm->ma f tm=tm
 | [],_=>rfl
 | (_,v)::r,h=>by simp only [ma,abp hf h.1,Sj hf h.2]
def alK {f:Nat->Option Nat} {n:Nat} (hf:∀x,x<n->f x=some x):∀{o:Obj},nV n o->mE f o=o
 | .cells _ pu _ _ cs,h=>by
  cases pu with
  | true=>rfl
  | false=>simp only [nV,yA,ybL] at h;simp only [mE,yD,BN hf h]
 | .mp _ ks vs,h=>by simp only [mE,BN hf h.1,BN hf h.2]
 | .si _ _,_=>rfl
 | .lp tm _ _ _ _ _,h=>by simp only [nV] at h;simp only [mE,Sj hf h]
mutual
def aaz {n:Nat}:∀{v:AV},below n v->∀x,x∈refs v->x<n
 | .int _ _,_,x,h | .bool _,_,x,h | .dP _ _,_,x,h | .str _,_,x,h | .lm,_,x,h | .bi _,_,x,h | .ae,_,x,h | .aO _ _ _,_,x,h | .iH,_,x,h | .kF,_,x,h | .jS _ _,_,x,h | .undef,_,x,h | .cR _ _ _ _,_,x,h=>by simp [refs] at h
 | .ptr id o,h,x,hx=>by simp only [refs,ve] at hx;subst hx;exact h
 | .ak id o k,h,x,hx=>by simp only [refs,ve] at hx;subst hx;exact h
 | .map id,h,x,hx=>by simp only [refs,ve] at hx;subst hx;exact h
 | .it id,h,x,hx=>by simp only [refs,ve] at hx;subst hx;exact h
 | .fn (.y l) first cap,h,x,hx=>by simp only [refs,ve] at hx;subst hx;exact h.1
 | .fn (.f _) first cap,h,x,hx=>by
  simp only [refs,wG] at hx;exact hx.elim (BJ h.1 x) (BJ h.2 x)
 | .agg cs,h,x,hx=>by simp only [below] at h;simp only [refs] at hx;exact BJ h x hx
 | .aw cs,h,x,hx=>by simp only [below] at h;simp only [refs] at hx;exact BJ h x hx
def BJ {n:Nat}:∀{vs:List AV},kZ n vs->∀x,x∈eV vs->x<n
 | [],_,x,h=>by simp [eV] at h
 | v::r,h,x,hx=>by
  simp only [eV,wG] at hx;exact hx.elim (aaz h.1 x) (BJ h.2 x)
end
def MY {n:Nat}:∀{tm:Env},kA n tm->∀x,x∈fo tm->x<n
 | [],_,x,h=>by simp [fo] at h
 | (_,v)::r,h,x,hx=>by
  simp only [fo,wG] at hx;exact hx.elim (aaz h.1 x) (MY h.2 x)
def R2 {n:Nat}:∀{o:Obj},nV n o->∀x,x∈fA o->x<n
 | .cells _ pu _ _ cs,h,x,hx=>by
  cases pu with
  | true=>simp [fA] at hx
  | false=>simp only [nV,yA,ybL] at h;exact BJ h x hx
 | .mp _ ks vs,h,x,hx=>by
  simp only [fA,wG] at hx;exact hx.elim (BJ h.1 x) (BJ h.2 x)
 | .si _ _,_,x,hx=>by simp [fA] at hx
 | .lp tm _ _ _ _ _,h,x,hx=>by simp only [nV] at h;exact MY h x hx
def bJ (B:Nat):List (List AV)->Hp
 | []=>[]
 | cs::r=>(B+r.length,.cells true true true 1 cs)::bJ B r
def D8 (B:Nat):List (List AV)->Hp->Hp
 | [],acc=>acc
 | cs::r,acc=>D8 (B+1) r ((B,.cells true true true 1 cs)::acc)
def aaA:∀(l:List (List AV)) (B:Nat) (x:List AV) (acc:Hp),D8 B (l++[x]) acc=(B+l.length,.cells true true true 1 x)::D8 B l acc
 | [],B,x,acc=>rfl
 | c::l,B,x,acc=>by
  simp only [yW,D8,aaA l,yy]
  grind
def abq (B:Nat) (acc:Hp):∀rs:List (List AV),D8 B rs.reverse acc=bJ B rs++acc
 | []=>rfl
 | c::r=>by
  simp only [yay,aaA,abq B acc r,yaf,bJ,yW]
def SK {B:Nat} {old:Hp}:∀{rs:List (List AV)} {i:Nat} (h:i<rs.length),ap (bJ B rs++old) (B+i)=some (.cells true true true 1 (rs.reverse[i]'(by simpa using h)))
 | c::r,i,h=>by
  simp only [bJ,yW,yay];by_cases hi:i=r.length
  ·subst hi;rw [ap,Nat.beq_refl,ym]
   simp
  ·have bm:i<r.length:=by grind
   rw [ap,cP (by omega),yD,SK bm]
   grind
def sE {B:Nat} {old:Hp}:∀{rs:List (List AV)} {x:Nat},x<B->ap (bJ B rs++old) x=ap old x
 | [],x,_=>rfl
 | c::r,x,h=>by
  simp only [bJ,yW];rw [ap,cP (by omega),yD,sE h]
def RR {B:Nat} {old:Hp} {o:Obj}:∀{rs:List (List AV)} {x:Nat},x<B->bf (bJ B rs++old) x o=bJ B rs++bf old x o
 | [],x,_=>rfl
 | c::r,x,h=>by
  simp only [bJ,yW];rw [bf,cP (by omega),yD,RR h]
def Zr {B:Nat} {old:Hp}:∀{rs:List (List AV)} {x:Nat},x<B->dL (bJ B rs++old) x=bJ B rs++dL old x
 | [],x,_=>rfl
 | c::r,x,h=>by
  simp only [bJ,yW];rw [dL,cP (by omega),yD,Zr h]
def gJ {a b:Nat} (h:a<b):yJ a b=true:=by simp_all
def Gg {a b:Nat} (h:b<=a):yJ a b=false:=by
 cases hq:yJ a b with
 | false=>rfl
 | true=>have:=Nat.le_of_ble_eq_true hq;omega
def RW {B:Nat} {old:Hp}:∀rs:List (List AV),dC B (bJ B rs++old)=dC B old
 | []=>rfl
 | c::r=>by
  simp only [bJ,yW];rw [dC,Gg (by omega),yD,RW r]
def aaB {B:Nat} {old:Hp} {f:Nat->Option Nat}:∀rs:List (List AV),nj B f (bJ B rs++old)=nj B f old
 | []=>rfl
 | c::r=>by
  simp only [bJ,yW];rw [nj,Gg (by omega),yD,aaB r]
def ZX {B n:Nat} {f:Nat->Option Nat} (hf:∀x,x<n->f x=some x):∀{old:Hp},jP B n old->nj B f old=old
 | [],_=>rfl
 | (id,o)::r,h=>by
  rw [nj,gJ h.1,ym,alK hf h.2.1,ZX hf h.2.2]
def alL {B s x:Nat} (h:B+s<=x):mF x (xC B s)=false:=by
 induction s generalizing B with
 | zero=>rfl
 | succ s ih=>rw [vP,mF,cP (by omega),yD,ih (by omega)]
def Sk {hp:Hp} {B R:Nat} (mf:∀i,i<R->∃rw ex sz cs,ap hp (B+i)=some (.cells rw true ex sz cs)):
  ∀(W:List Nat) (bF s:Nat),W.length<bF->s<=R->W.filter (fun x=> !yJ x B)=xC (B+s) (R-s)->reach hp B bF W (xC B s)=xC B R
 | [],0,s,hf,_,_=>by simp at hf
 | [],bF+1,s,hf,hs,h=>by
  have:R-s=0:=by
   grind
  rw [reach,show R=s by omega]
 | id::W,0,s,hf,_,_=>by simp at hf
 | id::W,bF+1,s,hf,hs,h=>by
  have nG:W.length<bF:=by simp_all
  rw [reach];by_cases hid:id<B
  ·rw [gJ hid,Bool.true_or,ym];rw [yaN,gJ hid] at h;exact Sk mf W bF s nG hs (by simpa using h)
  ·rw [yaN,Gg (by omega)] at h;have hRs:R-s=(R-s-1)+1:=by
    have:=congrArg List.length h
    grind
   rw [hRs,vP] at h;injection h with h1 h2
   subst h1;rw [Gg (by omega),Bool.false_or,alL (yB _),yD];obtain ⟨rw,ex,sz,cs,ho⟩:=mf s (by omega);simp only [ho,fA,ym,xN];have e:xC B s++[B+s]=xC B (s+1):=by rw [List.range'_concat];simp
   rw [e];exact Sk mf W bF (s+1) nG (by omega) (by rw [h2,show R-s-1=R-(s+1) by omega,show B+s+1=B+(s+1) by omega])
def alM {B s i k:Nat} (h:i<s):ns (B+i) (xC B s) k=some (k+i):=by
 induction s generalizing B i k with
 | zero=>omega
 | succ s ih=>
  rw [vP,ns];by_cases hi:i=0
  ·simp_all
  ·rw [cP (by omega),yD]
   have:=ih (B:=B+1) (i:=i-1) (k:=k+1) (by omega)
   grind
def akX {B R x:Nat} (h:x<B+R):lQ B (xC B R) x=some x:=by
 unfold lQ;by_cases hx:x<B
 ·rw [gJ hx,ym]
 ·rw [Gg (by omega),yD]
  have:=alM (B:=B) (s:=R) (i:=x-B) (k:=B) (by omega)
  grind
def aaC {hp:Hp} {f:Nat->Option Nat}:∀(ro:List (List AV)) (B:Nat) (acc:Hp),(∀i (h:i<ro.length),ap hp (B+i)=some (.cells true true true 1 ro[i]))->lR hp f (xC B ro.length) B acc=D8 B ro acc
 | [],B,acc,_=>rfl
 | c::r,B,acc,h=>by
  have h0:=h 0 (by simp);simp only [yZ,List.getElem_cons_zero] at h0;rw [yy,vP,lR];simp only [h0,mE,ym,D8]
  exact aaC r (B+1) _ (fun i hi=>by
   have:=h (i+1) (by simpa using hi)
   rw [show B+1+i=B+(i+1) by omega,this]
   simp)
def Zz {live:List Nat} {tm:Env} {B ct:Nat} {old:Hp} {rs:List (List AV)} (ht:kA B (dE tm live)) (ho:jP B (B+rs.length) old) (hl:(fo (dE tm live)).length+(dC B old).length<100000)
  (hr:(dC B old).filter (fun x=> !yJ x B)=xC B rs.length):bA live ⟨tm,bJ B rs++old,ct,B⟩=⟨dE tm live,bJ B rs++old,B+rs.length,B⟩:=by
 have mf:∀i (h:i<rs.length),ap (bJ B rs++old) (B+i)=some (.cells true true true 1 (rs.reverse[i]'(by simpa using h))):=fun i h=>SK h
 have agj:reach (bJ B rs++old) B 100000 (fo (dE tm live)++dC B (bJ B rs++old)) []=xC B rs.length:=by
  have:=Sk (hp:=bJ B rs++old) (B:=B) (R:=rs.length) (fun i hi=>⟨_,_,_,_,mf i hi⟩) (fo (dE tm live)++dC B (bJ B rs++old)) 100000 0 (by rw [RW,List.length_append];exact hl) (Nat.zero_le _) (by
   rw [yam,RW,hr,uh.2 (fun x hx=>by
    have:=MY ht x hx
    simp [gJ this])]
   simp)
  grind
 have hid:∀x,x<B+rs.length->lQ B (xC B rs.length) x=some x:=fun x hx=>akX hx
 have hn:=aaC (hp:=bJ B rs++old) (f:=lQ B (xC B rs.length)) rs.reverse B old (fun i hi=>mf i (by simpa using hi));rw [yaf] at hn;simp only [bA,agj,aaB,ZX hid ho,hn,abq,List.length_range']
 rw [Sj (n:=B) (fun x hx=>hid x (by omega)) ht]
def aaD {B b n:Nat} (hb:b<=B):∀{H:Hp},jP b n H->∀x,x∈dC B H->x<n
 | [],_,x,hx=>by simp [dC] at hx
 | (id,o)::r,h,x,hx=>by
  rw [dC,gJ (by have:=h.1;omega),ym,wG] at hx;exact hx.elim (R2 h.2.1 x) (aaD hb h.2.2 x)
def MZ {live:List Nat} {tm:Env} {B ct:Nat} {old:Hp} (ht:kA B (dE tm live)) (ho:jP B B old) (hl:(fo (dE tm live)).length+(dC B old).length<100000):
  bA live ⟨tm,old,ct,B⟩=⟨dE tm live,old,B,B⟩:=by
 have:=Zz (rs:=[]) (ct:=ct) ht (by simpa using ho) hl (by
  rw [uh.2 (fun x hx=>by have:=aaD (yB B) ho x hx;simp [gJ this])]
  rfl)
 simpa [bJ] using this
def Sl {b n:Nat}:∀{a c:Hp},jP b n a->jP b n c->jP b n (a++c)
 | [],_,_,h=>h
 | (_,_)::_,_,h,k=>⟨h.1,h.2.1,Sl h.2.2 k⟩
def R3 {B:Nat}:∀{a c:Hp},dC B (a++c)=dC B a++dC B c
 | [],_=>rfl
 | (id,o)::a,c=>by
  simp only [yW,dC,R3 (a:=a)]
  cases yJ id B with
  | true=>simp only [ym,xo]
  | false=>simp only [yD]
def ZY {B b n:Nat}:∀{rs:List (List AV)},B+rs.length<=b->jP b n (bJ B rs)
 | [],_=>trivial
 | c::r,h=>by
  simp only [yy] at h;exact ⟨by omega,.inl rfl,ZY (by omega)⟩
def Zs {B b:Nat}:∀{rs:List (List AV)},dC b (bJ B rs)=[]
 | []=>rfl
 | c::r=>by
  simp only [bJ,dC,fA,ym,xN,Zs]
  grind
end
section
open Go (IntKind)
section
variable {P:aI} {L:Lib}
def DI {n:Nat} {F:aJ} (h:Has P L n F) {hp:Hp} {ct:Nat} {vals:List AV} {ex:Ex} {s:St} {v:AV} (hD:D P L F.body ⟨fM 0 vals,hp,ct,ct⟩=some (ex,s)) (he:ex= .normal\/ex= .ret) (hr:gX s F.dM=some v):
  iS P L (D P L) hp ct n vals=some (v,s.hp,s.ct):=by
 simp only [iS,h.heap,h.code,hD]
 grind
def Tn {hp:Hp} {ct l:Nat} {xs:List AV} {tm tm' iL oZ:Env} {ps zF CQ:List Nat} {a b a1 b1 a2 b2:VC} {pe qJ pe2:zg} {s1 s2:St}
  (h1:ap hp l=some (.lp tm ps a b 0 pe)) (h2:rB tm ps xs=some tm') (h3:D P L a ⟨tm',hp,ct,ct⟩=some (.normal,s1)) (h4:ap s1.hp l=some (.lp iL zF a1 b1 0 qJ))
  (h5:D P L b ⟨s1.tm,bf s1.hp l (.lp iL zF a1 b1 1 qJ),s1.ct,s1.ct⟩=some (.normal,s2)) (h6:ap s2.hp l=some (.lp oZ CQ a2 b2 1 pe2)):
  jq (D P L) hp ct l xs=some (.bool true,bf s2.hp l (.lp oZ CQ a2 b2 0 .none),s2.ct):=by
 simp only [jq,h1,h2,h3,h4,h5,h6]
def Va {f:X} {ps:List Nat} {as_ body:VC} {s:St} {n:Nat} {first cap:List AV} {v:AV} {hp:Hp} {ct:Nat} {tm:Env} {ps':List Nat} {a b:VC} {st:Nat}
  (h1:aC s.tm f= .fn (.f n) first cap) (h2:L.heap n=none) (h3:iS P L (D P L) ((s.ct,.lp s.tm ps as_ body 0 .none)::s.hp) (s.ct+1) n (first++(.fn (.y s.ct) [] []::cap))=some (v,hp,ct))
  (h4:ap hp s.ct=some (.lp tm ps' a b st .none)) (h5:st≠1):D P L (.rf f ps as_ body) s=some (.normal,⟨s.tm,dL hp s.ct,ct,s.base⟩):=by
 rw [mc];simp only [bL,h1,h2,h3,h4,cP h5,yD]
def gC (B n R:Nat):List AV:=(xg R).map (fun i=> .ak (B+i) 0 n)++yz (n-R) .ae
def mg (zero:AV) (val:Nat->Nat->AV) (n r c:Nat):List AV:=(xg c).map (fun c=>val c r)++yz (n-c) zero
def fp (val:Nat->Nat->AV) (n:Nat):Nat->List (List AV)
 | 0=>[]
 | r+1=>((xg n).map fun c=>val c r)::fp val n r
def BQ (val:Nat->Nat->AV) (n:Nat):∀r,(fp val n r).length=r
 | 0=>rfl
 | r+1=>by rw [fp,yy,BQ val n r]
def apx {B n R:Nat} (h:R<=n):(gC B n R).length=n:=by simp [gC];omega
def apy {zero:AV} {val:Nat->Nat->AV} {n r c:Nat} (h:c<=n):(mg zero val n r c).length=n:=by simp [mg];omega
def acr {l:List AV} {k:Nat} {v z:AV}:over l.length [v] (l++yz (k+1) z)=l++[v]++yz k z:=by
 simp only [over,List.take_left',yy,yG,yd,wb]
 simp_all
def anj {B n R:Nat} (h:R<n):over R [.ak (B+R) 0 n] (gC B n R)=gC B n (R+1):=by
 have:=acr (l:=(xg R).map (fun i=>AV.ak (B+i) 0 n)) (k:=n-R-1) (v:= .ak (B+R) 0 n) (z:= .ae)
 simp only [xm,yaz] at this;rw [show n-R-1+1=n-R by omega] at this;rw [gC,this,gC,tF,xt];rfl
def abr {zero:AV} {val:Nat->Nat->AV} {n r c:Nat} (h:c<n):over c [val c r] (mg zero val n r c)=mg zero val n r (c+1):=by
 have:=acr (l:=(xg c).map (fun c=>val c r)) (k:=n-c-1) (v:=val c r) (z:=zero)
 simp only [xm,yaz] at this;rw [show n-c-1+1=n-c by omega] at this;rw [mg,this,mg,tF,xt];rfl
def ank {zero:AV} {val:Nat->Nat->AV} {n r:Nat}:mg zero val n r n=(xg n).map fun c=>val c r:=by simp [mg]
def anl {zero:AV} {val:Nat->Nat->AV} {n r:Nat}:mg zero val n r 0=yz n zero:=by simp [mg]
def To (z:AV):∀n,(yz n [z]).flatten=yz n z
 | 0=>rfl
 | n+1=>by rw [wb,List.flatten_cons,To z n,wb];rfl
def ie (b n:Nat) (fnv:AV):Env:=[(11,.fn (.f 133) [] [.bi [.int .i64 n]]),(10,.int .i64 n),(5,.ptr (b+3) 0),(9,.ak (b+2) 0 n),(8,.int .i64 n),(4,.ae),(3,.ptr (b+1) 0),(2,.ptr b 0),(0,.int .i64 n),(1,fnv)]
def cJ (b n R:Nat) (fnv:AV) (st:Nat) (H:Hp):Hp:=
 (b+4,.lp (ie b n fnv) [12,13] AJ rC st .none)::(b+3,.cells true false true 1 [.ak (b+2) 0 n])::(b+2,.cells true (yx R 0) true 1 (gC (b+5) n R))::(b+1,.cells true (aS fnv) true 1 [fnv])::(b,.cells true true true 1 [.int .i64 n])::H
def Zt {B b n:Nat} (hb:b<=B):∀{H:Hp},jP b n H->∀x,x∈dC B H->x<n
 | [],_,x,hx=>by simp [dC] at hx
 | (id,o)::r,h,x,hx=>by
  rw [dC,gJ (by have:=h.1;omega),ym,wG] at hx;exact hx.elim (R2 h.2.1 x) (Zt hb h.2.2 x)
def ZZ {b b' n n':Nat} (hb:b<=b') (hn:∀o,nV n o->nV n' o):∀{H:Hp},jP b n H->jP b' n' H
 | [],_=>trivial
 | (id,o)::r,h=>⟨yL h.1 hb,hn o h.2.1,ZZ hb hn h.2.2⟩
mutual
def Ft {n n':Nat} (h:n<=n'):∀{v:AV},below n v->below n' v
 | .int _ _,_ | .bool _,_ | .dP _ _,_ | .str _,_ | .lm,_ | .bi _,_ | .ae,_ | .aO _ _ _,_ | .iH,_ | .kF,_ | .jS _ _,_ | .undef,_ | .cR _ _ _ _,_=>trivial
 | .ptr _ _,k=>yL k h
 | .ak _ _ _,k=>yL k h
 | .map _,k=>yL k h
 | .it _,k=>yL k h
 | .fn (.f _) _ _,k=>⟨BK h k.1,BK h k.2⟩
 | .fn (.y _) _ _,k=>⟨yL k.1 h,k.2⟩
 | .agg cs,k=>by simp only [below] at k ⊢;exact BK h k
 | .aw cs,k=>by simp only [below] at k ⊢;exact BK h k
def BK {n n':Nat} (h:n<=n'):∀{vs:List AV},kZ n vs->kZ n' vs
 | [],_=>trivial
 | _::_,k=>⟨Ft h k.1,BK h k.2⟩
end
def M0 {n n':Nat} (h:n<=n'):∀{tm:Env},kA n tm->kA n' tm
 | [],_=>trivial
 | (_,_)::_,k=>⟨Ft h k.1,M0 h k.2⟩
def akY {n n':Nat} (h:n<=n'):∀{o:Obj},nV n o->nV n' o
 | .cells _ pu _ _ cs,k=>k.imp id (BK h)
 | .mp _ ks vs,k=>⟨BK h k.1,BK h k.2⟩
 | .si _ _,_=>trivial
 | .lp tm _ _ _ _ _,k=>by simp only [nV] at k ⊢;exact M0 h k
mutual
def mv {n:Nat}:∀{v:AV},aS v=true->below n v
 | .int _ _,_ | .bool _,_ | .dP _ _,_ | .str _,_ | .lm,_ | .bi _,_ | .ae,_ | .aO _ _ _,_ | .iH,_ | .kF,_ | .jS _ _,_ | .undef,_=>trivial
 | .cR _ _ _ _,_=>trivial
 | .ptr _ _,h | .ak _ _ _,h | .map _,h | .it _,h=>by simp [aS] at h
 | .fn (.y _) _ _,h=>by simp [aS] at h
 | .fn (.f _) _ _,h=>by
  simp only [aS,yg] at h;exact ⟨Fk h.1,Fk h.2⟩
 | .agg cs,h=>by simp only [aS] at h;simp only [below];exact Fk h
 | .aw cs,h=>by simp only [aS] at h;simp only [below];exact Fk h
def Fk {n:Nat}:∀{vs:List AV},aK vs=true->kZ n vs
 | [],_=>trivial
 | _::_,h=>by
  simp only [aK,yg] at h;exact ⟨mv h.1,Fk h.2⟩
end
structure O0 (b:Nat) (fnv:AV) (H:Hp):Prop where
 fv:below b fnv
 fl:(refs fnv).length<=1000
 one:bE fnv=true
 hb:jP b b H
 hl:∀B,(dC B H).length<=1000
def aaE {B n R:Nat}:kZ (B+R) (gC B n R):=by
 have dV:∀{a c:List AV},kZ (B+R) a->kZ (B+R) c->kZ (B+R) (a++c):=by
  intro a c
  induction a with
  | nil=>intro _ h;exact h
  | cons x a ih=>intro h1 h2;exact ⟨h1.1,ih h1.2 h2⟩
 have hm:∀l:List Nat,(∀i,i∈l->i<R)->kZ (B+R) (l.map fun i=>AV.ak (B+i) 0 n):=by
  intro l
  induction l with
  | nil=>intro _;trivial
  | cons x l ih=>intro h;exact ⟨by have:=h x (by simp);show B+x<B+R;omega,ih (fun i hi=>h i (by simp [hi]))⟩
 refine dV (hm _ (fun i hi=>List.mem_range.1 hi)) (Fk ?_)
 induction n-R with
 | zero=>rfl
 | succ k ih=>rw [wb];exact ih
def abt {B n R:Nat}:eV (gC B n R)=xC B R:=by
 unfold gC;have dV:∀a c:List AV,eV (a++c)=eV a++eV c:=by
  intro a c
  induction a with
  | nil=>rfl
  | cons x a ih=>simp only [yW,eV,ih,xo]
 have hm:∀l:List Nat,eV (l.map fun i=>AV.ak (B+i) 0 n)=l.map (B+·):=by
  intro l
  induction l with
  | nil=>rfl
  | cons x l ih=>simp only [List.map_cons,eV,refs,ih];rfl
 have hr:eV (yz (n-R) AV.ae)=[]:=by
  induction n-R with
  | zero=>rfl
  | succ k ih=>rw [wb];exact ih
 rw [dV,hm,hr,wg,List.range'_eq_map_range]
def I3 {live:List Nat} {tm:Env} {b n ct st:Nat} {fnv:AV} {H:Hp} {rs:List (List AV)} (ho:O0 b fnv H) (hn:rs.length<=n) (gE:n<=1000) (ht:kA (b+5) (dE tm live)) (hl:(fo (dE tm live)).length<=1000):
  bA live ⟨tm,bJ (b+5) rs++cJ b n rs.length fnv st H,ct,b+5⟩=⟨dE tm live,bJ (b+5) rs++cJ b n rs.length fnv st H,b+5+rs.length,b+5⟩:=by
 have zi:nV (b+5+rs.length) (.cells true (yx rs.length 0) true 1 (gC (b+5) n rs.length)):= .inr aaE;have auz:fA (.cells true (yx rs.length 0) true 1 (gC (b+5) n rs.length))=xC (b+5) rs.length:=by
  cases rs with
  | nil=>rfl
  | cons c r=>simp only [fA,yy,cP (Nat.succ_ne_zero _),yD,abt]
 have hTM:kA b (ie b n fnv)->True:=fun _=>trivial
 have P2:kA (b+4) (ie b n fnv):=by
  have:=Ft (show b<=b+4 by omega) ho.fv
  refine ⟨⟨trivial,trivial,trivial⟩,trivial,show b+3<b+4 by omega,show b+2<b+4 by omega,trivial,trivial,show b+1<b+4 by omega,show b<b+4 by omega,trivial,this,trivial⟩
 have axL:(fo (ie b n fnv)).length<=1010:=by
  have:=ho.fl
  simp [ie,fo,refs,eV];omega
 have Hh:(fA (.cells true (aS fnv) true 1 [fnv])).length<=1000:=by
  cases aS fnv with
  | true=>simp [fA]
  | false=>simp [fA,eV];exact ho.fl
 have hHr:=Zt (B:=b+5) (show b<=b+5 by omega) ho.hb;have e:dC (b+5) (cJ b n rs.length fnv st H)=fo (ie b n fnv)++([b+2]++(xC (b+5) rs.length++(fA (.cells true (aS fnv) true 1 [fnv])++([]++dC (b+5) H)))):=by
  simp only [cJ,dC,gJ (show b+4<b+5 by omega),gJ (show b+3<b+5 by omega),gJ (show b+2<b+5 by omega),gJ (show b+1<b+5 by omega),gJ (show b<b+5 by omega),ym,auz];simp only [fA,eV,refs,yD,ym,wg]
 have no:∀(l:List Nat),(∀x,x∈l->x<b+5)->l.filter (fun x=> !yJ x (b+5))=[]:=fun l h=>uh.2 (fun x hx=>by simp [gJ (h x hx)])
 have all:∀(k:Nat),(xC (b+5) k).filter (fun x=> !yJ x (b+5))=xC (b+5) k:=fun k=>List.filter_eq_self.2 (fun x hx=>by
  have:=(List.mem_range'_1.1 hx).1
  simp [Gg this])
 refine Zz ht ?_ ?_ ?_
 ·refine ⟨by omega,M0 (by omega) P2,by omega,.inr ⟨show b+2<_ by omega,trivial⟩,by omega,zi,by omega,.inr ⟨Ft (by omega) ho.fv,trivial⟩,by omega,.inl rfl,?_⟩;exact ZZ (by omega) (fun o h=>akY (by omega) h) ho.hb
 ·rw [e]
  have:=ho.hl (b+5)
  grind
 ·rw [e];simp only [yam]
  rw [no _ (fun x hx=>by have:=MY P2 x hx;omega),no [b+2] (fun x hx=>by simp at hx;omega),all,no _ (fun x hx=>by
   have h1:nV b (.cells true (aS fnv) true 1 [fnv]):= .inr ⟨ho.fv,trivial⟩
   have:=R2 h1 x hx;omega),no [] (fun x hx=>by simp at hx),no _ (fun x hx=>by have:=hHr x hx;omega)]
  simp
end
end
section
open Go (IntKind)
section
variable {pre x post:List Nat} {i:Nat}
def pO:(pre++x++post).length=pre.length+x.length+post.length:=by grind
def DJ (h:i<x.length):(pre++x++post).getD (pre.length+i) 0=x.getD i 0:=by grind
def Oc (a:Nat) (h:i<x.length):(pre++x++post).set (pre.length+i) a=pre++x.set i a++post:=by simp_all
end
def ni (n:Nat) (k:IntKind) (a:Int):below n (.int k a)=True:=rfl
def nW (n id o k:Nat):below n (.ak id o k)=(id<n):=rfl
def nc (n:Nat):kA n []=True:=rfl
def mZ (n i:Nat) (v:AV) (r:Env):kA n ((i,v)::r)=(below n v/\kA n r):=rfl
def rq {live:List Nat} {tm:Env} {ct:Nat} {a b:List AV} (ht:kA 2 (dE tm live)) (hl:(fo (dE tm live)).length<100000):
  bA live ⟨tm,[(1,.cells true true true 1 a),(0,.cells true true true 1 b)],ct,2⟩=⟨dE tm live,[(1,.cells true true true 1 a),(0,.cells true true true 1 b)],2,2⟩:=
 MZ ht ⟨by omega,.inl rfl,by omega,.inl rfl,trivial⟩ (by
  have:dC 2 [(1,Obj.cells true true true 1 a),(0,Obj.cells true true true 1 b)]=[]:=rfl
  rw [this,yG,yZ];exact hl)
section
variable {P:aI} {L:Lib}
def alN {x s c:Nat} (hs:s<64) (hx:x<18446744073709551616) (hc:c<2^s):
  c|||(x*2^s%18446744073709551616)<18446744073709551616/\c<18446744073709551616/\x/2^(64-s)<2^s/\(c|||(x*2^s%18446744073709551616))+18446744073709551616*(x/2^(64-s))=x*2^s+c:=by
 have e:18446744073709551616=2^(64-s)*2^s:=by rw [<-Nat.pow_add,show 64-s+s=64 by omega]
 have h1:x*2^s%18446744073709551616=(x%2^(64-s))*2^s:=by rw [e,Nat.mul_mod_mul_right]
 have h2:x/2^(64-s)<2^s:=by
  refine (wH (wS _)).2 ?_
  grind
 have h3:c|||(x*2^s%18446744073709551616)=(x%2^(64-s))*2^s+c:=by rw [h1,Nat.or_comm,UC hc]
 have h4:(x%2^(64-s))*2^s+c<18446744073709551616:=by
  have:=y5 (2^s) (show x%2^(64-s)+1<=2^(64-s) from xD _ (wS _))
  grind
 have h5:=Nat.mod_add_div x (2^(64-s))
 grind
def auA {v:AV} {w:List Nat} (hv:bO v w) (hw:lo 18446744073709551616 w) (lw:w.length<=99999999999) {s n:Nat} (hs:s<64) (hn:n=w.length+1):
  ∀k st,(∃(i:Nat) (out:List Nat),bA [1,5,12,13,14] st=⟨[(1,aa s),(5,.ak 0 0 n),(12,v),(13,aa w.length),(14,aa i)],[(0,.cells true true true 1 (out.map uc))],1,0⟩/\i+k=w.length/\out.length=n/\lo 18446744073709551616 out/\bv 18446744073709551616 out=bv 18446744073709551616 (w.take i)*2^s/\out.getD i 0<2^s/\(∀m,i<m->out.getD m 0=0))->
   ∃ex st',D P L (.loop [1,5,12,13,14] FW) st=some (ex,st')/\∃tm out,st'=⟨tm,[(0,.cells true true true 1 (out.map uc))],1,0⟩/\ex= .exit 0/\ab tm 5= .ak 0 0 n/\out.length=n/\lo 18446744073709551616 out/\bv 18446744073709551616 out=bv 18446744073709551616 w*2^s:=by
 refine cg (I:=fun k st=>∃(i:Nat) (out:List Nat),st=⟨[(1,aa s),(5,.ak 0 0 n),(12,v),(13,aa w.length),(14,aa i)],[(0,.cells true true true 1 (out.map uc))],1,0⟩/\i+k=w.length/\out.length=n/\lo 18446744073709551616 out/\bv 18446744073709551616 out=bv 18446744073709551616 (w.take i)*2^s/\out.getD i 0<2^s/\(∀m,i<m->out.getD m 0=0))
  (Q:=fun ex st'=>∃tm out,st'=⟨tm,[(0,.cells true true true 1 (out.map uc))],1,0⟩/\ex= .exit 0/\ab tm 5= .ak 0 0 n/\out.length=n/\lo 18446744073709551616 out/\bv 18446744073709551616 out=bv 18446744073709551616 w*2^s) ?_
 rintro k st ⟨i,out,rfl,hk,hlen,bt,aR,hc,gW⟩;by_cases hi:i<w.length
 ·left
  have gx:=gY (show 0<18446744073709551616 by decide) hw i;have ex:=hv.aY hi;have ec:=AM (l:=out) (o:=i) (by omega);have bf:=oK (b:=18446744073709551616) (l:=out) (i:=i) (x:=out.getD i 0|||(w.getD i 0*2^s%18446744073709551616)) (by omega);have hz:out.getD (i+1) 0=0:=gW _ (by omega);have eM:=jM (b:=18446744073709551616) (l:=w) i;generalize out.getD i 0=c at*
  generalize w.getD i 0=x at*
  obtain ⟨s1,s2,s3,s4⟩:=alN hs gx hc;have o1:=Lb .i64 x (s:=s) (by omega);have o2:=XN s2 (xD (x*2^s) (by decide));have o3:binOp .sub (.int .i64 64) (aa s)=some (aa (64-s:Nat)):=by
   rw [N9,wrap64 (by omega) (by omega)];congr 2;omega
  have o4:=Lc .i64 x (s:=64-s) (by omega);generalize oz:c|||(x*2^s%18446744073709551616)=c' at*
  by_cases h0:0<s
  ·have O1:=oK (b:=18446744073709551616) (l:=out.set i c') (i:=i+1) (x:=x/2^(64-s)) (by simp;omega);rw [pN (by omega),hz,xO,yZ] at O1;have axM:x/2^(64-s)<18446744073709551616:=Nat.lt_of_le_of_lt (Nat.div_le_self _ _) gx;generalize x/2^(64-s)=y at*
   simp only [go_sem,ya,yi,FW,show (i:Int)<w.length by omega,ex,dH 0 0 (show i<n by omega),yd,ec,o1,o2,lI (l:=out) (o:=i) (by omega),show (0:Int)<(s:Int) by omega,show (i:Int)+1=((i+1:Nat):Int) from rfl,wrapN (n:=i+1) (by omega),o3,o4,dH 0 0 (show i+1<n by omega),lI (l:=out.set i c') (o:=i+1) (by simp;omega)];refine ⟨_,k-1,rfl,by omega,i+1,(out.set i c').set (i+1) y,by simp only [go_sem,ya,yb,av,az hv.pu,aE _ hv.pu]<;>rfl,by omega,by simp [hlen],nh (nh bt s1) axM,?_,by rw [alm (by simp;omega)];exact s3,fun m hm=>by rw [pN (by omega),pN (by omega)];exact gW m (by omega)⟩
   rw [eM,wZ,O1,<-aR,xj,xn,xn (18446744073709551616^i)];have e:=congrArg (fun t=>18446744073709551616^i*t) s4;simp only [xH] at e;generalize 18446744073709551616^i*(18446744073709551616*y)=p1 at*
   generalize 18446744073709551616^i*(x*2^s)=p2 at*
   generalize 18446744073709551616^i*c'=p3 at*
   omega
  ·have fQ:s=0:=by omega
   subst fQ;have mq:c=0:=by simpa using hc
   have Bu:x/2^(64-0)=0:=wR gx;rw [Bu,xO,yZ,ybU,yi] at s4
   simp only [go_sem,ya,yi,FW,show (i:Int)<w.length by omega,ex,dH 0 0 (show i<n by omega),yd,ec,o1,o2,lI (l:=out) (o:=i) (by omega),show ¬(0:Int)<((0:Nat):Int) by omega,show (i:Int)+1=((i+1:Nat):Int) from rfl,wrapN (n:=i+1) (by omega)];refine ⟨_,k-1,rfl,by omega,i+1,out.set i c',by simp only [go_sem,ya,yb,av,az hv.pu,aE _ hv.pu]<;>rfl,by omega,by simp [hlen],nh bt s1,?_,by rw [pN (by omega),hz];exact wS _,fun m hm=>by rw [pN (by omega)];exact gW m (by omega)⟩
   rw [ybU,yi] at aR ⊢;rw [eM,<-aR];rw [mq,xO,yZ] at bf;rw [bf,s4,mq,yZ]
 ·right
  have:i=w.length:=by omega
  subst this;rw [List.take_length] at aR;simp only [go_sem,ya,FW,show ¬(w.length:Int)<w.length by omega];exact ⟨_,_,rfl,by simp,_,out,rfl,rfl,by simp only [go_sem,ya],hlen,bt,aR⟩
def ahO (h:Has P L 168 PG) {v:AV} {w:List Nat} (hv:bO v w) (hw:lo 18446744073709551616 w) (lw:w.length<=99999999999) {s:Nat} (hs:s<64):
  ∃out,af P L 168 [v,aa s] (.cR true 1 (w.length+1) (out.map uc))/\out.length=w.length+1/\lo 18446744073709551616 out/\bv 18446744073709551616 out=bv 18446744073709551616 w*2^s:=by
 obtain ⟨n,hn⟩:∃n,n=w.length+1:=⟨_,rfl⟩;unfold af;rw [aq h]
 simp only [go_sem,ya,yb,PG,hv.len,wrapN (n:=n) (by omega),show (w.length:Int)+1=((w.length+1:Nat):Int) from rfl,<-hn,Et (n:=n) _ (by omega)];generalize hq:D P L (.loop [1,5,12,13,14] FW) _=q;obtain ⟨ex,st,rfl,tm,o,rfl,rfl,t5,hlen,bt,aR⟩:=bV hq (auA (P:=P) (L:=L) hv hw lw hs hn w.length)
  ⟨0,yz n 0,by simp only [go_sem,ya,yb,av,az hv.pu,aE _ hv.pu]<;>rfl,by omega,by simp,F7 (by decide) n,by rw [F9];simp [bv],by rw [DH];exact wS _,fun m _=>DH n m⟩
 refine ⟨o,?_,hlen,bt,aR⟩;simp only [go_sem,yb,av,t5];exact Sh (Jy _ _ _) (by simp [hlen]) (by decide)
end
end
section
open Go (IntKind)
abbrev H2 (a b:List Nat):Hp:=[(1,.cells true true true 1 (a.map uc)),(0,.cells true true true 1 (b.map uc))]
structure gQ (x vs:List Nat) (n v1 v2 u0 u1 u2:Nat):Prop where
 n2:2<=n
 nb:n<=99999999999
 lx:x.length=n+1
 lv:vs.length=n
 gx:lo 18446744073709551616 x
 gv:lo 18446744073709551616 vs
 eN:vs.getD (n-1) 0=v1
 di:vs.getD (n-2) 0=v2
 h0:x.getD n 0=u0
 h1:x.getD (n-1) 0=u1
 h2:x.getD (n-2) 0=u2
 pos:0<v1
 lt:bv 18446744073709551616 x<18446744073709551616*bv 18446744073709551616 vs
def awm (b p a v1 v2:Nat):a+p*v2+p*b*v1=(v1*b+v2)*p+a:=by grind
def awn (b p a v0 v1 v2:Nat):a+p*v2+p*b*v1+p*b*b*v0=((v0*b+v1)*b+v2)*p+a:=by grind
section
variable {x vs:List Nat} {n v1 v2 u0 u1 u2:Nat}
def gQ.Mh (h:gQ x vs n v1 v2 u0 u1 u2):v1<18446744073709551616:=h.eN▸gY (by decide) h.gv _
def gQ.EY (h:gQ x vs n v1 v2 u0 u1 u2):v2<18446744073709551616:=h.di▸gY (by decide) h.gv _
def gQ.XS (h:gQ x vs n v1 v2 u0 u1 u2):u0<18446744073709551616:=h.h0▸gY (by decide) h.gx _
def gQ.Mi (h:gQ x vs n v1 v2 u0 u1 u2):u1<18446744073709551616:=h.h1▸gY (by decide) h.gx _
def gQ.Mj (h:gQ x vs n v1 v2 u0 u1 u2):u2<18446744073709551616:=h.h2▸gY (by decide) h.gx _
def gQ.parts (h:gQ x vs n v1 v2 u0 u1 u2):∃p vr ur,bv 18446744073709551616 vs=(v1*18446744073709551616+v2)*p+vr/\vr<p/\bv 18446744073709551616 x=((u0*18446744073709551616+u1)*18446744073709551616+u2)*p+ur/\ur<p:=by
 obtain ⟨m,hm⟩:∃m,n=m+2:=⟨n-2,by have:=h.n2;omega⟩;subst hm;have e1:=jM (b:=18446744073709551616) (l:=vs) (m+1);have e2:=jM (b:=18446744073709551616) (l:=vs) m;have f0:=jM (b:=18446744073709551616) (l:=x) (m+2);have f1:=jM (b:=18446744073709551616) (l:=x) (m+1);have f2:=jM (b:=18446744073709551616) (l:=x) m;have eN:vs.getD (m+1) 0=v1:=h.eN;have di:vs.getD m 0=v2:=h.di;have h0:x.getD (m+2) 0=u0:=h.h0;have h1:x.getD (m+1) 0=u1:=h.h1;have h2:x.getD m 0=u2:=h.h2
 rw [yK (by have:=h.lv;omega),eN,e2,di] at e1
 rw [yK (by have:=h.lx;omega),h0,f1,h1,f2,h2] at f0;have g1:=nm (B0 h.gv m)
 rw [yS,xY (by have:=h.lv;omega)] at g1;have g2:=nm (B0 h.gx m)
 rw [yS,xY (by have:=h.lx;omega)] at g2;refine ⟨18446744073709551616^m,_,_,?_,g1,?_,g2⟩
 ·grind
 ·grind
def gQ.down (h:gQ x vs n v1 v2 u0 u1 u2) {t r:Nat} (ht:t*v1+r=u0*18446744073709551616+u1) (hr:r*18446744073709551616+u2<t*v2):bv 18446744073709551616 x/bv 18446744073709551616 vs<=t-1:=by
 obtain ⟨p,vr,ur,h1,h2,h3,h4⟩:=h.parts;exact aaq h1 h3 h4 ht hr
def gQ.stop (h:gQ x vs n v1 v2 u0 u1 u2) {t r:Nat} (lG:t<18446744073709551616) (ht:t*v1+r=u0*18446744073709551616+u1) (hr:18446744073709551616<=r\/t*v2<=r*18446744073709551616+u2):t<=bv 18446744073709551616 x/bv 18446744073709551616 vs+1:=by
 obtain ⟨p,vr,ur,h1,h2,h3,h4⟩:=h.parts;exact abh (by decide) h1 h2 h3 h.pos h.EY lG ht hr
def gQ.first (h:gQ x vs n v1 v2 u0 u1 u2):bv 18446744073709551616 x/bv 18446744073709551616 vs<=(u0*18446744073709551616+u1)/v1:=by
 obtain ⟨p,vr,ur,h1,h2,h3,h4⟩:=h.parts;exact R1 h1 h3 h4 h.Mj h.pos
def gQ.top (h:gQ x vs n v1 v2 u0 u1 u2):u0<=v1:=by
 obtain ⟨p,vr,ur,h1,h2,h3,h4⟩:=h.parts;exact abi h1 h3 h2 h.EY h.lt
def gQ.digit (h:gQ x vs n v1 v2 u0 u1 u2):bv 18446744073709551616 x/bv 18446744073709551616 vs<18446744073709551616:=by
 refine (wH ?_).2 h.lt;rcases xu (bv 18446744073709551616 vs) with h0 | h0
 ·have:=h.lt;rw [h0] at this;simp at this
 ·exact h0
end
section
variable {P:aI} {L:Lib}
def afP (me:L.pure 143=some oI) (ib:L.pure 171=some oH) {w:AV} {x vs pre post qs:List Nat} (hw:bO w vs) {n v1 v2 u0 u1 u2:Nat} (hl:gQ x vs n v1 v2 u0 u1 u2):
  ∀k s,(∃q r:Nat,bA [0,1,5,6,7,8] s=⟨[(0,.ak 0 pre.length (n+1)),(1,w),(5,aa n),(6,uc q),(7,uc (r%18446744073709551616)),(8,uc (r/18446744073709551616))],H2 qs (pre++x++post),2,2⟩/\q*v1+r=u0*18446744073709551616+u1/\r<2*18446744073709551616/\q<18446744073709551616/\bv 18446744073709551616 x/bv 18446744073709551616 vs<=q/\q=k)->
   ∃ex s',D P L (.loop [0,1,5,6,7,8] Ay) s=some (ex,s')/\∃tm q,s'=⟨tm,H2 qs (pre++x++post),2,2⟩/\ex= .exit 0/\ab tm 0= .ak 0 pre.length (n+1)/\ab tm 1=w/\ab tm 5=aa n/\ab tm 6=uc q/\q<18446744073709551616/\bv 18446744073709551616 x/bv 18446744073709551616 vs<=q/\q<=bv 18446744073709551616 x/bv 18446744073709551616 vs+1:=by
 refine cg (I:=fun k s=>∃q r:Nat,s=⟨[(0,.ak 0 pre.length (n+1)),(1,w),(5,aa n),(6,uc q),(7,uc (r%18446744073709551616)),(8,uc (r/18446744073709551616))],H2 qs (pre++x++post),2,2⟩/\q*v1+r=u0*18446744073709551616+u1/\r<2*18446744073709551616/\q<18446744073709551616/\bv 18446744073709551616 x/bv 18446744073709551616 vs<=q/\q=k)
  (Q:=fun ex s'=>∃tm q,s'=⟨tm,H2 qs (pre++x++post),2,2⟩/\ex= .exit 0/\ab tm 0= .ak 0 pre.length (n+1)/\ab tm 1=w/\ab tm 5=aa n/\ab tm 6=uc q/\q<18446744073709551616/\bv 18446744073709551616 x/bv 18446744073709551616 vs<=q/\q<=bv 18446744073709551616 x/bv 18446744073709551616 vs+1) ?_
 rintro k s ⟨q,r,rfl,hq,hr,pz,hQ,rfl⟩;have eQ:=hl.n2;have qR:=hl.nb;by_cases pn:r<18446744073709551616
 ·have HC:r%18446744073709551616=r:=yP pn;have C7:r/18446744073709551616=0:=wR pn;rw [HC,C7];have GX:=hl.Mh;have VV:=hl.EY;have ahP:=hl.Mj;have qW:=hw.aY (i:=n-2) (by have:=hl.lv;omega);have fq:=hw.aY (i:=n-1) (by have:=hl.lv;omega);rw [hl.di] at qW;rw [hl.eN] at fq;have zY:=AM (l:=pre++x++post) (o:=pre.length+(n-2)) (by rw [pO];have:=hl.lx;omega)
  rw [DJ (by have:=hl.lx;omega),hl.h2] at zY;have f1:=Ow (P:=P) (f:=D P L) me pz VV;have f2:=DX (P:=P) (f:=D P L) ib (x:=r) (y:=v1) (c:=0) pn GX (by omega);rw [show (uc 0)=AV.int .u64 0 from rfl] at f2;have fS:=wC (q*v2) 18446744073709551616;have bt:=xD (q*v2) (show 0<18446744073709551616 by decide);obtain ⟨H,hH⟩:∃H,H=q*v2/18446744073709551616:=⟨_,rfl⟩;obtain ⟨G,hG⟩:∃G,G=q*v2%18446744073709551616:=⟨_,rfl⟩;rw [<-hH,<-hG] at f1 fS;rw [<-hG] at bt;have Bv:(n:Int)-2=((n-2:Nat):Int):=by omega
  have qX:(n:Int)-1=((n-1:Nat):Int):=by omega
  by_cases c1:H<r
  ·right
   simp only [go_sem,ya,Ay,H2,show ((0:Nat):Int)=0 from rfl,Bv,wrapN (n:=n-2) (by omega),qW,f1,show (H:Int)<(r:Int) by omega];exact ⟨_,_,rfl,by simp,_,q,rfl,rfl,by simp only [go_sem,ya],by simp only [go_sem,ya],by simp only [go_sem,ya],by simp only [go_sem,ya],pz,hQ,hl.stop pz hq (.inr (by omega))⟩
  ·by_cases c2:H=r/\G<=u2
   ·right
    obtain ⟨c2,c3⟩:=c2
    simp only [go_sem,ya,Ay,H2,show ((0:Nat):Int)=0 from rfl,Bv,wrapN (n:=n-2) (by omega),qW,f1,show (H:Int)=(r:Int) by omega];simp only [show ¬(r:Int)<(r:Int) by omega,yp]
    simp only [go_sem,ya,yi,Bv,wrapN (n:=n-2) (by omega),dH 0 pre.length (show n-2<n+1 by omega),zY,show (G:Int)<=(u2:Int) by omega];exact ⟨_,_,rfl,by simp,_,q,rfl,rfl,by simp only [go_sem,ya],by simp only [go_sem,ya],by simp only [go_sem,ya],by simp only [go_sem,ya],pz,hQ,hl.stop pz hq (.inr (by omega))⟩
   ·left
    have Hl:r*18446744073709551616+u2<q*v2:=by omega
    have Bs:0<q:=by
     rcases xu q with h0 | h0
     ·subst h0;omega
     ·exact h0
    have e3:binOp .sub (uc q) (.int .u64 1)=some (uc (q-1)):=Eu (b:=1) (by omega) (by omega);have h1:(q-1)*v1+(r+v1)=u0*18446744073709551616+u1:=by
     obtain ⟨p,rfl⟩:∃p,q=p+1:=⟨q-1,by omega⟩;rw [wZ,Nat.one_mul] at hq;rw [th];omega
    have Bw:=hl.down hq Hl;rw [yZ] at f2;by_cases c3:H=r
    ·have c4:¬G<=u2:=fun h=>c2 ⟨c3,h⟩
     subst c3
     simp only [go_sem,ya,xK,yi,Ay,H2,show ((0:Nat):Int)=0 from rfl,Bv,qX,wrapN (n:=n-2) (by omega),wrapN (n:=n-1) (by omega),qW,fq,f1,f2,show ¬(H:Int)<(H:Int) by omega,dH 0 pre.length (show n-2<n+1 by omega),zY,show ¬(G:Int)<=(u2:Int) by omega,e3];refine ⟨_,q-1,rfl,by omega,q-1,H+v1,?_,h1,by omega,by omega,Bw,rfl⟩;rw [rq (by simp only [go_sem,ya,yt,ni,nW,nc,mZ,mv hw.pu,wF]) (by simp only [go_sem,ya,yb,yt,az hw.pu])];simp only [go_sem,ya]
    ·simp only [go_sem,ya,xK,Ay,H2,show ((0:Nat):Int)=0 from rfl,Bv,qX,wrapN (n:=n-2) (by omega),wrapN (n:=n-1) (by omega),qW,fq,f1,f2,show ¬(H:Int)<(r:Int) by omega,show ¬(H:Int)=(r:Int) by omega,e3];refine ⟨_,q-1,rfl,by omega,q-1,r+v1,?_,h1,by omega,by omega,Bw,rfl⟩;rw [rq (by simp only [go_sem,ya,yt,ni,nW,nc,mZ,mv hw.pu,wF]) (by simp only [go_sem,ya,yb,yt,az hw.pu])];simp only [go_sem,ya]
 ·right
  have C7:r/18446744073709551616=1:=by omega
  rw [C7];simp only [go_sem,ya,Ay,H2,show ((1:Nat):Int)=1 from rfl,Int.reduceEq];exact ⟨_,_,rfl,by simp,_,q,rfl,rfl,by simp only [go_sem,ya],by simp only [go_sem,ya],by simp only [go_sem,ya],by simp only [go_sem,ya],pz,hQ,hl.stop pz hq (.inl (by omega))⟩
end
end
section
open Go (IntKind)
def anm {b p x y z oB c bo Bx ca q v X Y:Nat} (h1:q*v+c=b*ca+oB) (h2:z+oB+bo=x+b*Bx) (h3:Y+q*X=y+p*(c+bo)) (W:Nat) (hW:W+p*x=Y+p*z):
  W+q*(X+p*v)=y+p*b*(ca+Bx):=by grind
def ann {q v c:Nat} (hq:q<18446744073709551616) (hv:v<18446744073709551616) (hc:c<18446744073709551616):
  q*v+c=18446744073709551616*(q*v/18446744073709551616+(q*v%18446744073709551616+c+0)/18446744073709551616)+(q*v%18446744073709551616+c+0)%18446744073709551616/\
  q*v/18446744073709551616+(q*v%18446744073709551616+c+0)/18446744073709551616<18446744073709551616:=by
 have h:=Nat.mul_le_mul (show q<=18446744073709551615 by omega) (show v<=18446744073709551615 by omega)
 grind
section
variable {P:aI} {L:Lib}
def auB (me:L.pure 143=some oI) (ib:L.pure 171=some oH) (zt:L.pure 173=some B4) {w:AV} {x vs pre post qs:List Nat} (hw:bO w vs) {n:Nat} (qR:n<=99999999999) (lv:vs.length=n) (gv:lo 18446744073709551616 vs) {q:Nat} (hq:q<18446744073709551616):
  ∀k s,(∃(i c bo:Nat) (y:List Nat),bA [0,1,5,6,11,12,104,105] s=⟨[(0,.ak 0 pre.length (n+1)),(1,w),(5,aa n),(6,uc q),(11,uc bo),(12,uc c),(104,aa n),(105,aa i)],H2 qs (pre++y++post),2,2⟩/\i+k=n/\y.length=n+1/\lo 18446744073709551616 y/\c<18446744073709551616/\bo<=1/\
    bv 18446744073709551616 y+q*bv 18446744073709551616 (vs.take i)=bv 18446744073709551616 x+18446744073709551616^i*(c+bo))->
   ∃ex s',D P L (.loop [0,1,5,6,11,12,104,105] JZ) s=some (ex,s')/\∃tm c bo y,s'=⟨tm,H2 qs (pre++y++post),2,2⟩/\ex= .exit 2/\ab tm 0= .ak 0 pre.length (n+1)/\ab tm 1=w/\ab tm 5=aa n/\ab tm 6=uc q/\ab tm 11=uc bo/\ab tm 12=uc c/\y.length=n+1/\lo 18446744073709551616 y/\c<18446744073709551616/\bo<=1/\
    bv 18446744073709551616 y+q*bv 18446744073709551616 vs=bv 18446744073709551616 x+18446744073709551616^n*(c+bo):=by
 refine cg (I:=fun k s=>∃(i c bo:Nat) (y:List Nat),s=⟨[(0,.ak 0 pre.length (n+1)),(1,w),(5,aa n),(6,uc q),(11,uc bo),(12,uc c),(104,aa n),(105,aa i)],H2 qs (pre++y++post),2,2⟩/\i+k=n/\y.length=n+1/\lo 18446744073709551616 y/\c<18446744073709551616/\bo<=1/\
    bv 18446744073709551616 y+q*bv 18446744073709551616 (vs.take i)=bv 18446744073709551616 x+18446744073709551616^i*(c+bo))
  (Q:=fun ex s'=>∃tm c bo y,s'=⟨tm,H2 qs (pre++y++post),2,2⟩/\ex= .exit 2/\ab tm 0= .ak 0 pre.length (n+1)/\ab tm 1=w/\ab tm 5=aa n/\ab tm 6=uc q/\ab tm 11=uc bo/\ab tm 12=uc c/\y.length=n+1/\lo 18446744073709551616 y/\c<18446744073709551616/\bo<=1/\
    bv 18446744073709551616 y+q*bv 18446744073709551616 vs=bv 18446744073709551616 x+18446744073709551616^n*(c+bo)) ?_
 rintro k s ⟨i,c,bo,y,rfl,hk,ly,gy,hc,jF,aR⟩;by_cases hi:i<n
 ·left
  have dJ:(0:Nat)<18446744073709551616:=by decide
  have su:=gY dJ gv i;have qY:=gY dJ gy i;have ev:=hw.aY (i:=i) (by omega);have ey:=AM (l:=pre++y++post) (o:=pre.length+i) (by rw [pO];omega);rw [DJ (by omega)] at ey;have eM:=jM (b:=18446744073709551616) (l:=vs) i;obtain ⟨a,ha⟩:∃a,a=vs.getD i 0:=⟨_,rfl⟩;obtain ⟨d,hd⟩:∃d,d=y.getD i 0:=⟨_,rfl⟩;rw [<-ha] at su ev eM;rw [<-hd] at qY ey;obtain ⟨m1,m2⟩:=ann hq su hc;have f1:=Ow (P:=P) (f:=D P L) me hq su;have f2:=DX (P:=P) (f:=D P L) ib (x:=q*a%18446744073709551616) (y:=c) (c:=0) (xD _ dJ) hc (by omega);obtain ⟨oB,ahQ⟩:∃t,t=(q*a%18446744073709551616+c+0)%18446744073709551616:=⟨_,rfl⟩;obtain ⟨c1,eR⟩:∃t,t=(q*a%18446744073709551616+c+0)/18446744073709551616:=⟨_,rfl⟩;have ahR:oB<18446744073709551616:=by rw [ahQ];exact xD _ dJ
  rw [<-ahQ,<-eR] at f2 m1;rw [<-eR] at m2;obtain ⟨h1,jD⟩:∃t,t=q*a/18446744073709551616:=⟨_,rfl⟩;rw [<-jD] at f1 m1 m2;rw [show (uc 0)=AV.int .u64 0 from rfl] at f2;have f3:=UB (P:=P) (f:=D P L) zt qY ahR jF;have mU:=Tl qY ahR jF;obtain ⟨z,hz⟩:∃t,t=(d+18446744073709551616*2-oB-bo)%18446744073709551616:=⟨_,rfl⟩;obtain ⟨b',dl⟩:∃t,t=(if oB+bo<=d then 0 else 1):=⟨_,rfl⟩;have jY:b'<=1:=by rw [dl];split<;>omega
  have HB:z<18446744073709551616:=by rw [hz];exact xD _ dJ
  rw [<-hz,<-dl] at f3 mU;have f4:binOp .add (uc h1) (uc c1)=some (uc (h1+c1)):=by
   rw [Cm,yP m2]
  have bf:=oK (b:=18446744073709551616) (l:=y) (i:=i) (x:=z) (by omega);rw [<-hd] at bf;have bh:=fun (hp:Hp) (ct:Nat)=>lI (hp:=hp) (ct:=ct) (id:=0) (v:=z) (ex:=true) (l:=pre++y++post) (o:=pre.length+i) (by rw [pO];omega)
  have oU:=Oc (pre:=pre) (x:=y) (post:=post) (i:=i) z (by omega);simp only [go_sem,ya,yi,JZ,H2,show (i:Int)<(n:Int) by omega,ev,f1,f2,f4,dH 0 pre.length (show i<n+1 by omega),ey,f3,bh,oU];refine ⟨_,k-1,rfl,by omega,i+1,h1+c1,b',y.set i z,?_,by omega,by simp [ly],nh gy HB,m2,jY,?_⟩
  ·rw [rq (by simp only [go_sem,ya,yt,ni,nW,nc,mZ,mv hw.pu,wF]) (by simp only [go_sem,ya,yb,yt,az hw.pu])];rw [wrap64 (by omega) (by omega)];simp only [go_sem,ya]<;>rfl
  ·rw [eM,xj];exact anm m1 mU aR _ bf
 ·right
  have:i=n:=by omega
  subst this;rw [yK (by omega)] at aR;simp only [go_sem,ya,JZ,H2,show ¬(i:Int)<(i:Int) by omega];exact ⟨_,_,rfl,by simp,_,c,bo,y,rfl,rfl,by simp only [go_sem,ya],by simp only [go_sem,ya],by simp only [go_sem,ya],by simp only [go_sem,ya],by simp only [go_sem,ya],by simp only [go_sem,ya],ly,gy,hc,jF,aR⟩
def auC (ib:L.pure 171=some oH) {w:AV} {y0 vs pre post qs:List Nat} (hw:bO w vs) {n:Nat} (qR:n<=99999999999) (lv:vs.length=n) (gv:lo 18446744073709551616 vs) {q:Nat}:
  ∀k s,(∃(i c:Nat) (y:List Nat),bA [0,1,5,6,17,156,157] s=⟨[(0,.ak 0 pre.length (n+1)),(1,w),(5,aa n),(6,uc q),(17,uc c),(156,aa n),(157,aa i)],H2 qs (pre++y++post),2,2⟩/\i+k=n/\y.length=n+1/\lo 18446744073709551616 y/\c<=1/\
    bv 18446744073709551616 y+18446744073709551616^i*c=bv 18446744073709551616 y0+bv 18446744073709551616 (vs.take i))->
   ∃ex s',D P L (.loop [0,1,5,6,17,156,157] J0) s=some (ex,s')/\∃tm c y,s'=⟨tm,H2 qs (pre++y++post),2,2⟩/\ex= .exit 4/\ab tm 0= .ak 0 pre.length (n+1)/\ab tm 5=aa n/\ab tm 6=uc q/\ab tm 17=uc c/\y.length=n+1/\lo 18446744073709551616 y/\c<=1/\
    bv 18446744073709551616 y+18446744073709551616^n*c=bv 18446744073709551616 y0+bv 18446744073709551616 vs:=by
 refine cg (I:=fun k s=>∃(i c:Nat) (y:List Nat),s=⟨[(0,.ak 0 pre.length (n+1)),(1,w),(5,aa n),(6,uc q),(17,uc c),(156,aa n),(157,aa i)],H2 qs (pre++y++post),2,2⟩/\i+k=n/\y.length=n+1/\lo 18446744073709551616 y/\c<=1/\
    bv 18446744073709551616 y+18446744073709551616^i*c=bv 18446744073709551616 y0+bv 18446744073709551616 (vs.take i))
  (Q:=fun ex s'=>∃tm c y,s'=⟨tm,H2 qs (pre++y++post),2,2⟩/\ex= .exit 4/\ab tm 0= .ak 0 pre.length (n+1)/\ab tm 5=aa n/\ab tm 6=uc q/\ab tm 17=uc c/\y.length=n+1/\lo 18446744073709551616 y/\c<=1/\
    bv 18446744073709551616 y+18446744073709551616^n*c=bv 18446744073709551616 y0+bv 18446744073709551616 vs) ?_
 rintro k s ⟨i,c,y,rfl,hk,ly,gy,hc,aR⟩;by_cases hi:i<n
 ·left
  have dJ:(0:Nat)<18446744073709551616:=by decide
  have su:=gY dJ gv i;have qY:=gY dJ gy i;have ev:=hw.aY (i:=i) (by omega);have ey:=AM (l:=pre++y++post) (o:=pre.length+i) (by rw [pO];omega);rw [DJ (by omega)] at ey;have eM:=jM (b:=18446744073709551616) (l:=vs) i;obtain ⟨a,ha⟩:∃a,a=vs.getD i 0:=⟨_,rfl⟩;obtain ⟨d,hd⟩:∃d,d=y.getD i 0:=⟨_,rfl⟩;rw [<-ha] at su ev eM;rw [<-hd] at qY ey;have f1:=DX (P:=P) (f:=D P L) ib qY su hc;have bf:=oK (b:=18446744073709551616) (l:=y) (i:=i) (x:=(d+a+c)%18446744073709551616) (by omega);rw [<-hd] at bf;have jE:=Ni (18446744073709551616^i) 18446744073709551616 (d+a+c);have oz:(d+a+c)/18446744073709551616<=1:=by omega
  have HB:(d+a+c)%18446744073709551616<18446744073709551616:=xD _ dJ;generalize (d+a+c)%18446744073709551616=z at*
  generalize (d+a+c)/18446744073709551616=c' at*
  have bh:=fun (hp:Hp) (ct:Nat)=>lI (hp:=hp) (ct:=ct) (id:=0) (v:=z) (ex:=true) (l:=pre++y++post) (o:=pre.length+i) (by rw [pO];omega)
  have oU:=Oc (pre:=pre) (x:=y) (post:=post) (i:=i) z (by omega);simp only [go_sem,ya,yi,J0,H2,show (i:Int)<(n:Int) by omega,ev,f1,dH 0 pre.length (show i<n+1 by omega),ey,bh,oU];refine ⟨_,k-1,rfl,by omega,i+1,c',y.set i z,?_,by omega,by simp [ly],nh gy HB,oz,?_⟩
  ·rw [rq (by simp only [go_sem,ya,yt,ni,nW,nc,mZ,mv hw.pu,wF]) (by simp only [go_sem,ya,yb,yt,az hw.pu])];rw [wrap64 (by omega) (by omega)];simp only [go_sem,ya]<;>rfl
  ·rw [eM,xj];rw [xH,xH] at jE;omega
 ·right
  have:i=n:=by omega
  subst this;rw [yK (by omega)] at aR;simp only [go_sem,ya,J0,H2,show ¬(i:Int)<(i:Int) by omega];exact ⟨_,_,rfl,by simp,_,c,y,rfl,rfl,by simp only [go_sem,ya],by simp only [go_sem,ya],by simp only [go_sem,ya],by simp only [go_sem,ya],ly,gy,hc,aR⟩
end
end
section
open Go (IntKind)
def step_end {A V q Y B bo:Nat} (hV:0<V) (h:Y+q*V=A+B*bo) (h1:A/V<=q) (h2:q<=A/V+1) (hY:Y<B) (hVB:V<=B) (jF:bo<=1):
  (bo=0->q=A/V/\Y=A%V)/\(bo=1->q=A/V+1/\Y+V=B+A%V):=by
 have fS:=wC A V;have hm:=xD A hV;generalize A/V=Q at*
 have hq:q=Q\/q=Q+1:=by omega
 constructor
 ·rintro rfl;rcases hq with rfl | rfl
  ·grind
  ·grind
 ·grind
section
variable {P:aI} {L:Lib}
structure Wd (P:aI) (L:Lib):Prop where
 me:L.pure 143=some oI
 ib:L.pure 171=some oH
 zt:L.pure 173=some B4
 Ld:L.pure 167=some Gs
 ahS:Has P L 165 KM
 nC:Has P L 166 Cw
 ahT:Has P L 168 PG
 axN:Has P L 169 zm
 ahU:Has P L 158 GL
 axO:Has P L 157 KL
 ahV:Has P L 159 PF
 axP:Has P L 144 PC
 VW:Has P L 137 KK
def aD:VC->VC
 | .seq _ b=>b
 | c=>c
def auD (h:Wd P L) {w:AV} {x vs pre post qs:List Nat} (hw:bO w vs) {n v1 v2 u0 u1 u2:Nat} (hl:gQ x vs n v1 v2 u0 u1 u2) {q:Nat} (hq:q<18446744073709551616) (fa:bv 18446744073709551616 x/bv 18446744073709551616 vs<=q) (ow:q<=bv 18446744073709551616 x/bv 18446744073709551616 vs+1):
  ∃tm x',D P L (aD (aD (aD (aD (aD (aD zm.body)))))) ⟨[(0,.ak 0 pre.length (n+1)),(1,w),(5,aa n),(6,uc q)],H2 qs (pre++x++post),2,2⟩=some (.ret,⟨tm,H2 qs (pre++x'++post),2,2⟩)/\ab tm 4=uc (bv 18446744073709551616 x/bv 18446744073709551616 vs)/\x'.length=n+1/\lo 18446744073709551616 x'/\bv 18446744073709551616 x'=bv 18446744073709551616 x%bv 18446744073709551616 vs:=by
 have eQ:=hl.n2;have qR:=hl.nb;have dJ:(0:Nat)<18446744073709551616:=by decide
 have hV:0<bv 18446744073709551616 vs:=by
  rcases xu (bv 18446744073709551616 vs) with h0 | h0
  ·have:=hl.lt;rw [h0] at this;simp at this
  ·exact h0
 have zZ:below 2 w:=mv hw.pu;have Mk:=nm hl.gv;rw [hl.lv] at Mk;have aCq:18446744073709551616^n<=18446744073709551616^(n+1):=Nat.pow_le_pow_right (by decide) (by omega);have aCr:aD (aD (aD (aD (aD (aD zm.body)))))=aD (aD (aD (aD (aD (aD zm.body))))):=rfl;simp only [go_sem,ya,zm,aD,H2];generalize mT:D P L (.loop [0,1,5,6,11,12,104,105] JZ) _=qq;obtain ⟨ex,s,rfl,tm,c,bo,y,rfl,rfl,t0,t1,t5,t6,t11,t12,ly,gy,hc,jF,aR⟩:=bV mT (auB (P:=P) (L:=L) h.me h.ib h.zt hw qR hl.lv hl.gv hq (x:=x) (pre:=pre) (post:=post) (qs:=qs) n) ⟨0,0,0,x,by
  rw [rq (by simp only [go_sem,ya,yt,ni,nW,nc,mZ,zZ,wF]) (by simp only [go_sem,ya,yb,yt,az hw.pu])]
  simp only [go_sem,ya]<;>rfl,by omega,hl.lx,hl.gx,dJ,by omega,by simp [bv]⟩
 have XT:=gY dJ gy n;have ey:=AM (l:=pre++y++post) (o:=pre.length+n) (by rw [pO];omega);rw [DJ (by omega)] at ey;obtain ⟨d,hd⟩:∃d,d=y.getD n 0:=⟨_,rfl⟩;rw [<-hd] at XT ey;have f3:=UB (P:=P) (f:=D P L) h.zt XT hc jF;have mU:=Tl XT hc jF;obtain ⟨z,hz⟩:∃t,t=(d+18446744073709551616*2-c-bo)%18446744073709551616:=⟨_,rfl⟩;obtain ⟨b',dl⟩:∃t,t=(if c+bo<=d then 0 else 1):=⟨_,rfl⟩;have jY:b'<=1:=by rw [dl];split<;>omega
 have HB:z<18446744073709551616:=by rw [hz];exact xD _ dJ
 rw [<-hz,<-dl] at f3 mU;have bf:=oK (b:=18446744073709551616) (l:=y) (i:=n) (x:=z) (by omega);rw [<-hd] at bf;have bh:=fun (hp:Hp) (ct:Nat)=>lI (hp:=hp) (ct:=ct) (id:=0) (v:=z) (ex:=true) (l:=pre++y++post) (o:=pre.length+n) (by rw [pO];omega)
 have oU:=Oc (pre:=pre) (x:=y) (post:=post) (i:=n) z (by omega);have EZ:lo 18446744073709551616 (y.set n z):=nh gy HB;have C8:(y.set n z).length=n+1:=by simp [ly]
 have hY:=nm EZ;rw [C8] at hY;have axQ:bv 18446744073709551616 (y.set n z)+q*bv 18446744073709551616 vs=bv 18446744073709551616 x+18446744073709551616^(n+1)*b':=by
  have e2:=congrArg (fun t=>18446744073709551616^n*t) mU;rw [xj,xn];simp only [xH] at e2 aR;generalize 18446744073709551616^n*(18446744073709551616*b')=p1 at*
  generalize 18446744073709551616^n*z=p2 at*
  generalize 18446744073709551616^n*d=p3 at*
  generalize 18446744073709551616^n*c=p4 at*
  generalize 18446744073709551616^n*bo=p5 at*
  omega
 obtain ⟨s0,s1⟩:=step_end hV axQ fa ow hY (by omega) jY;simp only [go_sem,ya,yb,yt,yi,rq,ni,nW,nc,mZ,zZ,wF,az hw.pu,t0,t1,t5,t6,t11,t12,dH 0 pre.length (show n<n+1 by omega),ey,f3,bh,oU];by_cases mS:b'=0
 ·obtain ⟨e1,e2⟩:=s0 mS;simp only [go_sem,ya,show (b':Int)=0 by omega];exact ⟨_,y.set n z,rfl,by rw [<-e1];simp only [go_sem],C8,EZ,e2⟩
 ·obtain ⟨e1,e2⟩:=s1 (by omega);simp only [go_sem,ya,show ¬(b':Int)=0 by omega];generalize Ev:D P L (.loop [0,1,5,6,17,156,157] J0) _=XR;obtain ⟨ex,s,rfl,oZ,c2,y2,rfl,rfl,t0,t5,t6,t17,XU,Q6,zP,awo⟩:=bV Ev (auC (P:=P) (L:=L) h.ib hw qR hl.lv hl.gv (y0:=y.set n z) (pre:=pre) (post:=post) (qs:=qs) (q:=q) n) ⟨0,0,y.set n z,by
   rw [rq (by simp only [go_sem,ya,yt,ni,nW,nc,mZ,zZ,wF]) (by simp only [go_sem,ya,yb,yt,az hw.pu])]
   simp only [go_sem,ya]<;>rfl,by omega,C8,EZ,by omega,by simp [bv]⟩
  have axR:=gY dJ Q6 n;have XV:=AM (l:=pre++y2++post) (o:=pre.length+n) (by rw [pO];omega);rw [DJ (by omega)] at XV;obtain ⟨d2,et⟩:∃d,d=y2.getD n 0:=⟨_,rfl⟩;rw [<-et] at axR XV;have f4:=Cm d2 c2;have O1:=oK (b:=18446744073709551616) (l:=y2) (i:=n) (x:=(d2+c2)%18446744073709551616) (by omega);rw [<-et] at O1;have jE:=Ni (18446744073709551616^n) 18446744073709551616 (d2+c2);have axS:(d2+c2)%18446744073709551616<18446744073709551616:=xD _ dJ;have hc3:(d2+c2)/18446744073709551616<=1:=by omega
  generalize (d2+c2)%18446744073709551616=z2 at*
  generalize (d2+c2)/18446744073709551616=c3 at*
  have P3:=fun (hp:Hp) (ct:Nat)=>lI (hp:=hp) (ct:=ct) (id:=0) (v:=z2) (ex:=true) (l:=pre++y2++post) (o:=pre.length+n) (by rw [pO];omega)
  have O2:=Oc (pre:=pre) (x:=y2) (post:=post) (i:=n) z2 (by omega);have Q7:lo 18446744073709551616 (y2.set n z2):=nh Q6 axS;have Ml:(y2.set n z2).length=n+1:=by simp [XU]
  have hY3:=nm Q7;rw [Ml] at hY3;have Bs:0<q:=by rw [e1];exact Nat.succ_pos _
  have hq3:bv 18446744073709551616 x/bv 18446744073709551616 vs=q-1:=by rw [e1,th]
  have f5:binOp .sub (uc q) (.int .u64 1)=some (uc (q-1)):=Eu (b:=1) (by omega) (by omega);simp only [go_sem,ya,yb,yt,yi,rq,ni,nW,nc,mZ,wF,t0,t5,t6,t17,dH 0 pre.length (show n<n+1 by omega),XV,f4,P3,O2,f5];refine ⟨_,y2.set n z2,rfl,by rw [hq3];simp only [go_sem],Ml,Q7,?_⟩;have e3:bv 18446744073709551616 (y2.set n z2)+18446744073709551616^(n+1)*c3=18446744073709551616^(n+1)+bv 18446744073709551616 x%bv 18446744073709551616 vs:=by
   rw [<-e2,<-awo,xj];rw [xH] at jE;omega
  rcases (show c3=0\/c3=1 by omega) with rfl | rfl
  ·omega
  ·omega
def axT (h:Wd P L) {w:AV} {x vs pre post qs:List Nat} (hw:bO w vs) {n v1 v2 u0 u1 u2:Nat} (hl:gQ x vs n v1 v2 u0 u1 u2):
  ∃x',iS P L (D P L) (H2 qs (pre++x++post)) 2 169 [.ak 0 pre.length (n+1),w]=some (uc (bv 18446744073709551616 x/bv 18446744073709551616 vs),H2 qs (pre++x'++post),2)/\x'.length=n+1/\lo 18446744073709551616 x'/\bv 18446744073709551616 x'=bv 18446744073709551616 x%bv 18446744073709551616 vs:=by
 have eQ:=hl.n2;have qR:=hl.nb;have zZ:below 2 w:=mv hw.pu;have qX:(n:Int)-1=((n-1:Nat):Int):=by omega
 have fq:=hw.aY (i:=n-1) (by have:=hl.lv;omega);rw [hl.eN] at fq;have C9:=AM (l:=pre++x++post) (o:=pre.length+n) (by rw [pO];have:=hl.lx;omega)
 rw [DJ (by have:=hl.lx;omega),hl.h0] at C9;have Da:=AM (l:=pre++x++post) (o:=pre.length+(n-1)) (by rw [pO];have:=hl.lx;omega)
 rw [DJ (by have:=hl.lx;omega),hl.h1] at Da;have GX:=hl.Mh;have P4:=hl.Mi;have oV:=hl.top;have jz:∃tm x',D P L zm.body ⟨fM 0 [.ak 0 pre.length (n+1),w],H2 qs (pre++x++post),2,2⟩=some (.ret,⟨tm,H2 qs (pre++x'++post),2,2⟩)/\ab tm 4=uc (bv 18446744073709551616 x/bv 18446744073709551616 vs)/\x'.length=n+1/\lo 18446744073709551616 x'/\bv 18446744073709551616 x'=bv 18446744073709551616 x%bv 18446744073709551616 vs:=by
  have behind:∀(iL:Env) (q:Nat),ab iL 0= .ak 0 pre.length (n+1)->ab iL 1=w->ab iL 5=aa n->ab iL 6=uc q->q<18446744073709551616->bv 18446744073709551616 x/bv 18446744073709551616 vs<=q->q<=bv 18446744073709551616 x/bv 18446744073709551616 vs+1->
    ∃tm x',qc P L (qc P L (AK 0 (some (Ex.exit 0,⟨iL,H2 qs (pre++x++post),2,2⟩))) (.kp [0,1,5,6])) (aD (aD (aD (aD (aD (aD zm.body))))))=some (.ret,⟨tm,H2 qs (pre++x'++post),2,2⟩)/\ab tm 4=uc (bv 18446744073709551616 x/bv 18446744073709551616 vs)/\x'.length=n+1/\lo 18446744073709551616 x'/\bv 18446744073709551616 x'=bv 18446744073709551616 x%bv 18446744073709551616 vs:=by
   intro iL q t0 t1 t5 t6 g1 g2 g3;have hk:dE iL [0,1,5,6]=[(0,.ak 0 pre.length (n+1)),(1,w),(5,aa n),(6,uc q)]:=by simp only [go_sem,t0,t1,t5,t6]
   rw [JJ,gG,K4,rq (by rw [hk];simp only [go_sem,yt,ni,nW,nc,mZ,zZ,wF]) (by rw [hk];simp only [go_sem,yb,yt,az hw.pu]),gG,hk];exact auD h hw hl g1 g2 g3
  by_cases hc:u0<v1
  ·have f1:=ahN h.ahS h.Ld (P:=P) (L:=L) hc P4 GX;have fS:=wC (u0*18446744073709551616+u1) v1;have rL:=xD (u0*18446744073709551616+u1) hl.pos;have pz:(u0*18446744073709551616+u1)/v1<18446744073709551616:=by
    refine (wH hl.pos).2 ?_
    have:=y5 18446744073709551616 (show u0+1<=v1 from hc)
    rw [xQ 18446744073709551616 v1];omega
   have Ox:=hl.first;rw [xQ] at fS;generalize (u0*18446744073709551616+u1)/v1=q0 at*
   generalize (u0*18446744073709551616+u1)%v1=r0 at*
   simp only [go_sem,ya,yi,zm,H2,hw.len,hl.lv,qX,wrapN (n:=n-1) (by omega),fq,dH 0 pre.length (show n<n+1 by omega),dH 0 pre.length (show n-1<n+1 by omega),C9,Da,show ¬(v1:Int)<=(u0:Int) by omega,f1];generalize mT:D P L (.loop [0,1,5,6,7,8] Ay) _=qq;obtain ⟨ex,s,rfl,iL,q,rfl,rfl,t0,t1,t5,t6,g1,g2,g3⟩:=bV mT (afP (P:=P) (L:=L) h.me h.ib hw hl (pre:=pre) (post:=post) (qs:=qs) q0) ⟨q0,r0,by
    rw [rq (by simp only [go_sem,ya,yt,ni,nW,nc,mZ,zZ,wF]) (by simp only [go_sem,ya,yb,yt,az hw.pu])];rw [yP (show r0<18446744073709551616 by omega),wR (show r0<18446744073709551616 by omega)]
    simp only [go_sem,ya]<;>rfl,fS,by omega,pz,Ox,rfl⟩
   exact behind iL q t0 t1 t5 t6 g1 g2 g3
  ·have po:u0=v1:=by omega
   have f1:=DX (P:=P) (f:=D P L) h.ib P4 GX (c:=0) (by omega);rw [yZ,show (uc 0)=AV.int .u64 0 from rfl] at f1;have P5:=hl.digit
   simp only [go_sem,ya,yi,zm,H2,hw.len,hl.lv,qX,wrapN (n:=n-1) (by omega),fq,dH 0 pre.length (show n<n+1 by omega),dH 0 pre.length (show n-1<n+1 by omega),C9,Da,show (v1:Int)<=(u0:Int) by omega,f1];generalize mT:D P L (.loop [0,1,5,6,7,8] Ay) _=qq;obtain ⟨ex,s,rfl,iL,q,rfl,rfl,t0,t1,t5,t6,g1,g2,g3⟩:=bV mT (afP (P:=P) (L:=L) h.me h.ib hw hl (pre:=pre) (post:=post) (qs:=qs) 18446744073709551615) ⟨18446744073709551615,u1+v1,by
    rw [rq (by simp only [go_sem,ya,yt,ni,nW,nc,mZ,zZ,wF]) (by simp only [go_sem,ya,yb,yt,az hw.pu])]
    simp only [go_sem,ya]<;>rfl,by rw [po];omega,by omega,by decide,by omega,rfl⟩
   exact behind iL q t0 t1 t5 t6 g1 g2 g3
 obtain ⟨tm,x',g1,g2,g3,g4,g5⟩:=jz;refine ⟨x',?_,g3,g4,g5⟩;exact DI h.axN g1 (.inr rfl) (by show gX _ [RV.t 4]=_;rw [GS,Gw,g2])
end
end
end VE
