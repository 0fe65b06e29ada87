import Derived.Test.YtflgmingejdfnaaGreatDoorXaq
import Derived.Test.YtflgmingejdfnaaGreatDoorXap
import Derived.Test.YtflgmingejdfnaaGreatDoorXak
import Derived.Test.YtflgmingejdfnaaGreatDoorXah
set_option linter.all false
set_option maxRecDepth 100000
open Bool renaming and_eq_true→yf,and_self→vU,false_eq_true→yt,not_false→xB,true_and→tf
open Int renaming gcd_comm→yaC,natAbs_ediv_of_dvd→wZ,natAbs_mul→xX,natCast_mul→xA,neg_neg→yaN,toNat_natCast→wo,toNat_of_nonneg→xn
open List renaming append_assoc→xg,append_nil→xI,cons_append→yH,drop→ux,drop_eq_getElem_cons→yO,drop_eq_nil_of_le→yZ,filter_append→tg,filter_cons→tN,filter_eq_nil_iff→vj,length_cons→yz,length_map→yU,length_nil→y5,length_range→tD,length_reverse→u7,length_take→yK,map_append→xG,mem_append→xR,mem_singleton→wv,nil_append→xE,range→yR,range'→xi,range'_succ→wS,range_succ→uD,replicate→yx,replicate_succ→xH,reverse_cons→tC,take_length→wi,take_of_length_le→yI
open Nat renaming add_zero→xS,beq→yq,beq_refl→y7,ble→yA,ble_eq_true_of_le→yv,blt→yB,div_le_self→uU,eq_zero_or_pos→xp,gcd→xU,le_of_ble_eq_true→yr,le_refl→yC,le_trans→xz,lt_of_le_of_lt→xW,lt_of_lt_of_le→yX,min_eq_left→xJ,mul_lt_mul''→uE,mul_one→yh,pow_add→vZ,pow_le_pow_left→ua,pow_le_pow_right→we,reduceAdd→yc,reduceEqDiff→ya,reduceLeDiff→yd,zero_add→yy,zero_le→vQ
open Rat renaming divInt→xQ,divInt_ofNat→tX
namespace VE
section
open Go (IntKind)
section
variable {P:aA} {L:Lib}
def adP {hp:Hp} {e:Bool} {n:Nat} {cs:List AV} {tm:Env} {h:Nat} {x:X} (hx:cI tm n (some x)=some h) (hh:h<=n):
  fg hp (.sl 1) (.aC e n cs) tm none (some x)=some (.aC (e&&yq h n) h (cs.take h)):=by
 simp only [fg,hx,et];simp [yv hh,slice];rw [show yA 0 h=true from yv (vQ _)];rfl
def zP (h:Has P L 300 jn) {v:AV} {l:List Int} (hv:aX v l) (hl:l.length<=20000000000):∃r,an P L 300 [v] r/\aX r (di l)/\shut r=r:=by
 rcases hv with ⟨rfl,h0⟩ | ⟨e,rfl⟩
 ·have:l=[]:=by simpa using h0
  subst this;refine ⟨.ab,?_,oP,rfl⟩;unfold an;rw [aT h];simp only [go_sem,ya,jn,IS,qU,aJ,show ¬(0:Int)<0 by decide]
 ·have key:=cG (P:=P) (L:=L) (live:=[0]) (a:=qU)
   (I:=fun k st=>∃(i:Nat) (e:Bool),st=⟨[(0,.aC e i ((l.take i).map aa))],[],0,0⟩/\i<=l.length/\i=k/\di (l.take i)=di l)
   (Q:=fun ex st=>∃tm ct,st=⟨tm,[],ct,0⟩/\ex= .exit 0/\∃i e,ah tm 0= .aC e i ((l.take i).map aa)/\i<=l.length/\l.take i=di l) ?_
  ·have hlen:(l.map aa).length=l.length:=by simp
   rw [hlen];have Ci:∃i e',an P L 300 [.aC e l.length (l.map aa)] (.aC e' i ((l.take i).map aa))/\i<=l.length/\l.take i=di l:=by
    unfold an;rw [aT h];simp only [go_sem,jn];generalize hq:D P L (.loop [0] qU) _=q;obtain ⟨ex,st,rfl,tm,ct,rfl,rfl,i,e',h2,h3,h4⟩:=cm hq (key l.length) ⟨l.length,e,by simp only [go_sem,ya,aJ,wi],yC _,rfl,by rw [wi]⟩;simp only [go_sem,aJ,h2];exact ⟨i,e',rfl,h3,h4⟩
   obtain ⟨i,e',g1,g2,g3⟩:=Ci;refine ⟨_,g1,?_,rfl⟩;rw [<-g3]
   have:=fM e' (l.take i)
   rwa [yK,xJ g2] at this
  ·rintro k st ⟨i,e,rfl,hi,rfl,ht⟩
   cases i with
   | zero=>
    right
    simp only [go_sem,ya,qU,show ¬(0:Int)<((0:Nat):Int) by omega];exact ⟨_,_,rfl,by simp,_,_,rfl,rfl,0,e,by simp only [go_sem,ya],vQ _,by simpa [di] using ht⟩
   | succ i=>
    have hi1:i<l.length:=by omega
    have iV:l.take (i+1)=l.take i++[l[i]]:=List.take_succ_eq_append_getElem hi1;have iJ:ux i ((l.take (i+1)).map aa)=[AV.int .i64 l[i]]:=by
     rw [iV,xG,List.drop_left' (by simp;omega)];rfl
    have Gp:fh 1 i (.aC e (i+1) ((l.take (i+1)).map aa))=some (.aO [AV.int .i64 l[i]]):=by
     rw [Ej e _ (by omega),yh,iJ]
    by_cases h0:l[i]=0
    ·left
     have pz:∀tm x,cI tm (i+1) (some x)=some i->fg [] (.sl 1) (.aC e (i+1) ((l.take (i+1)).map aa)) tm none (some x)=some (.aC (e&&yq i (i+1)) i ((l.take i).map aa)):=fun tm x hx=>by
      rw [adP hx (by omega),<-List.map_take,List.take_take,xJ (by omega)]
     simp only [go_sem,ya,qU,show (0:Int)<((i+1:Nat):Int) by omega,show ((i+1:Nat):Int)-1=(i:Int) by omega,wrapN (n:=i) (by omega),Gp,h0,pz,dF];refine ⟨_,i,rfl,by omega,i,_,by simp only [go_sem,aJ]<;>rfl,by omega,rfl,?_⟩
     rw [<-ht,iV,h0,AI]
    ·right
     simp only [go_sem,ya,qU,show (0:Int)<((i+1:Nat):Int) by omega,show ((i+1:Nat):Int)-1=(i:Int) by omega,wrapN (n:=i) (by omega),Gp,h0];refine ⟨_,_,rfl,by simp,_,_,rfl,rfl,i+1,e,by simp only [go_sem,ya],by omega,?_⟩;rw [<-ht,iV,DC h0]
end
end
section
open Go (IntKind)
abbrev uc (n:Nat):AV:= .int .u64 (n:Int)
def dt (v:AV) (l:List Nat):Prop:=bU v (l.map uc)
section
variable {v:AV} {l:List Nat}
def dt.len (h:dt v l) {hp:Hp}:eY hp 1 v=some (.int .i64 (l.length:Nat)):=by
 have:=bU.len (hp:=hp) h
 grind
def dt.pu (h:dt v l):aG v=true:=bU.pu h
def dt.aE (h:dt v l) (n:Nat) {hp:Hp}:freeze (n+1) hp v=some (v,hp):=bU.aE h n
def dt.shut (h:dt v l):VE.shut v=v:=bU.shut h
def dt.bg (h:dt v l):VE.bg v=v:=bU.bg h
def dt.bF (h:dt v l) {hp:Hp}:result hp v=some v:=bU.bF h
def dt.one (h:dt v l):cg v=true:=bU.one h
def dt.cells (h:dt v l):cellsOf v=[v]:=bU.cells h
def dt.a7 (h:dt v l) {i:Nat} (hi:i<l.length):fh 1 i v=some (.aO (uc (l.getD i 0)::(l.map uc).drop (i+1))):=by
 have:=bU.a7 h (i:=i) (by simpa using hi)
 grind
def adQ (e:Bool) (l:List Nat):dt (.aC e l.length (l.map uc)) l:=by
 have:=A8 e (l.map uc)
 rwa [yU] at this
def abM:dt .ab []:=oP
end
section
variable {P:aA} {L:Lib} {f:bZ}
def ahV {a b:Nat} (h:a<b):yB a b=true:=by simp_all
end
end
section
open Go (IntKind)
mutual
def below (n:Nat):AV->Prop
 | .ptr id _=>id<n
 | .aq id _ _=>id<n
 | .map id=>id<n
 | .it id=>id<n
 | .fn (.f _) first cap=>gJ n first/\gJ n cap
 | .fn (.y l) first cap=>l<n/\first=[]/\cap=[]
 | .agg cs=>gJ n cs
 | .ay cs=>gJ n cs
 | _=>True
def gJ (n:Nat):List AV->Prop
 | []=>True
 | v::r=>below n v/\gJ n r
end
def gK (n:Nat):Env->Prop
 | []=>True
 | (_,v)::r=>below n v/\gK n r
def jg (n:Nat):Obj->Prop
 | .cells _ pu _ _ cs=>pu=true\/gJ n cs
 | .mp _ ks vs=>gJ n ks/\gJ n vs
 | .si _ _=>True
 | .lp tm _ _ _ _ _=>gK n tm
def fO (b n:Nat):Hp->Prop
 | []=>True
 | (id,o)::r=>id<b/\jg n o/\fO b n r
mutual
def Nq {f:Nat->Option Nat} {n:Nat} (hf:∀x,x<n->f x=some x):∀{v:AV},below n v->bE f v=v
 | .int _ _,_ | .bool _,_ | .cu _ _,_ | .str _,_ | .gM,_ | .aO _,_ | .ab,_ | .aC _ _ _,_ | .eZ,_ | .gm,_ | .fS _ _,_ | .undef,_ | .bS _ _ _ _,_=>rfl
 | .ptr id o,h=>by simp only [bE,hf id h]
 | .aq id o k,h=>by simp only [bE,hf id h]
 | .map id,h=>by simp only [bE,hf id h]
 | .it id,h=>by simp only [bE,hf id h]
 | .fn (.y l) first cap,h=>by
  obtain ⟨h1,rfl,rfl⟩:=h;simp only [bE,hf l h1,dY]
 | .fn (.f _) first cap,h=>by
  simp only [bE,oI hf h.1,oI hf h.2]
 | .agg cs,h=>by simp only [below] at h;simp only [bE,oI hf h]
 | .ay cs,h=>by simp only [below] at h;simp only [bE,oI hf h]
def oI {f:Nat->Option Nat} {n:Nat} (hf:∀x,x<n->f x=some x):∀{vs:List AV},gJ n vs->dY f vs=vs
 | [],_=>rfl
 | v::r,h=>by simp only [dY,Nq hf h.1,oI hf h.2]
end
def Hh {f:Nat->Option Nat} {n:Nat} (hf:∀x,x<n->f x=some x):∀{tm:Env},gK n tm->hZ f tm=tm
 | [],_=>rfl
 | (_,v)::r,h=>by simp only [hZ,Nq hf h.1,Hh hf h.2]
def Yg {f:Nat->Option Nat} {n:Nat} (hf:∀x,x<n->f x=some x):∀{o:Obj},jg n o->iz f o=o
 | .cells _ pu _ _ cs,h=>by
  cases pu with
  | true=>rfl
  | false=>simp only [jg,yt,yay] at h;simp only [iz,yu,oI hf h]
 | .mp _ ks vs,h=>by simp only [iz,oI hf h.1,oI hf h.2]
 | .si _ _,_=>rfl
 | .lp tm _ _ _ _ _,h=>by simp only [jg] at h;simp only [iz,Hh hf h]
mutual
def MC {n:Nat}:∀{v:AV},below n v->∀x,x∈refs v->x<n
 | .int _ _,_,x,h | .bool _,_,x,h | .cu _ _,_,x,h | .str _,_,x,h | .gM,_,x,h | .aO _,_,x,h | .ab,_,x,h | .aC _ _ _,_,x,h | .eZ,_,x,h | .gm,_,x,h | .fS _ _,_,x,h | .undef,_,x,h | .bS _ _ _ _,_,x,h=>by simp [refs] at h
 | .ptr id o,h,x,hx=>by simp only [refs,wv] at hx;subst hx;exact h
 | .aq id o k,h,x,hx=>by simp only [refs,wv] at hx;subst hx;exact h
 | .map id,h,x,hx=>by simp only [refs,wv] at hx;subst hx;exact h
 | .it id,h,x,hx=>by simp only [refs,wv] at hx;subst hx;exact h
 | .fn (.y l) first cap,h,x,hx=>by simp only [refs,wv] at hx;subst hx;exact h.1
 | .fn (.f _) first cap,h,x,hx=>by
  simp only [refs,xR] at hx;exact hx.elim (oF h.1 x) (oF h.2 x)
 | .agg cs,h,x,hx=>by simp only [below] at h;simp only [refs] at hx;exact oF h x hx
 | .ay cs,h,x,hx=>by simp only [below] at h;simp only [refs] at hx;exact oF h x hx
def oF {n:Nat}:∀{vs:List AV},gJ n vs->∀x,x∈dh vs->x<n
 | [],_,x,h=>by simp [dh] at h
 | v::r,h,x,hx=>by
  simp only [dh,xR] at hx;exact hx.elim (MC h.1 x) (oF h.2 x)
end
def Dq {n:Nat}:∀{tm:Env},gK n tm->∀x,x∈dB tm->x<n
 | [],_,x,h=>by simp [dB] at h
 | (_,v)::r,h,x,hx=>by
  simp only [dB,xR] at hx;exact hx.elim (MC h.1 x) (Dq h.2 x)
def GZ {n:Nat}:∀{o:Obj},jg n o->∀x,x∈dC o->x<n
 | .cells _ pu _ _ cs,h,x,hx=>by
  cases pu with
  | true=>simp [dC] at hx
  | false=>simp only [jg,yt,yay] at h;exact oF h x hx
 | .mp _ ks vs,h,x,hx=>by
  simp only [dC,xR] at hx;exact hx.elim (oF h.1 x) (oF h.2 x)
 | .si _ _,_,x,hx=>by simp [dC] at hx
 | .lp tm _ _ _ _ _,h,x,hx=>by simp only [jg] at h;exact Dq h x hx
def bd (B:Nat):List (List AV)->Hp
 | []=>[]
 | cs::r=>(B+r.length,.cells true true true 1 cs)::bd B r
def ru (B:Nat):List (List AV)->Hp->Hp
 | [],acc=>acc
 | cs::r,acc=>ru (B+1) r ((B,.cells true true true 1 cs)::acc)
def MD:∀(l:List (List AV)) (B:Nat) (x:List AV) (acc:Hp),ru B (l++[x]) acc=(B+l.length,.cells true true true 1 x)::ru B l acc
 | [],B,x,acc=>rfl
 | c::l,B,x,acc=>by
  simp only [yH,ru,MD l,yz]
  grind
def Nr (B:Nat) (acc:Hp):∀rs:List (List AV),ru B rs.reverse acc=bd B rs++acc
 | []=>rfl
 | c::r=>by
  simp only [tC,MD,Nr B acc r,u7,bd,yH]
def HK {B:Nat} {old:Hp}:∀{rs:List (List AV)} {i:Nat} (h:i<rs.length),aj (bd B rs++old) (B+i)=some (.cells true true true 1 (rs.reverse[i]'(by simpa using h)))
 | c::r,i,h=>by
  simp only [bd,yH,tC];by_cases hi:i=r.length
  ·subst hi;rw [aj,y7,ym]
   simp
  ·have aU:i<r.length:=by grind
   rw [aj,ck (by omega),yu,HK aU]
   grind
def mg {B:Nat} {old:Hp}:∀{rs:List (List AV)} {x:Nat},x<B->aj (bd B rs++old) x=aj old x
 | [],x,_=>rfl
 | c::r,x,h=>by
  simp only [bd,yH];rw [aj,ck (by omega),yu,mg h]
def GQ {B:Nat} {old:Hp} {o:Obj}:∀{rs:List (List AV)} {x:Nat},x<B->aW (bd B rs++old) x o=bd B rs++aW old x o
 | [],x,_=>rfl
 | c::r,x,h=>by
  simp only [bd,yH];rw [aW,ck (by omega),yu,GQ h]
def Lr {B:Nat} {old:Hp}:∀{rs:List (List AV)} {x:Nat},x<B->cp (bd B rs++old) x=bd B rs++cp old x
 | [],x,_=>rfl
 | c::r,x,h=>by
  simp only [bd,yH];rw [cp,ck (by omega),yu,Lr h]
def ei {a b:Nat} (h:a<b):yB a b=true:=by simp_all
def zf {a b:Nat} (h:b<=a):yB a b=false:=by
 cases hq:yB a b with
 | false=>rfl
 | true=>have:=yr hq;omega
def GS {B:Nat} {old:Hp}:∀rs:List (List AV),b7 B (bd B rs++old)=b7 B old
 | []=>rfl
 | c::r=>by
  simp only [bd,yH];rw [b7,zf (by omega),yu,GS r]
def ME {B:Nat} {old:Hp} {f:Nat->Option Nat}:∀rs:List (List AV),iQ B f (bd B rs++old)=iQ B f old
 | []=>rfl
 | c::r=>by
  simp only [bd,yH];rw [iQ,zf (by omega),yu,ME r]
def LX {B n:Nat} {f:Nat->Option Nat} (hf:∀x,x<n->f x=some x):∀{old:Hp},fO B n old->iQ B f old=old
 | [],_=>rfl
 | (id,o)::r,h=>by
  rw [iQ,ei h.1,ym,Yg hf h.2.1,LX hf h.2.2]
def Yh {B s x:Nat} (h:B+s<=x):iA x (xi B s)=false:=by
 induction s generalizing B with
 | zero=>rfl
 | succ s ih=>rw [wS,iA,ck (by omega),yu,ih (by omega)]
def Hi {hp:Hp} {B R:Nat} (ie:∀i,i<R->∃rw ex sz cs,aj hp (B+i)=some (.cells rw true ex sz cs)):
  ∀(W:List Nat) (a6 s:Nat),W.length<a6->s<=R->W.filter (fun x=> !yB x B)=xi (B+s) (R-s)->reach hp B a6 W (xi B s)=xi B R
 | [],0,s,hf,_,_=>by simp at hf
 | [],a6+1,s,hf,hs,h=>by
  have:R-s=0:=by
   grind
  rw [reach,show R=s by omega]
 | id::W,0,s,hf,_,_=>by simp at hf
 | id::W,a6+1,s,hf,hs,h=>by
  have pN:W.length<a6:=by simp_all
  rw [reach];by_cases hid:id<B
  ·rw [ei hid,Bool.true_or,ym];rw [tN,ei hid] at h;exact Hi ie W a6 s pN hs (by simpa using h)
  ·rw [tN,zf (by omega)] at h;have hRs:R-s=(R-s-1)+1:=by
    have:=congrArg List.length h
    grind
   rw [hRs,wS] at h;injection h with h1 h2
   subst h1;rw [zf (by omega),Bool.false_or,Yh (yC _),yu];obtain ⟨rw,ex,sz,cs,ho⟩:=ie s (by omega);simp only [ho,dC,ym,xE];have e:xi B s++[B+s]=xi B (s+1):=by rw [List.range'_concat];simp
   rw [e];exact Hi ie W a6 (s+1) pN (by omega) (by rw [h2,show R-s-1=R-(s+1) by omega,show B+s+1=B+(s+1) by omega])
def Yi {B s i k:Nat} (h:i<s):iS (B+i) (xi B s) k=some (k+i):=by
 induction s generalizing B i k with
 | zero=>omega
 | succ s ih=>
  rw [wS,iS];by_cases hi:i=0
  ·simp_all
  ·rw [ck (by omega),yu]
   have:=ih (B:=B+1) (i:=i-1) (k:=k+1) (by omega)
   grind
def Xv {B R x:Nat} (h:x<B+R):hJ B (xi B R) x=some x:=by
 unfold hJ;by_cases hx:x<B
 ·rw [ei hx,ym]
 ·rw [zf (by omega),yu]
  have:=Yi (B:=B) (s:=R) (i:=x-B) (k:=B) (by omega)
  grind
def MF {hp:Hp} {f:Nat->Option Nat}:∀(ro:List (List AV)) (B:Nat) (acc:Hp),(∀i (h:i<ro.length),aj hp (B+i)=some (.cells true true true 1 ro[i]))->hX hp f (xi B ro.length) B acc=ru B ro acc
 | [],B,acc,_=>rfl
 | c::r,B,acc,h=>by
  have h0:=h 0 (by simp);simp only [xS,List.getElem_cons_zero] at h0;rw [yz,wS,hX];simp only [h0,iz,ym,ru]
  exact MF r (B+1) _ (fun i hi=>by
   have:=h (i+1) (by simpa using hi)
   rw [show B+1+i=B+(i+1) by omega,this]
   simp)
def LB {live:List Nat} {tm:Env} {B ct:Nat} {old:Hp} {rs:List (List AV)} (ht:gK B (cz tm live)) (ho:fO B (B+rs.length) old) (hl:(dB (cz tm live)).length+(b7 B old).length<100000)
  (hr:(b7 B old).filter (fun x=> !yB x B)=xi B rs.length):bw live ⟨tm,bd B rs++old,ct,B⟩=⟨cz tm live,bd B rs++old,B+rs.length,B⟩:=by
 have ie:∀i (h:i<rs.length),aj (bd B rs++old) (B+i)=some (.cells true true true 1 (rs.reverse[i]'(by simpa using h))):=fun i h=>HK h
 have RU:reach (bd B rs++old) B 100000 (dB (cz tm live)++b7 B (bd B rs++old)) []=xi B rs.length:=by
  have:=Hi (hp:=bd B rs++old) (B:=B) (R:=rs.length) (fun i hi=>⟨_,_,_,_,ie i hi⟩) (dB (cz tm live)++b7 B (bd B rs++old)) 100000 0 (by rw [GS,List.length_append];exact hl) (vQ _) (by
   rw [tg,GS,hr,vj.2 (fun x hx=>by
    have:=Dq ht x hx
    simp [ei this])]
   simp)
  grind
 have hid:∀x,x<B+rs.length->hJ B (xi B rs.length) x=some x:=fun x hx=>Xv hx
 have hn:=MF (hp:=bd B rs++old) (f:=hJ B (xi B rs.length)) rs.reverse B old (fun i hi=>ie i (by simpa using hi));rw [u7] at hn;simp only [bw,RU,ME,LX hid ho,hn,Nr,List.length_range']
 rw [Hh (n:=B) (fun x hx=>hid x (by omega)) ht]
def MG {B b n:Nat} (hb:b<=B):∀{H:Hp},fO b n H->∀x,x∈b7 B H->x<n
 | [],_,x,hx=>by simp [b7] at hx
 | (id,o)::r,h,x,hx=>by
  rw [b7,ei (by have:=h.1;omega),ym,xR] at hx;exact hx.elim (GZ h.2.1 x) (MG hb h.2.2 x)
def G0 {live:List Nat} {tm:Env} {B ct:Nat} {old:Hp} (ht:gK B (cz tm live)) (ho:fO B B old) (hl:(dB (cz tm live)).length+(b7 B old).length<100000):
  bw live ⟨tm,old,ct,B⟩=⟨cz tm live,old,B,B⟩:=by
 have:=LB (rs:=[]) (ct:=ct) ht (by simpa using ho) hl (by
  rw [vj.2 (fun x hx=>by have:=MG (yC B) ho x hx;simp [ei this])]
  rfl)
 simpa [bd] using this
def Hj {b n:Nat}:∀{a c:Hp},fO b n a->fO b n c->fO b n (a++c)
 | [],_,_,h=>h
 | (_,_)::_,_,h,k=>⟨h.1,h.2.1,Hj h.2.2 k⟩
def G1 {B:Nat}:∀{a c:Hp},b7 B (a++c)=b7 B a++b7 B c
 | [],_=>rfl
 | (id,o)::a,c=>by
  simp only [yH,b7,G1 (a:=a)]
  cases yB id B with
  | true=>simp only [ym,xg]
  | false=>simp only [yu]
def LY {B b n:Nat}:∀{rs:List (List AV)},B+rs.length<=b->fO b n (bd B rs)
 | [],_=>trivial
 | c::r,h=>by
  simp only [yz] at h;exact ⟨by omega,.inl rfl,LY (by omega)⟩
def Ls {B b:Nat}:∀{rs:List (List AV)},b7 b (bd B rs)=[]
 | []=>rfl
 | c::r=>by
  simp only [bd,b7,dC,ym,xE,Ls]
  grind
end
section
open Go (IntKind)
section
variable {P:aA} {L:Lib}
def sX {n:Nat} {F:av} (h:Has P L n F) {hp:Hp} {ct:Nat} {vals:List AV} {ex:Ex} {s:St} {v:AV} (hD:D P L F.body ⟨eE 0 vals,hp,ct,ct⟩=some (ex,s)) (he:ex= .normal\/ex= .ret) (hr:fe s F.bF=some v):
  fA P L (D P L) hp ct n vals=some (v,s.hp,s.ct):=by
 simp only [fA,h.heap,h.code,hD]
 grind
def Ij {hp:Hp} {ct l:Nat} {xs:List AV} {tm tm' lT mN:Env} {ps mM pH:List Nat} {a b a1 b1 a2 b2:VC} {pe kS Vb:mE} {s1 s2:St}
  (h1:aj hp l=some (.lp tm ps a b 0 pe)) (h2:lG tm ps xs=some tm') (h3:D P L a ⟨tm',hp,ct,ct⟩=some (.normal,s1)) (h4:aj s1.hp l=some (.lp lT mM a1 b1 0 kS))
  (h5:D P L b ⟨s1.tm,aW s1.hp l (.lp lT mM a1 b1 1 kS),s1.ct,s1.ct⟩=some (.normal,s2)) (h6:aj s2.hp l=some (.lp mN pH a2 b2 1 Vb)):
  fy (D P L) hp ct l xs=some (.bool true,aW s2.hp l (.lp mN pH a2 b2 0 .none),s2.ct):=by
 simp only [fy,h1,h2,h3,h4,h5,h6]
def Jl {f:X} {ps:List Nat} {as_ body:VC} {s:St} {n:Nat} {first cap:List AV} {v:AV} {hp:Hp} {ct:Nat} {tm:Env} {ps':List Nat} {a b:VC} {st:Nat}
  (h1:ao s.tm f= .fn (.f n) first cap) (h2:L.heap n=none) (h3:fA P L (D P L) ((s.ct,.lp s.tm ps as_ body 0 .none)::s.hp) (s.ct+1) n (first++(.fn (.y s.ct) [] []::cap))=some (v,hp,ct))
  (h4:aj hp s.ct=some (.lp tm ps' a b st .none)) (h5:st≠1):D P L (.rf f ps as_ body) s=some (.normal,⟨s.tm,cp hp s.ct,ct,s.base⟩):=by
 rw [ic];simp only [bh,h1,h2,h3,h4,ck h5,yu]
def eb (B n R:Nat):List AV:=(yR R).map (fun i=> .aq (B+i) 0 n)++yx (n-R) .ab
def ig (zero:AV) (val:Nat->Nat->AV) (n r c:Nat):List AV:=(yR c).map (fun c=>val c r)++yx (n-c) zero
def dz (val:Nat->Nat->AV) (n:Nat):Nat->List (List AV)
 | 0=>[]
 | r+1=>((yR n).map fun c=>val c r)::dz val n r
def oM (val:Nat->Nat->AV) (n:Nat):∀r,(dz val n r).length=r
 | 0=>rfl
 | r+1=>by rw [dz,yz,oM val n r]
def abN {B n R:Nat} (h:R<=n):(eb B n R).length=n:=by simp [eb];omega
def abO {zero:AV} {val:Nat->Nat->AV} {n r c:Nat} (h:c<=n):(ig zero val n r c).length=n:=by simp [ig];omega
def Oo {l:List AV} {k:Nat} {v z:AV}:over l.length [v] (l++yx (k+1) z)=l++[v]++yx k z:=by
 simp only [over,List.take_left',yz,y5,yy,xH]
 simp_all
def ZK {B n R:Nat} (h:R<n):over R [.aq (B+R) 0 n] (eb B n R)=eb B n (R+1):=by
 have:=Oo (l:=(yR R).map (fun i=>AV.aq (B+i) 0 n)) (k:=n-R-1) (v:= .aq (B+R) 0 n) (z:= .ab)
 simp only [yU,tD] at this;rw [show n-R-1+1=n-R by omega] at this;rw [eb,this,eb,uD,xG];rfl
def Ns {zero:AV} {val:Nat->Nat->AV} {n r c:Nat} (h:c<n):over c [val c r] (ig zero val n r c)=ig zero val n r (c+1):=by
 have:=Oo (l:=(yR c).map (fun c=>val c r)) (k:=n-c-1) (v:=val c r) (z:=zero)
 simp only [yU,tD] at this;rw [show n-c-1+1=n-c by omega] at this;rw [ig,this,ig,uD,xG];rfl
def ZL {zero:AV} {val:Nat->Nat->AV} {n r:Nat}:ig zero val n r n=(yR n).map fun c=>val c r:=by simp [ig]
def ZM {zero:AV} {val:Nat->Nat->AV} {n r:Nat}:ig zero val n r 0=yx n zero:=by simp [ig]
def Ik (z:AV):∀n,(yx n [z]).flatten=yx n z
 | 0=>rfl
 | n+1=>by rw [xH,List.flatten_cons,Ik z n,xH];rfl
def eL (b n:Nat) (fnv:AV):Env:=[(11,.fn (.f 133) [] [.aO [.int .i64 n]]),(10,.int .i64 n),(5,.ptr (b+3) 0),(9,.aq (b+2) 0 n),(8,.int .i64 n),(4,.ab),(3,.ptr (b+1) 0),(2,.ptr b 0),(0,.int .i64 n),(1,fnv)]
def bL (b n R:Nat) (fnv:AV) (st:Nat) (H:Hp):Hp:=
 (b+4,.lp (eL b n fnv) [12,13] nJ lJ st .none)::(b+3,.cells true false true 1 [.aq (b+2) 0 n])::(b+2,.cells true (yq R 0) true 1 (eb (b+5) n R))::(b+1,.cells true (aG fnv) true 1 [fnv])::(b,.cells true true true 1 [.int .i64 n])::H
def Lt {B b n:Nat} (hb:b<=B):∀{H:Hp},fO b n H->∀x,x∈b7 B H->x<n
 | [],_,x,hx=>by simp [b7] at hx
 | (id,o)::r,h,x,hx=>by
  rw [b7,ei (by have:=h.1;omega),ym,xR] at hx;exact hx.elim (GZ h.2.1 x) (Lt hb h.2.2 x)
def LZ {b b' n n':Nat} (hb:b<=b') (hn:∀o,jg n o->jg n' o):∀{H:Hp},fO b n H->fO b' n' H
 | [],_=>trivial
 | (id,o)::r,h=>⟨yX h.1 hb,hn o h.2.1,LZ hb hn h.2.2⟩
mutual
def sM {n n':Nat} (h:n<=n'):∀{v:AV},below n v->below n' v
 | .int _ _,_ | .bool _,_ | .cu _ _,_ | .str _,_ | .gM,_ | .aO _,_ | .ab,_ | .aC _ _ _,_ | .eZ,_ | .gm,_ | .fS _ _,_ | .undef,_ | .bS _ _ _ _,_=>trivial
 | .ptr _ _,k=>yX k h
 | .aq _ _ _,k=>yX k h
 | .map _,k=>yX k h
 | .it _,k=>yX k h
 | .fn (.f _) _ _,k=>⟨oG h k.1,oG h k.2⟩
 | .fn (.y _) _ _,k=>⟨yX k.1 h,k.2⟩
 | .agg cs,k=>by simp only [below] at k ⊢;exact oG h k
 | .ay cs,k=>by simp only [below] at k ⊢;exact oG h k
def oG {n n':Nat} (h:n<=n'):∀{vs:List AV},gJ n vs->gJ n' vs
 | [],_=>trivial
 | _::_,k=>⟨sM h k.1,oG h k.2⟩
end
def Dr {n n':Nat} (h:n<=n'):∀{tm:Env},gK n tm->gK n' tm
 | [],_=>trivial
 | (_,_)::_,k=>⟨sM h k.1,Dr h k.2⟩
def Xw {n n':Nat} (h:n<=n'):∀{o:Obj},jg n o->jg n' o
 | .cells _ pu _ _ cs,k=>k.imp id (oG h)
 | .mp _ ks vs,k=>⟨oG h k.1,oG h k.2⟩
 | .si _ _,_=>trivial
 | .lp tm _ _ _ _ _,k=>by simp only [jg] at k ⊢;exact Dr h k
mutual
def mi {n:Nat}:∀{v:AV},aG v=true->below n v
 | .int _ _,_ | .bool _,_ | .cu _ _,_ | .str _,_ | .gM,_ | .aO _,_ | .ab,_ | .aC _ _ _,_ | .eZ,_ | .gm,_ | .fS _ _,_ | .undef,_=>trivial
 | .bS _ _ _ _,_=>trivial
 | .ptr _ _,h | .aq _ _ _,h | .map _,h | .it _,h=>by simp [aG] at h
 | .fn (.y _) _ _,h=>by simp [aG] at h
 | .fn (.f _) _ _,h=>by
  simp only [aG,yf] at h;exact ⟨sH h.1,sH h.2⟩
 | .agg cs,h=>by simp only [aG] at h;simp only [below];exact sH h
 | .ay cs,h=>by simp only [aG] at h;simp only [below];exact sH h
def sH {n:Nat}:∀{vs:List AV},ax vs=true->gJ n vs
 | [],_=>trivial
 | _::_,h=>by
  simp only [ax,yf] at h;exact ⟨mi h.1,sH h.2⟩
end
structure E3 (b:Nat) (fnv:AV) (H:Hp):Prop where
 fv:below b fnv
 fl:(refs fnv).length<=1000
 one:cg fnv=true
 hb:fO b b H
 hl:∀B,(b7 B H).length<=1000
def MH {B n R:Nat}:gJ (B+R) (eb B n R):=by
 have cC:∀{a c:List AV},gJ (B+R) a->gJ (B+R) c->gJ (B+R) (a++c):=by
  intro a c
  induction a with
  | nil=>intro _ h;exact h
  | cons x a ih=>intro h1 h2;exact ⟨h1.1,ih h1.2 h2⟩
 have hm:∀l:List Nat,(∀i,i∈l->i<R)->gJ (B+R) (l.map fun i=>AV.aq (B+i) 0 n):=by
  intro l
  induction l with
  | nil=>intro _;trivial
  | cons x l ih=>intro h;exact ⟨by have:=h x (by simp);show B+x<B+R;omega,ih (fun i hi=>h i (by simp [hi]))⟩
 refine cC (hm _ (fun i hi=>List.mem_range.1 hi)) (sH ?_)
 induction n-R with
 | zero=>rfl
 | succ k ih=>rw [xH];exact ih
def Nt {B n R:Nat}:dh (eb B n R)=xi B R:=by
 unfold eb;have cC:∀a c:List AV,dh (a++c)=dh a++dh c:=by
  intro a c
  induction a with
  | nil=>rfl
  | cons x a ih=>simp only [yH,dh,ih,xg]
 have hm:∀l:List Nat,dh (l.map fun i=>AV.aq (B+i) 0 n)=l.map (B+·):=by
  intro l
  induction l with
  | nil=>rfl
  | cons x l ih=>simp only [List.map_cons,dh,refs,ih];rfl
 have hr:dh (yx (n-R) AV.ab)=[]:=by
  induction n-R with
  | zero=>rfl
  | succ k ih=>rw [xH];exact ih
 rw [cC,hm,hr,xI,List.range'_eq_map_range]
def Az {live:List Nat} {tm:Env} {b n ct st:Nat} {fnv:AV} {H:Hp} {rs:List (List AV)} (ho:E3 b fnv H) (hn:rs.length<=n) (eB:n<=1000) (ht:gK (b+5) (cz tm live)) (hl:(dB (cz tm live)).length<=1000):
  bw live ⟨tm,bd (b+5) rs++bL b n rs.length fnv st H,ct,b+5⟩=⟨cz tm live,bd (b+5) rs++bL b n rs.length fnv st H,b+5+rs.length,b+5⟩:=by
 have mH:jg (b+5+rs.length) (.cells true (yq rs.length 0) true 1 (eb (b+5) n rs.length)):= .inr MH;have agy:dC (.cells true (yq rs.length 0) true 1 (eb (b+5) n rs.length))=xi (b+5) rs.length:=by
  cases rs with
  | nil=>rfl
  | cons c r=>simp only [dC,yz,ck (Nat.succ_ne_zero _),yu,Nt]
 have hTM:gK b (eL b n fnv)->True:=fun _=>trivial
 have FF:gK (b+4) (eL b n fnv):=by
  have:=sM (show b<=b+4 by omega) ho.fv
  refine ⟨⟨trivial,trivial,trivial⟩,trivial,show b+3<b+4 by omega,show b+2<b+4 by omega,trivial,trivial,show b+1<b+4 by omega,show b<b+4 by omega,trivial,this,trivial⟩
 have ajn:(dB (eL b n fnv)).length<=1010:=by
  have:=ho.fl
  simp [eL,dB,refs,dh];omega
 have zY:(dC (.cells true (aG fnv) true 1 [fnv])).length<=1000:=by
  cases aG fnv with
  | true=>simp [dC]
  | false=>simp [dC,dh];exact ho.fl
 have hHr:=Lt (B:=b+5) (show b<=b+5 by omega) ho.hb;have e:b7 (b+5) (bL b n rs.length fnv st H)=dB (eL b n fnv)++([b+2]++(xi (b+5) rs.length++(dC (.cells true (aG fnv) true 1 [fnv])++([]++b7 (b+5) H)))):=by
  simp only [bL,b7,ei (show b+4<b+5 by omega),ei (show b+3<b+5 by omega),ei (show b+2<b+5 by omega),ei (show b+1<b+5 by omega),ei (show b<b+5 by omega),ym,agy];simp only [dC,dh,refs,yu,ym,xI]
 have no:∀(l:List Nat),(∀x,x∈l->x<b+5)->l.filter (fun x=> !yB x (b+5))=[]:=fun l h=>vj.2 (fun x hx=>by simp [ei (h x hx)])
 have all:∀(k:Nat),(xi (b+5) k).filter (fun x=> !yB x (b+5))=xi (b+5) k:=fun k=>List.filter_eq_self.2 (fun x hx=>by
  have:=(List.mem_range'_1.1 hx).1
  simp [zf this])
 refine LB ht ?_ ?_ ?_
 ·refine ⟨by omega,Dr (by omega) FF,by omega,.inr ⟨show b+2<_ by omega,trivial⟩,by omega,mH,by omega,.inr ⟨sM (by omega) ho.fv,trivial⟩,by omega,.inl rfl,?_⟩;exact LZ (by omega) (fun o h=>Xw (by omega) h) ho.hb
 ·rw [e]
  have:=ho.hl (b+5)
  grind
 ·rw [e];simp only [tg]
  rw [no _ (fun x hx=>by have:=Dq FF x hx;omega),no [b+2] (fun x hx=>by simp at hx;omega),all,no _ (fun x hx=>by
   have h1:jg b (.cells true (aG fnv) true 1 [fnv]):= .inr ⟨ho.fv,trivial⟩
   have:=GZ h1 x hx;omega),no [] (fun x hx=>by simp at hx),no _ (fun x hx=>by have:=hHr x hx;omega)]
  simp
end
end
section
open Go (IntKind)
section
variable {pre x post:List Nat} {i:Nat}
end
def EA (n:Nat) (k:IntKind) (a:Int):below n (.int k a)=True:=rfl
def IX (n id o k:Nat):below n (.aq id o k)=(id<n):=rfl
def En (n:Nat):gK n []=True:=rfl
def D5 (n i:Nat) (v:AV) (r:Env):gK n ((i,v)::r)=(below n v/\gK n r):=rfl
section
variable {P:aA} {L:Lib}
end
end
section
open Go (IntKind)
structure fo (x vs:List Nat) (n v1 v2 u0 u1 u2:Nat):Prop where
 n2:2<=n
 nb:n<=99999999999
 lx:x.length=n+1
 lv:vs.length=n
 gx:lo 18446744073709551616 x
 gv:lo 18446744073709551616 vs
 eI:vs.getD (n-1) 0=v1
 cR:vs.getD (n-2) 0=v2
 h0:x.getD n 0=u0
 h1:x.getD (n-1) 0=u1
 h2:x.getD (n-2) 0=u2
 pos:0<v1
 lt:bv 18446744073709551616 x<18446744073709551616*bv 18446744073709551616 vs
def ahW (b p a v1 v2:Nat):a+p*v2+p*b*v1=(v1*b+v2)*p+a:=by grind
def ahX (b p a v0 v1 v2:Nat):a+p*v2+p*b*v1+p*b*b*v0=((v0*b+v1)*b+v2)*p+a:=by grind
section
variable {x vs:List Nat} {n v1 v2 u0 u1 u2:Nat}
def fo.KS (h:fo x vs n v1 v2 u0 u1 u2):v1<18446744073709551616:=h.eI▸Bx (by decide) h.gv _
def fo.Aj (h:fo x vs n v1 v2 u0 u1 u2):v2<18446744073709551616:=h.cR▸Bx (by decide) h.gv _
def fo.KT (h:fo x vs n v1 v2 u0 u1 u2):u0<18446744073709551616:=h.h0▸Bx (by decide) h.gx _
def fo.Gq (h:fo x vs n v1 v2 u0 u1 u2):u1<18446744073709551616:=h.h1▸Bx (by decide) h.gx _
def fo.Gr (h:fo x vs n v1 v2 u0 u1 u2):u2<18446744073709551616:=h.h2▸Bx (by decide) h.gx _
def fo.parts (h:fo x vs n v1 v2 u0 u1 u2):∃p vr ur,bv 18446744073709551616 vs=(v1*18446744073709551616+v2)*p+vr/\vr<p/\bv 18446744073709551616 x=((u0*18446744073709551616+u1)*18446744073709551616+u2)*p+ur/\ur<p:=by
 obtain ⟨m,hm⟩:∃m,n=m+2:=⟨n-2,by have:=h.n2;omega⟩;subst hm;have e1:=Ba (b:=18446744073709551616) (l:=vs) (m+1);have e2:=Ba (b:=18446744073709551616) (l:=vs) m;have f0:=Ba (b:=18446744073709551616) (l:=x) (m+2);have f1:=Ba (b:=18446744073709551616) (l:=x) (m+1);have f2:=Ba (b:=18446744073709551616) (l:=x) m;have eI:vs.getD (m+1) 0=v1:=h.eI;have cR:vs.getD m 0=v2:=h.cR;have h0:x.getD (m+2) 0=u0:=h.h0;have h1:x.getD (m+1) 0=u1:=h.h1;have h2:x.getD m 0=u2:=h.h2
 rw [yI (by have:=h.lv;omega),eI,e2,cR] at e1
 rw [yI (by have:=h.lx;omega),h0,f1,h1,f2,h2] at f0;have g1:=Jg (PN h.gv m)
 rw [yK,xJ (by have:=h.lv;omega)] at g1;have g2:=Jg (PN h.gx m)
 rw [yK,xJ (by have:=h.lx;omega)] at g2;refine ⟨18446744073709551616^m,_,_,?_,g1,?_,g2⟩
 ·grind
 ·grind
def fo.down (h:fo x vs n v1 v2 u0 u1 u2) {t r:Nat} (ht:t*v1+r=u0*18446744073709551616+u1) (hr:r*18446744073709551616+u2<t*v2):bv 18446744073709551616 x/bv 18446744073709551616 vs<=t-1:=by
 obtain ⟨p,vr,ur,h1,h2,h3,h4⟩:=h.parts;exact Mv h1 h3 h4 ht hr
def fo.stop (h:fo x vs n v1 v2 u0 u1 u2) {t r:Nat} (iH:t<18446744073709551616) (ht:t*v1+r=u0*18446744073709551616+u1) (hr:18446744073709551616<=r\/t*v2<=r*18446744073709551616+u2):t<=bv 18446744073709551616 x/bv 18446744073709551616 vs+1:=by
 obtain ⟨p,vr,ur,h1,h2,h3,h4⟩:=h.parts;exact Nj (by decide) h1 h2 h3 h.pos h.Aj iH ht hr
def fo.first (h:fo x vs n v1 v2 u0 u1 u2):bv 18446744073709551616 x/bv 18446744073709551616 vs<=(u0*18446744073709551616+u1)/v1:=by
 obtain ⟨p,vr,ur,h1,h2,h3,h4⟩:=h.parts;exact LS h1 h3 h4 h.Gr h.pos
def fo.top (h:fo x vs n v1 v2 u0 u1 u2):u0<=v1:=by
 obtain ⟨p,vr,ur,h1,h2,h3,h4⟩:=h.parts;exact Nk h1 h3 h2 h.Aj h.lt
def fo.digit (h:fo x vs n v1 v2 u0 u1 u2):bv 18446744073709551616 x/bv 18446744073709551616 vs<18446744073709551616:=by
 refine (Nat.div_lt_iff_lt_mul ?_).2 h.lt;rcases xp (bv 18446744073709551616 vs) with h0 | h0
 ·have:=h.lt;rw [h0] at this;simp at this
 ·exact h0
end
section
variable {P:aA} {L:Lib}
end
end
section
open Go (IntKind)
section
variable {P:aA} {L:Lib}
structure Wd (P:aA) (L:Lib):Prop where
 Um:L.pure 143=some qQ
 amS:L.pure 171=some Es
 amT:L.pure 173=some Et
 amU:L.pure 167=some EK
 amV:Has P L 165 TG
 amW:Has P L 166 TH
 amX:Has P L 168 TI
 amY:Has P L 169 TJ
 amZ:Has P L 158 TE
 am0:Has P L 157 TD
 am1:Has P L 159 TF
 am2:Has P L 144 Tu
 am3:Has P L 137 Tt
def bp:VC->VC
 | .seq _ b=>b
 | c=>c
end
end
section
open Go (IntKind)
def WN (v:AV) (m:Nat):Prop:=∃l,dt v l/\lo 18446744073709551616 l/\ov l/\bv 18446744073709551616 l=m
def abP {hp:Hp} {id n h:Nat} {pu ex:Bool} {cs:List AV} {tm:Env} {y:X} (hg:aj hp id=some (.cells true pu ex 1 cs)) (hy:cI tm n (some y)=some h) (h1:0<h) (h2:h<=n):
  fg hp (.sl 1) (.aq id 0 n) tm none (some y)=some (.aq id 0 h):=by
 have hx:cI tm 0 none=some 0:=rfl;simp only [fg,hg,hx,hy,yv (vQ h),yv h2,y7,vU,ym,ck (show (0:Nat)≠h by omega),Bool.false_and,yu,Nat.zero_mul,xS,Nat.sub_zero]
def ahY (P:aA) (L:Lib) (f:bZ) (hp:Hp) (ct n:Nat) (xs:List AV):cw P L f hp ct .heap (.fn (.f n) [] []) xs=fA P L f hp ct n xs:=by
 simp only [cw,xE,xI]
section
variable {P:aA} {L:Lib}
end
end
section
open Go (IntKind)
def ZN {b p A V bu VK U0 pre:Nat} (h1:bu=pre+p*A) (h2:bu+VK*V=U0):(pre+p*(A%V))+(VK+p*(A/V))*V=U0:=by
 have jW:=Nat.div_add_mod A V
 grind
section
variable {P:aA} {L:Lib}
end
end
section
open Go (IntKind)
def iK (v:AV) (n:Int):Prop:=∃w l,v= .agg [.bool (decide (n<0)),w]/\aX w l/\dg l/\nz l/\dv l=n.natAbs
def iv {l:List Int} {k:Nat} (hd:dg l) (hn:nz l) (h:dv l<1000000000^k):l.length<=k:=by
 by_cases h0:l=[]
 ·grind
 ·have h1:=E0 hn hd h0;have h2:1000000000^(l.length-1)<1000000000^k:=xW h1 h;have h3:=(Nat.pow_lt_pow_iff_right (show 1<1000000000 by decide)).1 h2;omega
def gl {hp:Hp} {ct id:Nat} {a b x y:AV} (h1:cg a=true) (h2:cg b=true) (p1:aG a=true) (p2:aG b=true):
  iI hp ct id 0 2 [a,b] (some (.cells true true true 2 [x,y]))=some (.ay [],aW hp id (.cells true true true 2 [a,b]),ct):=by
 rw [zp (by rfl) (by simp) (by simp [bT,h1,h2])];simp [ax,p1,p2,over]
section
variable {P:aA} {L:Lib}
def ij (neg:Bool) (m:Nat):Int:=if neg=true then -(m:Int) else m
def pC (h:Has P L 294 rL) (cU:Has P L 300 jn) (neg:Bool) {v:AV} {l:List Int} (hv:aX v l) (hd:dg l) (hl:l.length<=20000000000):
  ∃r,an P L 294 [.bool neg,v] r/\iK r (ij neg (dv l)):=by
 obtain ⟨w,e1,hw,mc⟩:=zP cU hv hl;have lj:=qF l;have Gs:=A9 l;have CY:=qG hd;have hc:(neg&&decide ((0:Int)<((di l).length:Nat)))=decide (ij neg (dv l)<0):=by
  unfold ij
  cases neg with
  | false=>simp
  | true=>
   simp only [tf,yQ];by_cases h0:di l=[]
   ·rw [h0] at lj ⊢;simp only [dv] at lj;simp [<-lj]
   ·have h1:0<(di l).length:=List.length_pos_iff.2 h0;have h2:0<dv l:=by
     rw [<-lj];rcases xp (dv (di l)) with h | h
     ·exact absurd (PL Gs CY h) h0
     ·exact h
    rw [vR (by omega),vR (by omega)]
 refine ⟨.agg [.bool (decide (ij neg (dv l)<0)),w],?_,w,di l,rfl,hw,CY,Gs,?_⟩
 ·rw [<-hc];unfold an at e1 ⊢;rw [aT h]
  cases neg with
  | false=>
   simp only [go_sem,ya,yc,yd,rL,b9,hv.aE,e1,hw.pu,hw.shut,hw.one,hw.cells,gl];rcases hw with ⟨rfl,_⟩ | ⟨e,rfl⟩<;>rfl
  | true=>
   simp only [go_sem,ya,yc,yd,rL,b9,hv.aE,e1,hw.len,hw.pu,hw.shut,hw.one,hw.cells,gl];rcases hw with ⟨rfl,_⟩ | ⟨e,rfl⟩<;>rfl
 ·rw [lj];unfold ij;split<;>omega
def Un (h:Has P L 298 Fv) (jo:Has P L 294 rL) (cU:Has P L 300 jn) {v:AV} {n:Int} {K:Nat} (hK:K<=20000000000) (hv:iK v n) (hn:n.natAbs<1000000000^K):∃r,an P L 298 [v] r/\iK r (-n):=by
 obtain ⟨w,l,rfl,hw,hd,hz,lj⟩:=hv;obtain ⟨r,e1,hr⟩:=pC jo cU (!decide (n<0)) hw hd (xz (iv hd hz (by rw [lj];exact hn)) hK)
 have e:ij (!decide (n<0)) (dv l)= -n:=by
  rw [lj];unfold ij;by_cases h0:n<0
  ·simp [h0];omega
  ·simp [h0];omega
 rw [e] at hr;obtain ⟨w2,l2,rfl,oB,eH,iW,JJ⟩:=hr;refine ⟨_,?_,w2,l2,rfl,oB,eH,iW,JJ⟩;unfold an at e1 ⊢;rw [aT h];simp only [go_sem,ya,yc,Fv,b9,hw.pu,hw.aE,hw.one,oB.pu,oB.one,dE,yy,gk,e1,gl,dM];rcases oB with ⟨rfl,_⟩ | ⟨e,rfl⟩<;>rfl
end
end
section
open Go (IntKind)
def nc (s:Int) (w:AV) (z:Int):Prop:=
 (w= .ab/\s=z/\-9223372036854775808<=z/\z<9223372036854775808)\/
 (∃e l,w= .aC e l.length (l.map uc)/\lo 18446744073709551616 l/\ov l/\bv 18446744073709551616 l=z.natAbs/\s=(if z<0 then -1 else 1)/\9223372036854775808<=z.natAbs)
def Bd (k:Nat) (z:Int):Prop:=z.natAbs<2^k
def Bd.mono {k m:Nat} {z:Int} (h:Bd k z) (hk:k<=m):Bd m z:=yX h (we (by decide) hk)
def Bd.neg {k:Nat} {z:Int} (h:Bd k z):Bd k (-z):=by unfold Bd at h ⊢;rwa [Int.natAbs_neg]
def Bd.add {k m:Nat} {a b:Int} (ha:Bd k a) (hb:Bd m b):Bd (max k m+1) (a+b):=by
 have h1:Bd (max k m) a:=ha.mono (by omega);have h2:Bd (max k m) b:=hb.mono (by omega);unfold Bd at h1 h2 ⊢
 grind
def Bd.sub {k m:Nat} {a b:Int} (ha:Bd k a) (hb:Bd m b):Bd (max k m+1) (a-b):=by
 rw [Int.sub_eq_add_neg];exact ha.add hb.neg
def Bd.mul {k m:Nat} {a b:Int} (ha:Bd k a) (hb:Bd m b):Bd (k+m) (a*b):=by
 unfold Bd at*
 rw [xX,vZ];exact uE ha hb
def Bd.le {k:Nat} {a b:Int} (hb:Bd k b) (h:a.natAbs<=b.natAbs):Bd k a:=xW h hb
def WN.pos {v:AV} {m:Nat} (h:WN v m) (h0:0<m):∃e l,v= .aC e l.length (l.map uc)/\l≠[]/\lo 18446744073709551616 l/\ov l/\bv 18446744073709551616 l=m:=by
 obtain ⟨l,hv,g,n,hb⟩:=h;have hl:l≠[]:=fun e=>by subst e;simp [bv] at hb;omega
 rcases hv with ⟨_,e⟩ | ⟨e,rfl⟩
 ·simp_all
 ·exact ⟨e,l,by simp,hl,g,n,hb⟩
def WN.zero {v:AV} (h:WN v 0):∃n,eY [] 1 v=some (.int .i64 n)/\n=0:=by
 obtain ⟨l,hv,g,n,hb⟩:=h
 have:=abh (b:=18446744073709551616) (by decide) n hb
 subst this;exact ⟨_,hv.len,rfl⟩
def WN.sf {v:AV} {m:Nat} (h:WN v m):∃l,dt v l/\lo 18446744073709551616 l/\ov l/\bv 18446744073709551616 l=m:=h
def nc.li {s:Int} {w:AV} {z:Int} (h:nc s w z):(s<0↔z<0)/\(s=0↔z=0)/\-9223372036854775808<=s/\s<9223372036854775808:=by
 rcases h with ⟨_,rfl,h1,h2⟩ | ⟨e,l,_,_,_,_,rfl,h1⟩
 ·grind
 ·grind
section
variable {P:aA} {L:Lib}
structure Nu (P:aA) (L:Lib):Prop extends Wd P L where
 JK:Has P L 117 B3
 zL:Has P L 142 rI
 am4:Has P L 136 Tq
 am5:Has P L 145 Tv
 jN:Has P L 146 nQ
 nW:Has P L 147 pk
 rN:Has P L 163 pn
 am6:Has P L 118 Tm
 ajo:Has P L 119 c119
 am7:Has P L 156 TC
 JL:Has P L 100 zD
 kK:Has P L 164 mI
 Cf:Has P L 148 zH
 FE:Has P L 130 zF
end
end
section
open Go (IntKind)
def ew:VC->VC
 | .seq a _=>a
 | c=>c
def nc.sf {s:Int} {w:AV} {z:Int} (h:nc s w z):∃l,dt w l:=by
 rcases h with ⟨rfl,_⟩ | ⟨e,l,rfl,_⟩
 ·exact ⟨[],abM⟩
 ·exact ⟨l,adQ e l⟩
section
variable {P:aA} {L:Lib}
end
end
section
open Go (IntKind)
def Il {P:aA} {L:Lib} (a b c:VC) (s:St):D P L (.seq a (.seq b c)) s=rq P L (D P L (.seq a b) s) c:=by
 rw [mA,mA]
 cases D P L a s with
 | none=>rfl
 | some q=>
  obtain ⟨ex,st⟩:=q
  cases ex with
  | normal=>rw [jB,jB,mA]
  | ret=>rfl
  | exit id=>rfl
section
variable {P:aA} {L:Lib}
end
end
section
open Go (IntKind)
section
variable {P:aA} {L:Lib}
end
def jc (v:AV) (r:Rat):Prop:=∃s1 w1 s2 w2,v= .agg [aa s1,w1,aa s2,w2]/\nc s1 w1 r.num/\nc s2 w2 (r.den:Int)
def Hq (k:Nat) (r:Rat):Prop:=Bd k r.num/\Bd k (r.den:Int)
def GU {a b:Int} (hb:0<b):(xQ a b).num=a/(Int.gcd a b:Nat)/\((xQ a b).den:Int)=b/(Int.gcd a b:Nat):=by
 constructor
 ·rw [Rat.num_divInt,Int.sign_eq_one_of_pos hb,Int.one_mul,yaC]
 ·rw [Rat.den_divInt,yD (by omega),yaC]
  grind
def Hq.divInt {k:Nat} {a b:Int} (hb:0<b) (ka:Bd k a) (kb:Bd k b):Hq k (xQ a b):=by
 obtain ⟨h1,h2⟩:=GU (a:=a) hb;refine ⟨ka.le ?_,kb.le ?_⟩
 ·rw [h1,wZ (Int.gcd_dvd_left a b)];exact uU _ _
 ·rw [h2,wZ (Int.gcd_dvd_right a b)];exact uU _ _
section
def ahZ {s t:Int} {v w:AV} {l m:List Nat} (hv:dt v l) (hw:dt w m) (hp:Hp) (ct id:Nat) (a b x y:AV):iI hp ct id 0 4 [.int .i64 s,v,.int .i64 t,w] (some (.cells true true true 4 [a,b,x,y]))=some (.ay [],aW hp id (.cells true true true 4 [.int .i64 s,v,.int .i64 t,w]),ct):=by
 rw [zp (by rfl) (by simp) (by simp [bT,hv.one,hw.one,Ek])];simp [ax,hv.pu,hw.pu,over,Ew]
def ah0 {s t:Int} {v w:AV} {l m:List Nat} (hv:dt v l) (hw:dt w m) (hp:Hp):result hp (.agg [aa s,v,aa t,w])=some (.agg [aa s,v,aa t,w]):=by
 rcases hv with ⟨rfl,_⟩ | ⟨e,rfl⟩<;>rcases hw with ⟨rfl,_⟩ | ⟨e',rfl⟩<;>rfl
variable {P:aA} {L:Lib}
structure VL (P:aA) (L:Lib):Prop extends Nu P L where
 Uo:Has P L 101 zE
 VM:Has P L 69 Gd
 Up:Has P L 111 Fl
 VN:Has P L 98 CT
 am8:Has P L 108 Tf
 ajp:Has P L 102 JB
 h74:Has P L 74 KD
 h50:Has P L 50 KC
 lk:Has P L 49 c49
 VO:Has P L 73 Gf
 VP:Has P L 70 Ge
 h71:Has P L 71 Vu
 am9:Has P L 149 Tw
end
end
section
open Go (IntKind)
def Hq.mono {k m:Nat} {r:Rat} (h:Hq k r) (hk:k<=m):Hq m r:=⟨h.1.mono hk,h.2.mono hk⟩
def Hq.neg {k:Nat} {r:Rat} (h:Hq k r):Hq k (-r):=⟨h.1.neg,h.2⟩
def add_eq (a b:Rat):a+b=xQ (a.num*b.den+b.num*a.den) ((a.den:Int)*b.den):=by
 rw [Rat.add_def',<-tX,xA]
def mul_eq (a b:Rat):a*b=xQ (a.num*b.num) ((a.den:Int)*b.den):=by
 rw [Rat.mul_def',<-tX,xA]
def Oq (a:Rat):0<(a.den:Int):=by have:=a.den_pos;omega
def G2 (a b:Rat):0<(a.den:Int)*b.den:=Int.mul_pos (Oq a) (Oq b)
def Bd.ajq {k:Nat} {a b:Int} (ha:Bd k a) (hb:Bd k b):Bd (k+1) (a+b):=by
 have:=ha.add hb
 grind
def Hq.add {k m:Nat} {a b:Rat} (ha:Hq k a) (hb:Hq m b):Hq (k+m+1) (a+b):=by
 rw [add_eq];refine Hq.divInt (G2 a b) ?_ ((ha.2.mul hb.2).mono (by omega));exact (ha.1.mul hb.2).ajq ((hb.1.mul ha.2).mono (by omega))
def Hq.mul {k m:Nat} {a b:Rat} (ha:Hq k a) (hb:Hq m b):Hq (k+m) (a*b):=by
 rw [mul_eq];exact Hq.divInt (G2 a b) (ha.1.mul hb.1) (ha.2.mul hb.2)
def Hq.sub {k m:Nat} {a b:Rat} (ha:Hq k a) (hb:Hq m b):Hq (k+m+1) (a-b):=by
 rw [Rat.sub_eq_add_neg];exact ha.add hb.neg
def Hq.inv {k:Nat} {a:Rat} (ha:Hq k a):Hq k a⁻¹:=by
 have h1:(a⁻¹).num.natAbs<=a.den:=by
  rw [Rat.num_inv,xX]
  grind
 refine ⟨ha.2.le (by simpa using h1),?_⟩;unfold Bd;rw [Rat.den_inv]
 split
 ·have h2:=ha.2;unfold Bd at h2
  simp_all
 ·exact ha.1
def Hq.div {k m:Nat} {a b:Rat} (ha:Hq k a) (hb:Hq m b):Hq (k+m) (a/b):=by
 rw [Rat.div_def];exact ha.mul hb.inv
section
variable {P:aA} {L:Lib}
end
end
section
open Go (IntKind)
def Rz:List AV->Option (List Nat)
 | []=>some []
 | .int .u64 (.ofNat d)::r=>bif yB d 18446744073709551616 then (match Rz r with | some l=>some (d::l) | none=>none) else none
 | _::_=>none
def FG:List Nat->Nat
 | []=>0
 | a::r=>a+18446744073709551616*FG r
def SE:List Nat->Bool
 | []=>false
 | [a]=> !yq a 0
 | _::r=>SE r
def adR:List AV->Option AV
 | [.agg [.int .i64 s,.ab]]=>bif BN s then some (.str (bz s)) else none
 | [.agg [.int .i64 s,.aC _ n cs]]=>
  match Rz cs with
  | some l=>
   bif yq l.length n&&(yA n 4000000000&&(SE l&&yA 9223372036854775808 (FG l))) then
    match s with
    | .ofNat 1=>some (.str (az (FG l)))
    | .negSucc 0=>some (.str (45::az (FG l)))
    | _=>none
   else none
  | none=>none
 | _=>none
end
section
open Go (IntKind)
section
variable {P:aA} {L:Lib}
structure Tx (P:aA) (L:Lib):Prop extends VL P L where
 VQ:L.pure 99=some adR
 ana:L.pure 175=some Eu
 anb:L.pure 152=some Dz
 anc:L.pure 153=some Dm
 ane:L.pure 154=some EJ
 anf:L.pure 109=some Ff
 ang:Has P L 155 TB
 anh:Has P L 172 TK
 ani:Has P L 151 TA
 anj:Has P L 107 Td
 VR:Has P L 46 CQ
 ank:Has P L 110 Tg
 h62:Has P L 62 Vn
def RT (r:Rat):List Nat:=bz r.num++(if r.den=1 then [] else 47::az r.den)
def HL {z:Int} {k:Nat} (h:Bd k z):(bz z).length<=k+1:=by
 have h1:∀m:Nat,m<2^k->(az m).length<=max k 1:=fun m hm=>by
  cases k with
  | zero=>
       have:m=0:=by simpa using hm
       subst this;decide
  | succ k=>
   rw [Nat.max_eq_left (by omega)];exact oR (k:=k) (yX hm (ua (by decide) _))
 by_cases h0:z<0
 ·rw [A1 h0];unfold Bd at h
  grind
 ·obtain ⟨m,rfl⟩:∃m:Nat,z=m:=⟨z.toNat,by omega⟩
  have:=h1 m (by unfold Bd at h;simpa using h)
  rw [qH];omega
end
end
section
open Go (IntKind)
section
variable {P:aA} {L:Lib}
def Ot:∀(l m:List Nat) (a:Nat),dT (l++m) a=(dT l a).bind (fun v=>dT m v)
 | [],m,a=>rfl
 | b::l,m,a=>by
  simp only [yH,dT]
  cases (yA 48 b&&yA b 57) with
  | true=>exact Ot l m _
  | false=>rfl
end
end
section
open Go (IntKind)
def ZO {b:Nat} {r:List Nat} (h:ej (b::r)=true):48<=b/\b<=57:=by
 simp only [ej,yf] at h
 simp_all
section
variable {P:aA} {L:Lib}
end
end
section
open Go (IntKind)
def eR (p:List Nat):Bool:=ej p&&(match p with | []=>false | b::r=> !(yq b 48)||r.isEmpty)
def fp (p:List Nat):Nat:=(dT p 0).getD 0
def jO (neg:Bool) (t:List Nat):Int:=
 if eR (t.take (bR t))=false\/(neg=true/\t.take (bR t)=[48]) then 1
 else if bR t<t.length/\(eR (t.drop (bR t+1))=false\/t.drop (bR t+1)=[48]\/t.drop (bR t+1)=[49]) then 1
 else if 600<bR t\/600<t.length-bR t-1 then 4
 else if bR t<t.length/\xU (fp (t.take (bR t))) (fp (t.drop (bR t+1)))≠1 then 1
 else 0
def gV:List Nat->Int
 | []=>jO false []
 | b::t=>if b=45 then jO true t else jO false (b::t)
def Ou:∀{p:List Nat} (a:Nat),ej p=true->∃n,dT p a=some n
 | [],a,_=>⟨a,rfl⟩
 | b::r,a,h=>by
  have h':=h;simp only [ej,yf] at h';obtain ⟨n,hn⟩:=Ou (p:=r) (10*a+(b-48)) h'.2;exact ⟨n,by simp only [dT,h'.1.1,h'.1.2,vU,ym];exact hn⟩
def DM:∀(k:Nat) {p:List Nat},p.length=k->eR p=true->az (fp p)=p:=by
 intro k
 induction k with
 | zero=>intro p hl h;rw [List.eq_nil_of_length_eq_zero hl] at h;simp [eR] at h
 | succ k ih=>
  intro p hl h;rcases snoc p with rfl | ⟨m,a,rfl⟩
  ·grind
  ·simp only [eR,yf,GY] at h;obtain ⟨⟨h1,h2⟩,h3⟩:=h;simp only [ej,yf] at h2;have ha1:=yr h2.1.1;have ha2:=yr h2.1.2;obtain ⟨n,hn⟩:=Ou 0 h1;have hv:fp (m++[a])=10*n+(a-48):=by
    unfold fp;rw [Ot,hn];simp only [Option.bind_some,dT,h2.1.1,h2.1.2,vU,ym,Option.getD_some]
   cases m with
   | nil=>
    have:n=0:=by simpa [dT] using hn.symm
    rw [hv,jX (by omega)]
    simp;omega
   | cons b r=>
    have hd:eR (b::r)=true:=by
     simp only [eR,h1,tf]
     cases r with
     | nil=>simp
     | cons c r=>simp at h3 ⊢;exact h3
    have hm:=ih (p:=b::r) (by simpa using hl) hd;have hnv:fp (b::r)=n:=by unfold fp;rw [hn];rfl
    rw [hnv] at hm;have iE:n≠0:=fun e=>by
     rw [jX (by omega)] at hm
     simp_all
    rw [hv,lC (by omega),show (10*n+(a-48))/10=n by omega,show 48+(10*n+(a-48))%10=a by omega,hm]
def Lu (t:List Nat):bR t<t.length->t=t.take (bR t)++47::t.drop (bR t+1):=by
 induction t with
 | nil=>simp
 | cons b r ih=>
  intro h;simp only [bR] at h ⊢
  grind
def Nv {n:Int} {d:Nat} (hd:0<d) (hg:xU n.natAbs d=1):∃r:Rat,r.num=n/\r.den=d:=⟨⟨n,d,by omega,hg⟩,rfl,rfl⟩
def agz {s:List Nat} (h:gV s=0):∃r:Rat,s=RT r/\(az r.num.natAbs).length<=600/\(az r.den).length<=600:=by
 have key:∀(neg:Bool) (t:List Nat),jO neg t=0->∃r:Rat,(if neg=true then [45] else [])++t=RT r/\(az r.num.natAbs).length<=600/\(az r.den).length<=600:=by
  intro neg t h;unfold jO at h
  split at h
  ·grind
  rename_i h1
  split at h
  ·grind
  rename_i h2
  split at h
  ·grind
  rename_i h3
  split at h
  ·grind
  rename_i h4;have hle:=DL t;have hp:eR (t.take (bR t))=true:=by
   cases hb:eR (t.take (bR t)) with
   | true=>rfl
   | false=>exact absurd (.inl hb) h1
  have oC:=DM _ rfl hp;generalize hn:fp (t.take (bR t))=n at*
  have ah1:neg=true->n≠0:=fun hh e=>by
   subst e;exact h1 (.inr ⟨hh,by rw [<-oC];rfl⟩)
  have hint:(if neg=true then [45] else [])++az n=bz (if neg=true then -(n:Int) else n):=by
   cases neg with
   | true=>
    have:=ah1 rfl
    simp only [yQ];rw [A1 (by omega)]
    simp
   | false=>simp [qH]
  have JM:(if neg=true then -(n:Int) else n).natAbs=n:=by split<;>omega
  have VS:(az n).length<=600:=by rw [oC,yK];omega
  by_cases hs:bR t<t.length
  ·have hq:eR (t.drop (bR t+1))=true:=by
    cases hb:eR (t.drop (bR t+1)) with
    | true=>rfl
    | false=>exact absurd ⟨hs,.inl hb⟩ h2
   have me:=DM _ rfl hq;have hg:xU n (fp (t.drop (bR t+1)))=1:=by
    grind
   have jF:=Lu t hs;have KU:(t.drop (bR t+1)).length<=600:=by rw [List.length_drop];omega
   rw [<-me] at jF KU;have sj:fp (t.drop (bR t+1))≠0:=fun e=>by
    rw [e] at me;exact h2 ⟨hs,.inr (.inl (by rw [<-me];rfl))⟩
   have jP:fp (t.drop (bR t+1))≠1:=fun e=>by
    rw [e] at me;exact h2 ⟨hs,.inr (.inr (by rw [<-me];rfl))⟩
   generalize fp (t.drop (bR t+1))=d at*
   obtain ⟨r,bG,dA⟩:=Nv (n:=if neg=true then -(n:Int) else n) (d:=d) (by omega) (by rw [JM];exact hg)
   refine ⟨r,?_,by rw [bG,JM];exact VS,by rw [dA];exact KU⟩
   unfold RT;rw [bG,dA,yD jP,<-hint,xg]
   congr 1
   rw [oC];exact jF
  ·have ht:t.take (bR t)=t:=yI (by omega);rw [ht] at oC;obtain ⟨r,bG,dA⟩:=Nv (n:=if neg=true then -(n:Int) else n) (d:=1) (by omega) (Nat.gcd_one_right _);refine ⟨r,?_,by rw [bG,JM];exact VS,by rw [dA];decide⟩
   unfold RT;rw [bG,dA,yS rfl,<-hint,xI,oC]
 cases s with
 | nil=>exact absurd h (by decide)
 | cons b t=>
  simp only [gV] at h
  split at h
  ·rename_i hb;subst hb;exact key true t h
  ·exact key false (b::t) h
end
section
namespace Nd
structure Ord (n:Nat) (l:List Int):Prop where
 len:l.length=n
 kP:∀a,a<n->0<=l.getD a 0/\l.getD a 0<n
 inj:∀a b,a<n->b<n->l.getD a 0=l.getD b 0->a=b
end Nd
end
section
namespace Nd
open Go (IntKind)
section
variable {P:aA} {L:Lib}
abbrev an (P:aA) (L:Lib) (f:Nat) (vals:List AV) (r:AV):Prop:=cf P L (D P L) f vals=some r
end
end Nd
end
section
open Go (IntKind)
structure Ck (P:aA) (L:Lib):Prop extends Tx P L where
 anl:L.pure 128=some Dy
 anm:L.pure 162=some trimS
 h86:Has P L 86 Vw
 ann:Has P L 124 Tn
 ano:Has P L 125 To
 anp:Has P L 129 Tp
section
variable {P:aA} {L:Lib}
def adS {a b:List Nat} (h:a=b):dI a b=true:=by
 subst h
 induction a with
 | nil=>rfl
 | cons x a ih=>simp [dI,ih]
end
end
section
open Go (IntKind)
def MI {m B k:Nat} (hB:B<=3*k) (hk:0<k) (h:m<2^B):(az m).length<=k:=by
 obtain ⟨j,rfl⟩:∃j,k=j+1:=⟨k-1,by omega⟩;refine oR (yX h (xz (we (by decide) hB) ?_));rw [Nat.pow_mul];exact ua (by decide) _
section
variable {P:aA} {L:Lib}
end
end
section
open Go (IntKind)
def abQ {l:List Int} {i:Nat} (h:l.length<=i):l.getD i 0=0:=by simp_all
section
variable {P:aA} {L:Lib}
end
end
section
open Go (IntKind)
section
variable {P:aA} {L:Lib}
def Uq (h:Has P L 296 nS) {v w:AV} {a b:List Int} (hv:aX v a) (hw:aX w b) (ha:dg a) (hb:dg b) (na:nz a) (nb:nz b) (la:a.length<=20000000000) (lb:b.length<=20000000000):
  an P L 296 [v,w] (aa (iC (dv a) (dv b))):=by
 unfold an;rw [aT h];by_cases hlen:a.length=b.length
 ·have key:=cG (P:=P) (L:=L) (live:=[0,1,5]) (a:=qS)
   (I:=fun k st=>∃j:Nat,st=⟨[(0,v),(1,w),(5,aa ((j:Int)-1))],[],0,0⟩/\j<=a.length/\j=k/\a.drop j=b.drop j)
   (Q:=fun ex st=>∃tm ct,st=⟨tm,[],ct,0⟩/\((ex= .ret/\ah tm 4=aa (iC (dv a) (dv b)))\/(ex= .exit 0/\a=b))) ?_
  ·simp only [go_sem,ya,nS,hv.len,hw.len,show (a.length:Int)=b.length by omega];generalize hq:D P L (.loop [0,1,5] qS) _=q;obtain ⟨ex,st,rfl,tm,ct,rfl,h2⟩:=cm hq (key a.length) ⟨a.length,by
    rw [wrap64 (by omega) (by omega)];rw [hlen]
    simp only [go_sem,ya,aJ,aP hv.pu,aS _ hv.pu,aP hw.pu,aS _ hw.pu]<;>rfl,yC _,rfl,by rw [yZ (yC _),yZ (by omega)]⟩
   rcases h2 with ⟨rfl,h2⟩ | ⟨rfl,h2⟩
   ·simp only [go_sem,h2]
   ·simp only [go_sem,aJ];subst h2;simp [iC]
  ·rintro k st ⟨j,rfl,hj,rfl,he⟩
   cases j with
   | zero=>
    right
    simp only [go_sem,ya,qS,show ¬(0:Int)<=((0:Nat):Int)-1 by omega];exact ⟨_,_,rfl,by simp,_,_,rfl,.inr ⟨rfl,by simpa using he⟩⟩
   | succ i=>
    have h1:i<a.length:=by omega
    have h2:i<b.length:=by omega
    have U8:=PM ha hb h1 h2 he;have aU:=PM hb ha h2 h1 he.symm;by_cases c1:a[i]<b[i]
    ·right
     simp only [go_sem,ya,qS,show ((i+1:Nat):Int)-1=(i:Int) by omega,show (0:Int)<=(i:Int) by omega,hv.a7 h1,hw.a7 h2,c1];refine ⟨_,_,rfl,by simp,_,_,rfl,.inl ⟨rfl,?_⟩⟩;simp only [go_sem];unfold iC;rw [yS (U8 c1)]
    ·by_cases c2:b[i]<a[i]
     ·right
      simp only [go_sem,ya,qS,show ((i+1:Nat):Int)-1=(i:Int) by omega,show (0:Int)<=(i:Int) by omega,hv.a7 h1,hw.a7 h2,c1,c2];refine ⟨_,_,rfl,by simp,_,_,rfl,.inl ⟨rfl,?_⟩⟩;simp only [go_sem];unfold iC;rw [yD (by omega),yS (by omega)]
     ·left
      simp only [go_sem,ya,qS,show ((i+1:Nat):Int)-1=(i:Int) by omega,show (0:Int)<=(i:Int) by omega,hv.a7 h1,hw.a7 h2,c1,c2];refine ⟨_,i,rfl,by omega,i,?_,by omega,rfl,?_⟩
      ·rw [wrap64 (by omega) (by omega)];simp only [go_sem,ya,aJ,aP hv.pu,aS _ hv.pu,aP hw.pu,aS _ hw.pu]<;>rfl
      ·rw [yO h1,yO h2,he,show a[i]=b[i] by omega]
 ·by_cases c1:a.length<b.length
  ·have:=Rk ha nb hb c1
   simp only [go_sem,ya,nS,hv.len,hw.len,show ¬(a.length:Int)=b.length by omega,show (a.length:Int)<b.length by omega];unfold iC;rw [yS this]
  ·have:=Rk hb na ha (show b.length<a.length by omega)
   simp only [go_sem,ya,nS,hv.len,hw.len,show ¬(a.length:Int)=b.length by omega,show ¬(a.length:Int)<b.length by omega];unfold iC;rw [yD (by omega),yS this]
end
end
section
open Go (IntKind)
def p7 {hp:Hp} {ct id o:Nat} {v:Int} {ex:Bool} {l:List Int} (h:o<l.length):iI hp ct id o 1 [.int .i64 v] (some (.cells true true ex 1 (l.map aa)))=some (.ay [],aW hp id (.cells true true ex 1 ((l.set o v).map aa)),ct):=by
 rw [zp (by rfl) (by simp;omega) (by rfl)]
 have:over o [AV.int .i64 v] (l.map aa)=(l.set o v).map aa:=by
  simp only [over,yz,y5,yy];rw [List.map_set,List.set_eq_take_append_cons_drop,yS (by simpa using h)]
  simp
 rw [this];rfl
def mC {l:List Int} {o:Nat} (h:o<l.length):ux o (l.map aa)=AV.int .i64 (l.getD o 0)::ux (o+1) (l.map aa):=by
 rw [yO (by simpa using h)]
 grind
def lK {v:AV} {l:List Int} (hv:aX v l) {i:Nat} (h:i<l.length):fh 1 i v=some (.aO (.int .i64 (l.getD i 0)::(l.map aa).drop (i+1))):=by
 rw [hv.a7 h]
 grind
def abR {o x y c:Int} (ho:0<=o/\o<1000000000) (hx:0<=x/\x<1000000000) (hy:0<=y/\y<1000000000) (hc:0<=c/\c<1000000000):
  (0<=x*y/\x*y<=999999998000000001)/\0<=o+x*y+c/\o+x*y+c<1000000000000000000:=by
 have h1:=Int.mul_nonneg hx.1 hy.1;have h2:=Int.mul_le_mul (show x<=999999999 by omega) (show y<=999999999 by omega) hy.1 (by decide);omega
section
variable {P:aA} {L:Lib}
def agA {v w:AV} {a b:List Int} (hv:aX v a) (hw:aX w b) (ha:dg a) (hb:dg b) (la:a.length<=20000000000) (lb:b.length<=20000000000) {n i:Nat} (hn:n=a.length+b.length) (hi:i<a.length) {out0:List Int}:
  ∀k s,(∃(j:Nat) (c:Int) (out:List Int),bw [0,1,5,6,7,8] s=⟨[(0,v),(1,w),(5,.aq 0 0 n),(6,aa i),(7,aa c),(8,aa j)],[(0,.cells true true true 1 (out.map aa))],1,0⟩/\j+k=b.length/\out.length=n/\dg out/\(0<=c/\c<1000000000)/\
    dv out+1000000000^i*1000000000^j*c.toNat=dv out0+1000000000^i*((a.getD i 0).toNat*dv (b.take j))/\(∀m,i+b.length<=m->out.getD m 0=out0.getD m 0))->
   ∃ex s',D P L (.loop [0,1,5,6,7,8] Bu) s=some (ex,s')/\∃tm c out,s'=⟨tm,[(0,.cells true true true 1 (out.map aa))],1,0⟩/\ex= .exit 2/\ah tm 0=v/\ah tm 1=w/\ah tm 5= .aq 0 0 n/\ah tm 6=aa i/\ah tm 7=aa c/\out.length=n/\dg out/\(0<=c/\c<1000000000)/\
    dv out+1000000000^i*1000000000^b.length*c.toNat=dv out0+1000000000^i*((a.getD i 0).toNat*dv b)/\(∀m,i+b.length<=m->out.getD m 0=out0.getD m 0):=by
 refine cG (I:=fun k s=>∃(j:Nat) (c:Int) (out:List Int),s=⟨[(0,v),(1,w),(5,.aq 0 0 n),(6,aa i),(7,aa c),(8,aa j)],[(0,.cells true true true 1 (out.map aa))],1,0⟩/\j+k=b.length/\out.length=n/\dg out/\(0<=c/\c<1000000000)/\
    dv out+1000000000^i*1000000000^j*c.toNat=dv out0+1000000000^i*((a.getD i 0).toNat*dv (b.take j))/\(∀m,i+b.length<=m->out.getD m 0=out0.getD m 0))
  (Q:=fun ex s'=>∃tm c out,s'=⟨tm,[(0,.cells true true true 1 (out.map aa))],1,0⟩/\ex= .exit 2/\ah tm 0=v/\ah tm 1=w/\ah tm 5= .aq 0 0 n/\ah tm 6=aa i/\ah tm 7=aa c/\out.length=n/\dg out/\(0<=c/\c<1000000000)/\
    dv out+1000000000^i*1000000000^b.length*c.toNat=dv out0+1000000000^i*((a.getD i 0).toNat*dv b)/\(∀m,i+b.length<=m->out.getD m 0=out0.getD m 0)) ?_
 rintro k s ⟨j,c,out,rfl,hk,hlen,hd,hc,bC,CZ⟩;by_cases hj:j<b.length
 ·left
  obtain ⟨x,hx⟩:∃x,x=a.getD i 0:=⟨_,rfl⟩;obtain ⟨y,hy⟩:∃y,y=b.getD j 0:=⟨_,rfl⟩;obtain ⟨o,ho⟩:∃o,o=out.getD (i+j) 0:=⟨_,rfl⟩;have gx:=gb ha i;have gy:=gb hb j;have VT:=gb hd (i+j);rw [<-hx] at gx;rw [<-hy] at gy;rw [<-ho] at VT;obtain ⟨p1,p2,p3⟩:=abR VT gx gy hc;obtain ⟨t,ht⟩:∃t:Nat,o+x*y+c=t:=⟨(o+x*y+c).toNat,by omega⟩;have hr:((t:Nat):Int).tmod 1000000000=((t%1000000000:Nat):Int):=by rw [Int.tmod_eq_emod_of_nonneg (by omega)];rfl
  have hq:((t:Nat):Int).tdiv 1000000000=((t/1000000000:Nat):Int):=by rw [Int.tdiv_eq_ediv_of_nonneg (by omega)];rfl
  have e1:=lK hv hi;have e2:=lK hw hj;rw [<-hx] at e1;rw [<-hy] at e2;have e3:=mC (l:=out) (o:=i+j) (by omega);rw [<-ho] at e3;have og:t=o.toNat+x.toNat*y.toNat+c.toNat:=by
   have:((x.toNat*y.toNat:Nat):Int)=x*y:=by rw [xA,xn gx.1,xn gy.1]
   omega
  have aW:=IT (l:=out) (j:=i+j) (x:=((t%1000000000:Nat):Int)) (by omega);rw [<-ho,wo,vZ] at aW;have ah2:=abf (Y:=dv (b.take j)) og aW (by rw [hx];exact bC)
  simp only [go_sem,ya,yh,Bu,hw.len,show (j:Int)<b.length by omega,wrapN (n:=i+j) (by omega),show (i:Int)+(j:Int)=((i+j:Nat):Int) from rfl,fL 0 0 (show i+j<n by omega),yy,e3,e1,e2,wrap64 (n:=x*y) (by omega) (by omega),wrap64 (n:=o+x*y) (by omega) (by omega),ht,wrapN (n:=t) (by omega),dw _ _ _ (show (1000000000:Int)≠0 by decide),er _ _ _ (show (1000000000:Int)≠0 by decide),hr,hq,wrapN (n:=t/1000000000) (by omega),p7 (l:=out) (o:=i+j) (by omega)];refine ⟨_,k-1,rfl,by omega,j+1,((t/1000000000:Nat):Int),out.set (i+j) ((t%1000000000:Nat):Int),?_,by omega,by simp [hlen],Ey hd (by omega),by omega,?_,fun m hm=>?_⟩
  ·rw [wrap64 (by omega) (by omega)];simp only [go_sem,ya,yc,aJ,aP hv.pu,aS _ hv.pu,aP hw.pu,aS _ hw.pu]<;>rfl
  ·rw [wo,oU,Nat.pow_succ,<-hx,<-hy];exact ah2
  ·rw [Og (by omega)];exact CZ m hm
 ·right
  have:j=b.length:=by omega
  subst this;rw [wi] at bC;simp only [go_sem,ya,Bu,hw.len,show ¬(b.length:Int)<b.length by omega];exact ⟨_,_,rfl,by simp,_,c,out,rfl,rfl,by simp only [go_sem,ya],by simp only [go_sem,ya],by simp only [go_sem,ya],by simp only [go_sem,ya],by simp only [go_sem,ya],hlen,hd,hc,bC,CZ⟩
end
end
section
open Go (IntKind)
def Hk (n:Nat):(yx n [AV.int .i64 0]).flatten=(yx n (0:Int)).map aa:=by simp_all
def adT (b:Bool):Fy true (some b)=some (.bool (!b)):=by cases b<;>rfl
def MJ (n m:Nat):(yx n (0:Int)).getD m 0=0:=by grind
section
variable {P:aA} {L:Lib}
def agB {v w:AV} {a b:List Int} (hv:aX v a) (hw:aX w b) (ha:dg a) (hb:dg b) (la:a.length<=20000000000) (lb:b.length<=20000000000) {n:Nat} (hn:n=a.length+b.length):
  ∀k s,(∃(i:Nat) (out:List Int),bw [0,1,5,6] s=⟨[(0,v),(1,w),(5,.aq 0 0 n),(6,aa i)],[(0,.cells true true true 1 (out.map aa))],1,0⟩/\i+k=a.length/\out.length=n/\dg out/\dv out=dv (a.take i)*dv b/\(∀m,i+b.length<=m->out.getD m 0=0))->
   ∃ex s',D P L (.loop [0,1,5,6] Bv) s=some (ex,s')/\∃tm out,s'=⟨tm,[(0,.cells true true true 1 (out.map aa))],1,0⟩/\ex= .exit 0/\ah tm 5= .aq 0 0 n/\out.length=n/\dg out/\dv out=dv a*dv b:=by
 refine cG (I:=fun k s=>∃(i:Nat) (out:List Int),s=⟨[(0,v),(1,w),(5,.aq 0 0 n),(6,aa i)],[(0,.cells true true true 1 (out.map aa))],1,0⟩/\i+k=a.length/\out.length=n/\dg out/\dv out=dv (a.take i)*dv b/\(∀m,i+b.length<=m->out.getD m 0=0))
  (Q:=fun ex s'=>∃tm out,s'=⟨tm,[(0,.cells true true true 1 (out.map aa))],1,0⟩/\ex= .exit 0/\ah tm 5= .aq 0 0 n/\out.length=n/\dg out/\dv out=dv a*dv b) ?_
 rintro k s ⟨i,out,rfl,hk,hlen,hd,bC,CZ⟩;by_cases hi:i<a.length
 ·left
  simp only [go_sem,ya,Bv,hv.len,show (i:Int)<a.length by omega];generalize hq:D P L (.loop [0,1,5,6,7,8] Bu) _=q;obtain ⟨ex,s,rfl,tm,c,Cj,rfl,rfl,t0,t1,t5,t6,t7,BX,jP,hc,ah3,Ur⟩:=cm hq (agA (P:=P) (L:=L) hv hw ha hb la lb hn hi (out0:=out) b.length) ⟨0,0,out,by simp only [go_sem,ya,yc,aJ,aP hv.pu,aS _ hv.pu,aP hw.pu,aS _ hw.pu]<;>rfl,by omega,hlen,hd,by omega,by simp [dv],fun m _=>rfl⟩
  have hz:Cj.getD (i+b.length) 0=0:=by rw [Ur _ (yC _),CZ _ (yC _)]
  have e3:=mC (l:=Cj) (o:=i+b.length) (by omega);rw [hz] at e3;have aW:=IT (l:=Cj) (j:=i+b.length) (x:=c) (by omega);rw [hz,vZ] at aW
  simp only [go_sem,ya,yh,aJ,t0,t1,t5,t6,t7,hw.len,aP hv.pu,aS _ hv.pu,aP hw.pu,aS _ hw.pu,wrapN (n:=i+b.length) (by omega),show (i:Int)+(b.length:Int)=((i+b.length:Nat):Int) from rfl,fL 0 0 (show i+b.length<n by omega),yy,e3,Int.zero_add,wrap64 (n:=c) (by omega) (by omega),p7 (l:=Cj) (o:=i+b.length) (by omega)];refine ⟨_,k-1,rfl,by omega,i+1,Cj.set (i+b.length) c,?_,by omega,by simp [BX],Ey jP hc,?_,fun m hm=>?_⟩
  ·rw [wrap64 (by omega) (by omega)];simp only [go_sem,ya,yc,aJ,aP hv.pu,aS _ hv.pu,aP hw.pu,aS _ hw.pu]<;>rfl
  ·rw [oU,Nat.add_mul,<-bC,Nat.mul_assoc];simp only [Int.toNat_zero,Nat.mul_zero,xS] at aW;rw [aW];exact ah3
  ·rw [Og (by omega),Ur m (by omega),CZ m (by omega)]
 ·right
  have:i=a.length:=by omega
  subst this;rw [wi] at bC;simp only [go_sem,ya,Bv,hv.len,show ¬(a.length:Int)<a.length by omega];exact ⟨_,_,rfl,by simp,_,out,rfl,rfl,by simp only [go_sem,ya],hlen,hd,bC⟩
def JN (h:Has P L 293 pq) (cU:Has P L 300 jn) {v w:AV} {a b:List Int} (hv:aX v a) (hw:aX w b) (ha:dg a) (hb:dg b) (la:a.length<=8000000000) (lb:b.length<=8000000000):
  ∃r out,an P L 293 [v,w] r/\aX r out/\shut r=r/\dg out/\nz out/\dv out=dv a*dv b:=by
 obtain ⟨n,hn⟩:∃n,n=a.length+b.length:=⟨_,rfl⟩;have bW:∀ct:Nat,py ct 1 8 [.int .i64 0] (some n) (some n)=some (.aq ct 0 n,.cells true true true 1 ((yx n (0:Int)).map aa)):=fun ct=>by
  rw [By (sz:=1) (by omega) (by omega) (by rfl) (by rfl),Hk];rfl
 unfold an;rw [aT h]
 simp only [go_sem,ya,yc,pq,hv.len,hw.len,wrapN (n:=n) (by omega),show (a.length:Int)+(b.length:Int)=((a.length+b.length:Nat):Int) from rfl,<-hn,bW];generalize hq:D P L (.loop [0,1,5,6] Bv) _=q;obtain ⟨ex,s,rfl,tm,out,rfl,rfl,t5,hlen,hd,bC⟩:=cm hq (agB (P:=P) (L:=L) hv hw ha hb (by omega) (by omega) hn a.length) ⟨0,yx n 0,by simp only [go_sem,ya,yc,aJ,aP hv.pu,aS _ hv.pu,aP hw.pu,aS _ hw.pu]<;>rfl,by omega,by simp,Oi n,by rw [Oh];simp [dv],fun m _=>MJ n m⟩
 have jQ:=fM true out;rw [hlen] at jQ;obtain ⟨r,e1,hr,mc⟩:=zP cU jQ (by omega);refine ⟨r,di out,?_,hr,mc,qG hd,A9 out,by rw [qF];exact bC⟩
 have iL:∀hp:Hp,kI 0 n (some (true,1,out.map aa,hp))=some (.aC true n (out.map aa),hp):=fun hp=>jz true (by simp [hlen]) (by decide)
 simp only [go_sem,yc,aJ,t5,iL,e1,mc,hr.bF]
def Us (h:Has P L 278 Fs) (jq:Has P L 293 pq) (jo:Has P L 294 rL) (cU:Has P L 300 jn) {v w:AV} {n m:Int} {K:Nat} (hK:K<=8000000000) (hv:iK v n) (hw:iK w m) (hn:n.natAbs<1000000000^K) (hm:m.natAbs<1000000000^K):
  ∃r,an P L 278 [v,w] r/\iK r (n*m):=by
 obtain ⟨x,a,rfl,hx,ha,na,va⟩:=hv;obtain ⟨y,b,rfl,hy,hb,nb,vb⟩:=hw;have la:=xz (iv ha na (by rw [va];exact hn)) hK
 have lb:=xz (iv hb nb (by rw [vb];exact hm)) hK
 obtain ⟨z,out,e1,hz,mc,hd,Gs,bC⟩:=JN jq cU hx hy ha hb la lb;have lo:out.length<=20000000000:=by
  refine iv hd Gs ?_;rw [bC];have h1:=iy ha;have h2:=iy hb;have h3:dv a*dv b<1000000000^a.length*1000000000^b.length:=uE h1 h2;rw [<-vZ] at h3;have hk:∀K,a.length+b.length<=K->dv a*dv b<1000000000^K:=fun K h=>yX h3 (we (by decide) h)
  exact hk 20000000000 (by omega)
 obtain ⟨r,e2,hr⟩:=pC jo cU (!(decide (n<0)==decide (m<0))) hz hd lo;have e:ij (!(decide (n<0)==decide (m<0))) (dv out)=n*m:=by
  rw [bC,va,vb];have hnm:((n.natAbs*m.natAbs:Nat):Int)=(n.natAbs:Int)*m.natAbs:=xA _ _;unfold ij;by_cases h0:n<0<;>by_cases h1:m<0<;>simp only [h0,h1,yE,yF,beq_self_eq_true,Bool.not_true,yt,yG,hnm]
  ·rw [show (n.natAbs:Int)= -n by omega,show (m.natAbs:Int)= -m by omega,Int.neg_mul_neg]
  ·rw [show (true==false)=false from rfl,xB,yS rfl,show (n.natAbs:Int)= -n by omega,show (m.natAbs:Int)=m by omega,Int.neg_mul,yaN]
  ·rw [show (false==true)=false from rfl,xB,yS rfl,show (n.natAbs:Int)=n by omega,show (m.natAbs:Int)= -m by omega,Int.mul_neg,yaN]
  ·rw [show (n.natAbs:Int)=n by omega,show (m.natAbs:Int)=m by omega]
 rw [e] at hr;obtain ⟨w2,l2,rfl,oB,eH,iW,JJ⟩:=hr;refine ⟨_,?_,w2,l2,rfl,oB,eH,iW,JJ⟩;unfold an at e1 e2 ⊢;rw [aT h];simp only [go_sem,ya,yc,Fs,b9,hx.pu,hx.aE,hx.one,hy.pu,hy.aE,hy.one,hz.aE,hz.shut,oB.pu,oB.one,dE,yy,gk,e1,Jj,adT,e2,gl,dM];rcases oB with ⟨rfl,_⟩ | ⟨e,rfl⟩<;>rfl
end
end
end VE
