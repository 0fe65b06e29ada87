import Derived.Test.YtflgmingejdfnaaGreatDoorVar
import Derived.Test.YtflgmingejdfnaaGreatDoorVak
set_option linter.all false
set_option maxRecDepth 100000
open Bool renaming and_eq_true→yf,and_self→ve,false_and→xA
open List renaming append_assoc→xu,append_nil→xO,drop→xv,drop_eq_getElem_cons→yO,drop_left'→yaG,length_cons→yv,length_map→xx,length_nil→yF,length_range→yao,length_take→yT,map_append→xq,range→xh,range'→xH,range_succ→tu,replicate→yA,replicate_succ→xU,set_append_right→tG,take_of_length_le→yL
open Nat renaming add_mul→wG,add_sub_cancel→uS,add_zero→yX,beq→yr,beq_refl→xo,ble_eq_true_of_le→yu,div_add_mod→wB,div_eq_of_lt→wS,div_lt_iff_lt_mul→xZ,eq_zero_or_pos→xr,lt_of_lt_of_le→yH,min_eq_left→wE,mod_add_div→yaL,mod_eq_of_lt→yP,mod_lt→xC,mul_add→xD,mul_assoc→xk,mul_comm→xN,mul_le_mul_right→yZ,mul_mod_mul_right→tQ,mul_one→yi,mul_zero→xJ,or_comm→ybK,pow_add→wP,pow_succ→xg,pow_zero→ybC,reduceAdd→yb,reduceEqDiff→ya,reduceLT→yy,reduceMul→xR,two_pow_pos→wK,zero_add→yd
namespace VE
section
open Go (IntKind)
section
variable {P:aK} {L:Lib}
def D1 {n:Nat} {F:aI} (h:Has P L n F) {hp:Hp} {ct:Nat} {vals:List AV} {ex:Ex} {s:St} {v:AV} (hD:D P L F.body ⟨fp 0 vals,hp,ct,ct⟩=some (ex,s)) (he:ex= .normal\/ex= .ret) (hr:gh s F.dn=some v):
  ik P L (D P L) hp ct n vals=some (v,s.hp,s.ct):=by
 simp only [ik,h.heap,h.code,hD]
 grind
def Z0 {hp:Hp} {ct l:Nat} {xs:List AV} {tm tm' iw nQ:Env} {ps rO By:List Nat} {a b a1 b1 a2 b2:VC} {pe pf pe2:rq} {s1 s2:St}
  (h1:ap hp l=some (.lp tm ps a b 0 pe)) (h2:pP tm ps xs=some tm') (h3:D P L a ⟨tm',hp,ct,ct⟩=some (.normal,s1)) (h4:ap s1.hp l=some (.lp iw rO a1 b1 0 pf))
  (h5:D P L b ⟨s1.tm,aY s1.hp l (.lp iw rO a1 b1 1 pf),s1.ct,s1.ct⟩=some (.normal,s2)) (h6:ap s2.hp l=some (.lp nQ By a2 b2 1 pe2)):
  iT (D P L) hp ct l xs=some (.bool true,aY s2.hp l (.lp nQ By a2 b2 0 .none),s2.ct):=by
 simp only [iT,h1,h2,h3,h4,h5,h6]
def aez {f:X} {ps:List Nat} {as_ body:VC} {s:St} {n:Nat} {first cap:List AV} {v:AV} {hp:Hp} {ct:Nat} {tm:Env} {ps':List Nat} {a b:VC} {st:Nat}
  (h1:az s.tm f= .fn (.f n) first cap) (h2:L.heap n=none) (h3:ik P L (D P L) ((s.ct,.lp s.tm ps as_ body 0 .none)::s.hp) (s.ct+1) n (first++(.fn (.y s.ct) [] []::cap))=some (v,hp,ct))
  (h4:ap hp s.ct=some (.lp tm ps' a b st .none)) (h5:st≠1):D P L (.rf f ps as_ body) s=some (.normal,⟨s.tm,dz hp s.ct,ct,s.base⟩):=by
 rw [kR];simp only [bI,h1,h2,h3,h4,cE h5,yB]
def fJ (B n R:Nat):List AV:=(xh R).map (fun i=> .ak (B+i) 0 n)++yA (n-R) .ab
def kS (zero:AV) (val:Nat->Nat->AV) (n r c:Nat):List AV:=(xh c).map (fun c=>val c r)++yA (n-c) zero
def eS (val:Nat->Nat->AV) (n:Nat):Nat->List (List AV)
 | 0=>[]
 | r+1=>((xh n).map fun c=>val c r)::eS val n r
def AD (val:Nat->Nat->AV) (n:Nat):∀r,(eS val n r).length=r
 | 0=>rfl
 | r+1=>by rw [eS,yv,AD val n r]
def amV {B n R:Nat} (h:R<=n):(fJ B n R).length=n:=by simp [fJ];omega
def amW {zero:AV} {val:Nat->Nat->AV} {n r c:Nat} (h:c<=n):(kS zero val n r c).length=n:=by simp [kS];omega
def Z1 {l:List AV} {k:Nat} {v z:AV}:over l.length [v] (l++yA (k+1) z)=l++[v]++yA k z:=by
 simp only [over,List.take_left',yv,yF,yd,xU]
 simp_all
def akF {B n R:Nat} (h:R<n):over R [.ak (B+R) 0 n] (fJ B n R)=fJ B n (R+1):=by
 have:=Z1 (l:=(xh R).map (fun i=>AV.ak (B+i) 0 n)) (k:=n-R-1) (v:= .ak (B+R) 0 n) (z:= .ab)
 simp only [xx,yao] at this;rw [show n-R-1+1=n-R by omega] at this;rw [fJ,this,fJ,tu,xq];rfl
def Y3 {zero:AV} {val:Nat->Nat->AV} {n r c:Nat} (h:c<n):over c [val c r] (kS zero val n r c)=kS zero val n r (c+1):=by
 have:=Z1 (l:=(xh c).map (fun c=>val c r)) (k:=n-c-1) (v:=val c r) (z:=zero)
 simp only [xx,yao] at this;rw [show n-c-1+1=n-c by omega] at this;rw [kS,this,kS,tu,xq];rfl
def akG {zero:AV} {val:Nat->Nat->AV} {n r:Nat}:kS zero val n r n=(xh n).map fun c=>val c r:=by simp [kS]
def akH {zero:AV} {val:Nat->Nat->AV} {n r:Nat}:kS zero val n r 0=yA n zero:=by simp [kS]
def QN (z:AV):∀n,(yA n [z]).flatten=yA n z
 | 0=>rfl
 | n+1=>by rw [xU,List.flatten_cons,QN z n,xU];rfl
def gG (b n:Nat) (fnv:AV):Env:=[(11,.fn (.f 133) [] [.aF [.int .i64 n]]),(10,.int .i64 n),(5,.ptr (b+3) 0),(9,.ak (b+2) 0 n),(8,.int .i64 n),(4,.ab),(3,.ptr (b+1) 0),(2,.ptr b 0),(0,.int .i64 n),(1,fnv)]
def cA (b n R:Nat) (fnv:AV) (st:Nat) (H:Hp):Hp:=
 (b+4,.lp (gG b n fnv) [12,13] zh pQ st .none)::(b+3,.cells true false true 1 [.ak (b+2) 0 n])::(b+2,.cells true (yr R 0) true 1 (fJ (b+5) n R))::(b+1,.cells true (aS fnv) true 1 [fnv])::(b,.cells true true true 1 [.int .i64 n])::H
def W8 {B b n:Nat} (hb:b<=B):∀{H:Hp},jr b n H->∀x,x∈du B H->x<n
 | [],_,x,hx=>by simp [du] at hx
 | (id,o)::r,h,x,hx=>by
  rw [du,gX (by have:=h.1;omega),ym,List.mem_append] at hx;exact hx.elim (PD h.2.1 x) (W8 hb h.2.2 x)
def XD {b b' n n':Nat} (hb:b<=b') (hn:∀o,mP n o->mP n' o):∀{H:Hp},jr b n H->jr b' n' H
 | [],_=>trivial
 | (id,o)::r,h=>⟨yH h.1 hb,hn o h.2.1,XD hb hn h.2.2⟩
mutual
def DM {n n':Nat} (h:n<=n'):∀{v:AV},below n v->below n' v
 | .int _ _,_ | .bool _,_ | .dB _ _,_ | .str _,_ | .jT,_ | .aF _,_ | .ab,_ | .aE _ _ _,_ | .hO,_ | .jz,_ | .jf _ _,_ | .undef,_ | .cG _ _ _ _,_=>trivial
 | .ptr _ _,k=>yH k h
 | .ak _ _ _,k=>yH k h
 | .map _,k=>yH k h
 | .it _,k=>yH k h
 | .fn (.f _) _ _,k=>⟨Av h k.1,Av h k.2⟩
 | .fn (.y _) _ _,k=>⟨yH k.1 h,k.2⟩
 | .agg cs,k=>by simp only [below] at k ⊢;exact Av h k
 | .aq cs,k=>by simp only [below] at k ⊢;exact Av h k
def Av {n n':Nat} (h:n<=n'):∀{vs:List AV},jP n vs->jP n' vs
 | [],_=>trivial
 | _::_,k=>⟨DM h k.1,Av h k.2⟩
end
def KL {n n':Nat} (h:n<=n'):∀{tm:Env},jq n tm->jq n' tm
 | [],_=>trivial
 | (_,_)::_,k=>⟨DM h k.1,KL h k.2⟩
def aih {n n':Nat} (h:n<=n'):∀{o:Obj},mP n o->mP n' o
 | .cells _ pu _ _ cs,k=>k.imp id (Av h)
 | .mp _ ks vs,k=>⟨Av h k.1,Av h k.2⟩
 | .si _ _,_=>trivial
 | .lp tm _ _ _ _ _,k=>by simp only [mP] at k ⊢;exact KL h k
mutual
def lV {n:Nat}:∀{v:AV},aS v=true->below n v
 | .int _ _,_ | .bool _,_ | .dB _ _,_ | .str _,_ | .jT,_ | .aF _,_ | .ab,_ | .aE _ _ _,_ | .hO,_ | .jz,_ | .jf _ _,_ | .undef,_=>trivial
 | .cG _ _ _ _,_=>trivial
 | .ptr _ _,h | .ak _ _ _,h | .map _,h | .it _,h=>by simp [aS] at h
 | .fn (.y _) _ _,h=>by simp [aS] at h
 | .fn (.f _) _ _,h=>by
  simp only [aS,yf] at h;exact ⟨DH h.1,DH h.2⟩
 | .agg cs,h=>by simp only [aS] at h;simp only [below];exact DH h
 | .aq cs,h=>by simp only [aS] at h;simp only [below];exact DH h
def DH {n:Nat}:∀{vs:List AV},aJ vs=true->jP n vs
 | [],_=>trivial
 | _::_,h=>by
  simp only [aJ,yf] at h;exact ⟨lV h.1,DH h.2⟩
end
structure MJ (b:Nat) (fnv:AV) (H:Hp):Prop where
 fv:below b fnv
 fl:(refs fnv).length<=1000
 one:bA fnv=true
 hb:jr b b H
 hl:∀B,(du B H).length<=1000
def Yh {B n R:Nat}:jP (B+R) (fJ B n R):=by
 have dH:∀{a c:List AV},jP (B+R) a->jP (B+R) c->jP (B+R) (a++c):=by
  intro a c
  induction a with
  | nil=>intro _ h;exact h
  | cons x a ih=>intro h1 h2;exact ⟨h1.1,ih h1.2 h2⟩
 have hm:∀l:List Nat,(∀i,i∈l->i<R)->jP (B+R) (l.map fun i=>AV.ak (B+i) 0 n):=by
  intro l
  induction l with
  | nil=>intro _;trivial
  | cons x l ih=>intro h;exact ⟨by have:=h x (by simp);show B+x<B+R;omega,ih (fun i hi=>h i (by simp [hi]))⟩
 refine dH (hm _ (fun i hi=>List.mem_range.1 hi)) (DH ?_)
 induction n-R with
 | zero=>rfl
 | succ k ih=>rw [xU];exact ih
def Y4 {B n R:Nat}:eI (fJ B n R)=xH B R:=by
 unfold fJ;have dH:∀a c:List AV,eI (a++c)=eI a++eI c:=by
  intro a c
  induction a with
  | nil=>rfl
  | cons x a ih=>simp only [List.cons_append,eI,ih,xu]
 have hm:∀l:List Nat,eI (l.map fun i=>AV.ak (B+i) 0 n)=l.map (B+·):=by
  intro l
  induction l with
  | nil=>rfl
  | cons x l ih=>simp only [List.map_cons,eI,refs,ih];rfl
 have hr:eI (yA (n-R) AV.ab)=[]:=by
  induction n-R with
  | zero=>rfl
  | succ k ih=>rw [xU];exact ih
 rw [dH,hm,hr,xO,List.range'_eq_map_range]
def G0 {live:List Nat} {tm:Env} {b n ct st:Nat} {fnv:AV} {H:Hp} {rs:List (List AV)} (ho:MJ b fnv H) (hn:rs.length<=n) (ie:n<=1000) (ht:jq (b+5) (cX tm live)) (hl:(fb (cX tm live)).length<=1000):
  bH live ⟨tm,bF (b+5) rs++cA b n rs.length fnv st H,ct,b+5⟩=⟨cX tm live,bF (b+5) rs++cA b n rs.length fnv st H,b+5+rs.length,b+5⟩:=by
 have EI:mP (b+5+rs.length) (.cells true (yr rs.length 0) true 1 (fJ (b+5) n rs.length)):= .inr Yh;have ary:fc (.cells true (yr rs.length 0) true 1 (fJ (b+5) n rs.length))=xH (b+5) rs.length:=by
  cases rs with
  | nil=>rfl
  | cons c r=>simp only [fc,yv,cE (Nat.succ_ne_zero _),yB,Y4]
 have hTM:jq b (gG b n fnv)->True:=fun _=>trivial
 have NJ:jq (b+4) (gG b n fnv):=by
  have:=DM (show b<=b+4 by omega) ho.fv
  refine ⟨⟨trivial,trivial,trivial⟩,trivial,show b+3<b+4 by omega,show b+2<b+4 by omega,trivial,trivial,show b+1<b+4 by omega,show b<b+4 by omega,trivial,this,trivial⟩
 have auG:(fb (gG b n fnv)).length<=1010:=by
  have:=ho.fl
  simp [gG,fb,refs,eI];omega
 have Fe:(fc (.cells true (aS fnv) true 1 [fnv])).length<=1000:=by
  cases aS fnv with
  | true=>simp [fc]
  | false=>simp [fc,eI];exact ho.fl
 have hHr:=W8 (B:=b+5) (show b<=b+5 by omega) ho.hb;have e:du (b+5) (cA b n rs.length fnv st H)=fb (gG b n fnv)++([b+2]++(xH (b+5) rs.length++(fc (.cells true (aS fnv) true 1 [fnv])++([]++du (b+5) H)))):=by
  simp only [cA,du,gX (show b+4<b+5 by omega),gX (show b+3<b+5 by omega),gX (show b+2<b+5 by omega),gX (show b+1<b+5 by omega),gX (show b<b+5 by omega),ym,ary];simp only [fc,eI,refs,yB,ym,xO]
 have no:∀(l:List Nat),(∀x,x∈l->x<b+5)->l.filter (fun x=> !Nat.blt x (b+5))=[]:=fun l h=>List.filter_eq_nil_iff.2 (fun x hx=>by simp [gX (h x hx)])
 have all:∀(k:Nat),(xH (b+5) k).filter (fun x=> !Nat.blt x (b+5))=xH (b+5) k:=fun k=>List.filter_eq_self.2 (fun x hx=>by
  have:=(List.mem_range'_1.1 hx).1
  simp [Em this])
 refine Xe ht ?_ ?_ ?_
 ·refine ⟨by omega,KL (by omega) NJ,by omega,.inr ⟨show b+2<_ by omega,trivial⟩,by omega,EI,by omega,.inr ⟨DM (by omega) ho.fv,trivial⟩,by omega,.inl rfl,?_⟩;exact XD (by omega) (fun o h=>aih (by omega) h) ho.hb
 ·rw [e]
  have:=ho.hl (b+5)
  grind
 ·rw [e];simp only [List.filter_append]
  rw [no _ (fun x hx=>by have:=KJ NJ x hx;omega),no [b+2] (fun x hx=>by simp at hx;omega),all,no _ (fun x hx=>by
   have h1:mP b (.cells true (aS fnv) true 1 [fnv]):= .inr ⟨ho.fv,trivial⟩
   have:=PD h1 x hx;omega),no [] (fun x hx=>by simp at hx),no _ (fun x hx=>by have:=hHr x hx;omega)]
  simp
end
end
section
open Go (IntKind)
section
variable {pre x post:List Nat} {i:Nat}
def oB:(pre++x++post).length=pre.length+x.length+post.length:=by grind
def Cj (h:i<x.length):(pre++x++post).getD (pre.length+i) 0=x.getD i 0:=by grind
def LX (a:Nat) (h:i<x.length):(pre++x++post).set (pre.length+i) a=pre++x.set i a++post:=by simp_all
end
def mf (n:Nat) (k:IntKind) (a:Int):below n (.int k a)=True:=rfl
def mQ (n id o k:Nat):below n (.ak id o k)=(id<n):=rfl
def ma (n:Nat):jq n []=True:=rfl
def lZ (n i:Nat) (v:AV) (r:Env):jq n ((i,v)::r)=(below n v/\jq n r):=rfl
def pL {live:List Nat} {tm:Env} {ct:Nat} {a b:List AV} (ht:jq 2 (cX tm live)) (hl:(fb (cX tm live)).length<100000):
  bH live ⟨tm,[(1,.cells true true true 1 a),(0,.cells true true true 1 b)],ct,2⟩=⟨cX tm live,[(1,.cells true true true 1 a),(0,.cells true true true 1 b)],2,2⟩:=
 KK ht ⟨by omega,.inl rfl,by omega,.inl rfl,trivial⟩ (by
  have:du 2 [(1,Obj.cells true true true 1 a),(0,Obj.cells true true true 1 b)]=[]:=rfl
  rw [this,yF,yX];exact hl)
section
variable {P:aK} {L:Lib}
def ai5 {x s c:Nat} (hs:s<64) (hx:x<18446744073709551616) (hc:c<2^s):
  c|||(x*2^s%18446744073709551616)<18446744073709551616/\c<18446744073709551616/\x/2^(64-s)<2^s/\(c|||(x*2^s%18446744073709551616))+18446744073709551616*(x/2^(64-s))=x*2^s+c:=by
 have e:18446744073709551616=2^(64-s)*2^s:=by rw [<-wP,show 64-s+s=64 by omega]
 have h1:x*2^s%18446744073709551616=(x%2^(64-s))*2^s:=by rw [e,tQ]
 have h2:x/2^(64-s)<2^s:=by
  refine (xZ (wK _)).2 ?_
  grind
 have h3:c|||(x*2^s%18446744073709551616)=(x%2^(64-s))*2^s+c:=by rw [h1,ybK,RJ hc]
 have h4:(x%2^(64-s))*2^s+c<18446744073709551616:=by
  have:=yZ (2^s) (show x%2^(64-s)+1<=2^(64-s) from xC _ (wK _))
  grind
 have h5:=yaL x (2^(64-s))
 grind
def arz {v:AV} {w:List Nat} (hv:bJ v w) (hw:lo 18446744073709551616 w) (lw:w.length<=99999999999) {s n:Nat} (hs:s<64) (hn:n=w.length+1):
  ∀k st,(∃(i:Nat) (out:List Nat),bH [1,5,12,13,14] st=⟨[(1,aa s),(5,.ak 0 0 n),(12,v),(13,aa w.length),(14,aa i)],[(0,.cells true true true 1 (out.map uc))],1,0⟩/\i+k=w.length/\out.length=n/\lo 18446744073709551616 out/\bv 18446744073709551616 out=bv 18446744073709551616 (w.take i)*2^s/\out.getD i 0<2^s/\(∀m,i<m->out.getD m 0=0))->
   ∃ex st',D P L (.loop [1,5,12,13,14] Eb) st=some (ex,st')/\∃tm out,st'=⟨tm,[(0,.cells true true true 1 (out.map uc))],1,0⟩/\ex= .exit 0/\af tm 5= .ak 0 0 n/\out.length=n/\lo 18446744073709551616 out/\bv 18446744073709551616 out=bv 18446744073709551616 w*2^s:=by
 refine cC (I:=fun k st=>∃(i:Nat) (out:List Nat),st=⟨[(1,aa s),(5,.ak 0 0 n),(12,v),(13,aa w.length),(14,aa i)],[(0,.cells true true true 1 (out.map uc))],1,0⟩/\i+k=w.length/\out.length=n/\lo 18446744073709551616 out/\bv 18446744073709551616 out=bv 18446744073709551616 (w.take i)*2^s/\out.getD i 0<2^s/\(∀m,i<m->out.getD m 0=0))
  (Q:=fun ex st'=>∃tm out,st'=⟨tm,[(0,.cells true true true 1 (out.map uc))],1,0⟩/\ex= .exit 0/\af tm 5= .ak 0 0 n/\out.length=n/\lo 18446744073709551616 out/\bv 18446744073709551616 out=bv 18446744073709551616 w*2^s) ?_
 rintro k st ⟨i,out,rfl,hk,hlen,bn,aT,hc,fY⟩;by_cases hi:i<w.length
 ·left
  have gx:=gm (show 0<18446744073709551616 by decide) hw i;have ex:=hv.bj hi;have ec:=zk (l:=out) (o:=i) (by omega);have aY:=nC (b:=18446744073709551616) (l:=out) (i:=i) (x:=out.getD i 0|||(w.getD i 0*2^s%18446744073709551616)) (by omega);have hz:out.getD (i+1) 0=0:=fY _ (by omega);have ep:=iV (b:=18446744073709551616) (l:=w) i;generalize out.getD i 0=c at*
  generalize w.getD i 0=x at*
  obtain ⟨s1,s2,s3,s4⟩:=ai5 hs gx hc;have o1:=Jf .i64 x (s:=s) (by omega);have o2:=Vm s2 (xC (x*2^s) (by decide));have o3:binOp .sub (.int .i64 64) (aa s)=some (aa (64-s:Nat)):=by
   rw [LS,wrap64 (by omega) (by omega)];congr 2;omega
  have o4:=Jg .i64 x (s:=64-s) (by omega);generalize nl:c|||(x*2^s%18446744073709551616)=c' at*
  by_cases h0:0<s
  ·have MK:=nC (b:=18446744073709551616) (l:=out.set i c') (i:=i+1) (x:=x/2^(64-s)) (by simp;omega);rw [oA (by omega),hz,xJ,yX] at MK;have auH:x/2^(64-s)<18446744073709551616:=Nat.lt_of_le_of_lt (Nat.div_le_self _ _) gx;generalize x/2^(64-s)=y at*
   simp only [go_sem,ya,yi,Eb,show (i:Int)<w.length by omega,ex,dd 0 0 (show i<n by omega),yd,ec,o1,o2,kj (l:=out) (o:=i) (by omega),show (0:Int)<(s:Int) by omega,show (i:Int)+1=((i+1:Nat):Int) from rfl,wrapN (n:=i+1) (by omega),o3,o4,dd 0 0 (show i+1<n by omega),kj (l:=out.set i c') (o:=i+1) (by simp;omega)];refine ⟨_,k-1,rfl,by omega,i+1,(out.set i c').set (i+1) y,by simp only [go_sem,ya,yb,aD,aM hv.pu,aQ _ hv.pu]<;>rfl,by omega,by simp [hlen],me (me bn s1) auH,?_,by rw [aiE (by simp;omega)];exact s3,fun m hm=>by rw [oA (by omega),oA (by omega)];exact fY m (by omega)⟩
   rw [ep,wG,MK,<-aT,xg,xk,xk (18446744073709551616^i)];have e:=congrArg (fun t=>18446744073709551616^i*t) s4;simp only [xD] at e;generalize 18446744073709551616^i*(18446744073709551616*y)=p1 at*
   generalize 18446744073709551616^i*(x*2^s)=p2 at*
   generalize 18446744073709551616^i*c'=p3 at*
   omega
  ·have iy:s=0:=by omega
   subst iy;have kZ:c=0:=by simpa using hc
   have Aj:x/2^(64-0)=0:=wS gx;rw [Aj,xJ,yX,ybC,yi] at s4
   simp only [go_sem,ya,yi,Eb,show (i:Int)<w.length by omega,ex,dd 0 0 (show i<n by omega),yd,ec,o1,o2,kj (l:=out) (o:=i) (by omega),show ¬(0:Int)<((0:Nat):Int) by omega,show (i:Int)+1=((i+1:Nat):Int) from rfl,wrapN (n:=i+1) (by omega)];refine ⟨_,k-1,rfl,by omega,i+1,out.set i c',by simp only [go_sem,ya,yb,aD,aM hv.pu,aQ _ hv.pu]<;>rfl,by omega,by simp [hlen],me bn s1,?_,by rw [oA (by omega),hz];exact wK _,fun m hm=>by rw [oA (by omega)];exact fY m (by omega)⟩
   rw [ybC,yi] at aT ⊢;rw [ep,<-aT];rw [kZ,xJ,yX] at aY;rw [aY,s4,kZ,yX]
 ·right
  have:i=w.length:=by omega
  subst this;rw [List.take_length] at aT;simp only [go_sem,ya,Eb,show ¬(w.length:Int)<w.length by omega];exact ⟨_,_,rfl,by simp,_,out,rfl,rfl,by simp only [go_sem,ya],hlen,bn,aT⟩
def afh (h:Has P L 168 Nj) {v:AV} {w:List Nat} (hv:bJ v w) (hw:lo 18446744073709551616 w) (lw:w.length<=99999999999) {s:Nat} (hs:s<64):
  ∃out,ae P L 168 [v,aa s] (.cG true 1 (w.length+1) (out.map uc))/\out.length=w.length+1/\lo 18446744073709551616 out/\bv 18446744073709551616 out=bv 18446744073709551616 w*2^s:=by
 obtain ⟨n,hn⟩:∃n,n=w.length+1:=⟨_,rfl⟩;unfold ae;rw [av h]
 simp only [go_sem,ya,yb,Nj,hv.len,wrapN (n:=n) (by omega),show (w.length:Int)+1=((w.length+1:Nat):Int) from rfl,<-hn,CX (n:=n) _ (by omega)];generalize hq:D P L (.loop [1,5,12,13,14] Eb) _=q;obtain ⟨ex,st,rfl,tm,o,rfl,rfl,t5,hlen,bn,aT⟩:=cd hq (arz (P:=P) (L:=L) hv hw lw hs hn w.length)
  ⟨0,yA n 0,by simp only [go_sem,ya,yb,aD,aM hv.pu,aQ _ hv.pu]<;>rfl,by omega,by simp,Eh (by decide) n,by rw [Ei];simp [bv],by rw [Ci];exact wK _,fun m _=>Ci n m⟩
 refine ⟨o,?_,hlen,bn,aT⟩;simp only [go_sem,yb,aD,t5];exact PP (Hx _ _ _) (by simp [hlen]) (by decide)
end
end
section
open Go (IntKind)
abbrev H2 (a b:List Nat):Hp:=[(1,.cells true true true 1 (a.map uc)),(0,.cells true true true 1 (b.map uc))]
structure fT (x vs:List Nat) (n v1 v2 u0 u1 u2:Nat):Prop where
 n2:2<=n
 nb:n<=99999999999
 lx:x.length=n+1
 lv:vs.length=n
 gx:lo 18446744073709551616 x
 gv:lo 18446744073709551616 vs
 er:vs.getD (n-1) 0=v1
 cZ:vs.getD (n-2) 0=v2
 h0:x.getD n 0=u0
 h1:x.getD (n-1) 0=u1
 h2:x.getD (n-2) 0=u2
 pos:0<v1
 lt:bv 18446744073709551616 x<18446744073709551616*bv 18446744073709551616 vs
def ati (b p a v1 v2:Nat):a+p*v2+p*b*v1=(v1*b+v2)*p+a:=by grind
def atj (b p a v0 v1 v2:Nat):a+p*v2+p*b*v1+p*b*b*v0=((v0*b+v1)*b+v2)*p+a:=by grind
section
variable {x vs:List Nat} {n v1 v2 u0 u1 u2:Nat}
def fT.Ka (h:fT x vs n v1 v2 u0 u1 u2):v1<18446744073709551616:=h.er▸gm (by decide) h.gv _
def fT.Dm (h:fT x vs n v1 v2 u0 u1 u2):v2<18446744073709551616:=h.cZ▸gm (by decide) h.gv _
def fT.Vr (h:fT x vs n v1 v2 u0 u1 u2):u0<18446744073709551616:=h.h0▸gm (by decide) h.gx _
def fT.Kb (h:fT x vs n v1 v2 u0 u1 u2):u1<18446744073709551616:=h.h1▸gm (by decide) h.gx _
def fT.Kc (h:fT x vs n v1 v2 u0 u1 u2):u2<18446744073709551616:=h.h2▸gm (by decide) h.gx _
def fT.parts (h:fT x vs n v1 v2 u0 u1 u2):∃p vr ur,bv 18446744073709551616 vs=(v1*18446744073709551616+v2)*p+vr/\vr<p/\bv 18446744073709551616 x=((u0*18446744073709551616+u1)*18446744073709551616+u2)*p+ur/\ur<p:=by
 obtain ⟨m,hm⟩:∃m,n=m+2:=⟨n-2,by have:=h.n2;omega⟩;subst hm;have e1:=iV (b:=18446744073709551616) (l:=vs) (m+1);have e2:=iV (b:=18446744073709551616) (l:=vs) m;have f0:=iV (b:=18446744073709551616) (l:=x) (m+2);have f1:=iV (b:=18446744073709551616) (l:=x) (m+1);have f2:=iV (b:=18446744073709551616) (l:=x) m;have er:vs.getD (m+1) 0=v1:=h.er;have cZ:vs.getD m 0=v2:=h.cZ;have h0:x.getD (m+2) 0=u0:=h.h0;have h1:x.getD (m+1) 0=u1:=h.h1;have h2:x.getD m 0=u2:=h.h2
 rw [yL (by have:=h.lv;omega),er,e2,cZ] at e1
 rw [yL (by have:=h.lx;omega),h0,f1,h1,f2,h2] at f0;have g1:=mi (AM h.gv m)
 rw [yT,wE (by have:=h.lv;omega)] at g1;have g2:=mi (AM h.gx m)
 rw [yT,wE (by have:=h.lx;omega)] at g2;refine ⟨18446744073709551616^m,_,_,?_,g1,?_,g2⟩
 ·grind
 ·grind
def fT.down (h:fT x vs n v1 v2 u0 u1 u2) {t r:Nat} (ht:t*v1+r=u0*18446744073709551616+u1) (hr:r*18446744073709551616+u2<t*v2):bv 18446744073709551616 x/bv 18446744073709551616 vs<=t-1:=by
 obtain ⟨p,vr,ur,h1,h2,h3,h4⟩:=h.parts;exact X5 h1 h3 h4 ht hr
def fT.stop (h:fT x vs n v1 v2 u0 u1 u2) {t r:Nat} (ki:t<18446744073709551616) (ht:t*v1+r=u0*18446744073709551616+u1) (hr:18446744073709551616<=r\/t*v2<=r*18446744073709551616+u2):t<=bv 18446744073709551616 x/bv 18446744073709551616 vs+1:=by
 obtain ⟨p,vr,ur,h1,h2,h3,h4⟩:=h.parts;exact YT (by decide) h1 h2 h3 h.pos h.Dm ki ht hr
def fT.first (h:fT x vs n v1 v2 u0 u1 u2):bv 18446744073709551616 x/bv 18446744073709551616 vs<=(u0*18446744073709551616+u1)/v1:=by
 obtain ⟨p,vr,ur,h1,h2,h3,h4⟩:=h.parts;exact PC h1 h3 h4 h.Kc h.pos
def fT.top (h:fT x vs n v1 v2 u0 u1 u2):u0<=v1:=by
 obtain ⟨p,vr,ur,h1,h2,h3,h4⟩:=h.parts;exact YU h1 h3 h2 h.Dm h.lt
def fT.digit (h:fT x vs n v1 v2 u0 u1 u2):bv 18446744073709551616 x/bv 18446744073709551616 vs<18446744073709551616:=by
 refine (xZ ?_).2 h.lt;rcases xr (bv 18446744073709551616 vs) with h0 | h0
 ·have:=h.lt;rw [h0] at this;simp at this
 ·exact h0
end
section
variable {P:aK} {L:Lib}
def acW (mz:L.pure 143=some q9) (gE:L.pure 171=some nA) {w:AV} {x vs pre post qs:List Nat} (hw:bJ w vs) {n v1 v2 u0 u1 u2:Nat} (hl:fT x vs n v1 v2 u0 u1 u2):
  ∀k s,(∃q r:Nat,bH [0,1,5,6,7,8] s=⟨[(0,.ak 0 pre.length (n+1)),(1,w),(5,aa n),(6,uc q),(7,uc (r%18446744073709551616)),(8,uc (r/18446744073709551616))],H2 qs (pre++x++post),2,2⟩/\q*v1+r=u0*18446744073709551616+u1/\r<2*18446744073709551616/\q<18446744073709551616/\bv 18446744073709551616 x/bv 18446744073709551616 vs<=q/\q=k)->
   ∃ex s',D P L (.loop [0,1,5,6,7,8] za) s=some (ex,s')/\∃tm q,s'=⟨tm,H2 qs (pre++x++post),2,2⟩/\ex= .exit 0/\af tm 0= .ak 0 pre.length (n+1)/\af tm 1=w/\af tm 5=aa n/\af tm 6=uc q/\q<18446744073709551616/\bv 18446744073709551616 x/bv 18446744073709551616 vs<=q/\q<=bv 18446744073709551616 x/bv 18446744073709551616 vs+1:=by
 refine cC (I:=fun k s=>∃q r:Nat,s=⟨[(0,.ak 0 pre.length (n+1)),(1,w),(5,aa n),(6,uc q),(7,uc (r%18446744073709551616)),(8,uc (r/18446744073709551616))],H2 qs (pre++x++post),2,2⟩/\q*v1+r=u0*18446744073709551616+u1/\r<2*18446744073709551616/\q<18446744073709551616/\bv 18446744073709551616 x/bv 18446744073709551616 vs<=q/\q=k)
  (Q:=fun ex s'=>∃tm q,s'=⟨tm,H2 qs (pre++x++post),2,2⟩/\ex= .exit 0/\af tm 0= .ak 0 pre.length (n+1)/\af tm 1=w/\af tm 5=aa n/\af tm 6=uc q/\q<18446744073709551616/\bv 18446744073709551616 x/bv 18446744073709551616 vs<=q/\q<=bv 18446744073709551616 x/bv 18446744073709551616 vs+1) ?_
 rintro k s ⟨q,r,rfl,hq,hr,n7,hQ,rfl⟩;have ew:=hl.n2;have pv:=hl.nb;by_cases nX:r<18446744073709551616
 ·have FF:r%18446744073709551616=r:=yP nX;have BP:r/18446744073709551616=0:=wS nX;rw [FF,BP];have E2:=hl.Ka;have Td:=hl.Dm;have afi:=hl.Kc;have pz:=hw.bj (i:=n-2) (by have:=hl.lv;omega);have eT:=hw.bj (i:=n-1) (by have:=hl.lv;omega);rw [hl.cZ] at pz;rw [hl.er] at eT;have sr:=zk (l:=pre++x++post) (o:=pre.length+(n-2)) (by rw [oB];have:=hl.lx;omega)
  rw [Cj (by have:=hl.lx;omega),hl.h2] at sr;have f1:=Mi (P:=P) (f:=D P L) mz n7 Td;have f2:=Cy (P:=P) (f:=D P L) gE (x:=r) (y:=v1) (c:=0) nX E2 (by omega);rw [show (uc 0)=AV.int .u64 0 from rfl] at f2;have fL:=wB (q*v2) 18446744073709551616;have bn:=xC (q*v2) (show 0<18446744073709551616 by decide);obtain ⟨H,hH⟩:∃H,H=q*v2/18446744073709551616:=⟨_,rfl⟩;obtain ⟨G,hG⟩:∃G,G=q*v2%18446744073709551616:=⟨_,rfl⟩;rw [<-hH,<-hG] at f1 fL;rw [<-hG] at bn;have Ak:(n:Int)-2=((n-2:Nat):Int):=by omega
  have pC:(n:Int)-1=((n-1:Nat):Int):=by omega
  by_cases c1:H<r
  ·right
   simp only [go_sem,ya,za,H2,show ((0:Nat):Int)=0 from rfl,Ak,wrapN (n:=n-2) (by omega),pz,f1,show (H:Int)<(r:Int) by omega];exact ⟨_,_,rfl,by simp,_,q,rfl,rfl,by simp only [go_sem,ya],by simp only [go_sem,ya],by simp only [go_sem,ya],by simp only [go_sem,ya],n7,hQ,hl.stop n7 hq (.inr (by omega))⟩
  ·by_cases c2:H=r/\G<=u2
   ·right
    obtain ⟨c2,c3⟩:=c2
    simp only [go_sem,ya,za,H2,show ((0:Nat):Int)=0 from rfl,Ak,wrapN (n:=n-2) (by omega),pz,f1,show (H:Int)=(r:Int) by omega];simp only [show ¬(r:Int)<(r:Int) by omega,yp]
    simp only [go_sem,ya,yi,Ak,wrapN (n:=n-2) (by omega),dd 0 pre.length (show n-2<n+1 by omega),sr,show (G:Int)<=(u2:Int) by omega];exact ⟨_,_,rfl,by simp,_,q,rfl,rfl,by simp only [go_sem,ya],by simp only [go_sem,ya],by simp only [go_sem,ya],by simp only [go_sem,ya],n7,hQ,hl.stop n7 hq (.inr (by omega))⟩
   ·left
    have Fi:r*18446744073709551616+u2<q*v2:=by omega
    have Ah:0<q:=by
     rcases xr q with h0 | h0
     ·subst h0;omega
     ·exact h0
    have e3:binOp .sub (uc q) (.int .u64 1)=some (uc (q-1)):=CY (b:=1) (by omega) (by omega);have h1:(q-1)*v1+(r+v1)=u0*18446744073709551616+u1:=by
     obtain ⟨p,rfl⟩:∃p,q=p+1:=⟨q-1,by omega⟩;rw [wG,Nat.one_mul] at hq;rw [uS];omega
    have n8:=hl.down hq Fi;rw [yX] at f2;by_cases c3:H=r
    ·have c4:¬G<=u2:=fun h=>c2 ⟨c3,h⟩
     subst c3
     simp only [go_sem,ya,xR,yi,za,H2,show ((0:Nat):Int)=0 from rfl,Ak,pC,wrapN (n:=n-2) (by omega),wrapN (n:=n-1) (by omega),pz,eT,f1,f2,show ¬(H:Int)<(H:Int) by omega,dd 0 pre.length (show n-2<n+1 by omega),sr,show ¬(G:Int)<=(u2:Int) by omega,e3];refine ⟨_,q-1,rfl,by omega,q-1,H+v1,?_,h1,by omega,by omega,n8,rfl⟩;rw [pL (by simp only [go_sem,ya,yy,mf,mQ,ma,lZ,lV hw.pu,wF]) (by simp only [go_sem,ya,yb,yy,aM hw.pu])];simp only [go_sem,ya]
    ·simp only [go_sem,ya,xR,za,H2,show ((0:Nat):Int)=0 from rfl,Ak,pC,wrapN (n:=n-2) (by omega),wrapN (n:=n-1) (by omega),pz,eT,f1,f2,show ¬(H:Int)<(r:Int) by omega,show ¬(H:Int)=(r:Int) by omega,e3];refine ⟨_,q-1,rfl,by omega,q-1,r+v1,?_,h1,by omega,by omega,n8,rfl⟩;rw [pL (by simp only [go_sem,ya,yy,mf,mQ,ma,lZ,lV hw.pu,wF]) (by simp only [go_sem,ya,yb,yy,aM hw.pu])];simp only [go_sem,ya]
 ·right
  have BP:r/18446744073709551616=1:=by omega
  rw [BP];simp only [go_sem,ya,za,H2,show ((1:Nat):Int)=1 from rfl,Int.reduceEq];exact ⟨_,_,rfl,by simp,_,q,rfl,rfl,by simp only [go_sem,ya],by simp only [go_sem,ya],by simp only [go_sem,ya],by simp only [go_sem,ya],n7,hQ,hl.stop n7 hq (.inl (by omega))⟩
end
end
section
open Go (IntKind)
def akI {b p x y z nn c bo Al ca q v X Y:Nat} (h1:q*v+c=b*ca+nn) (h2:z+nn+bo=x+b*Al) (h3:Y+q*X=y+p*(c+bo)) (W:Nat) (hW:W+p*x=Y+p*z):
  W+q*(X+p*v)=y+p*b*(ca+Al):=by grind
def akJ {q v c:Nat} (hq:q<18446744073709551616) (hv:v<18446744073709551616) (hc:c<18446744073709551616):
  q*v+c=18446744073709551616*(q*v/18446744073709551616+(q*v%18446744073709551616+c+0)/18446744073709551616)+(q*v%18446744073709551616+c+0)%18446744073709551616/\
  q*v/18446744073709551616+(q*v%18446744073709551616+c+0)/18446744073709551616<18446744073709551616:=by
 have h:=Nat.mul_le_mul (show q<=18446744073709551615 by omega) (show v<=18446744073709551615 by omega)
 grind
section
variable {P:aK} {L:Lib}
def arA (mz:L.pure 143=some q9) (gE:L.pure 171=some nA) (rH:L.pure 173=some AP) {w:AV} {x vs pre post qs:List Nat} (hw:bJ w vs) {n:Nat} (pv:n<=99999999999) (lv:vs.length=n) (gv:lo 18446744073709551616 vs) {q:Nat} (hq:q<18446744073709551616):
  ∀k s,(∃(i c bo:Nat) (y:List Nat),bH [0,1,5,6,11,12,104,105] s=⟨[(0,.ak 0 pre.length (n+1)),(1,w),(5,aa n),(6,uc q),(11,uc bo),(12,uc c),(104,aa n),(105,aa i)],H2 qs (pre++y++post),2,2⟩/\i+k=n/\y.length=n+1/\lo 18446744073709551616 y/\c<18446744073709551616/\bo<=1/\
    bv 18446744073709551616 y+q*bv 18446744073709551616 (vs.take i)=bv 18446744073709551616 x+18446744073709551616^i*(c+bo))->
   ∃ex s',D P L (.loop [0,1,5,6,11,12,104,105] H5) s=some (ex,s')/\∃tm c bo y,s'=⟨tm,H2 qs (pre++y++post),2,2⟩/\ex= .exit 2/\af tm 0= .ak 0 pre.length (n+1)/\af tm 1=w/\af tm 5=aa n/\af tm 6=uc q/\af tm 11=uc bo/\af tm 12=uc c/\y.length=n+1/\lo 18446744073709551616 y/\c<18446744073709551616/\bo<=1/\
    bv 18446744073709551616 y+q*bv 18446744073709551616 vs=bv 18446744073709551616 x+18446744073709551616^n*(c+bo):=by
 refine cC (I:=fun k s=>∃(i c bo:Nat) (y:List Nat),s=⟨[(0,.ak 0 pre.length (n+1)),(1,w),(5,aa n),(6,uc q),(11,uc bo),(12,uc c),(104,aa n),(105,aa i)],H2 qs (pre++y++post),2,2⟩/\i+k=n/\y.length=n+1/\lo 18446744073709551616 y/\c<18446744073709551616/\bo<=1/\
    bv 18446744073709551616 y+q*bv 18446744073709551616 (vs.take i)=bv 18446744073709551616 x+18446744073709551616^i*(c+bo))
  (Q:=fun ex s'=>∃tm c bo y,s'=⟨tm,H2 qs (pre++y++post),2,2⟩/\ex= .exit 2/\af tm 0= .ak 0 pre.length (n+1)/\af tm 1=w/\af tm 5=aa n/\af tm 6=uc q/\af tm 11=uc bo/\af tm 12=uc c/\y.length=n+1/\lo 18446744073709551616 y/\c<18446744073709551616/\bo<=1/\
    bv 18446744073709551616 y+q*bv 18446744073709551616 vs=bv 18446744073709551616 x+18446744073709551616^n*(c+bo)) ?_
 rintro k s ⟨i,c,bo,y,rfl,hk,ly,gy,hc,iO,aT⟩;by_cases hi:i<n
 ·left
  have dL:(0:Nat)<18446744073709551616:=by decide
  have qF:=gm dL gv i;have pD:=gm dL gy i;have ev:=hw.bj (i:=i) (by omega);have ey:=zk (l:=pre++y++post) (o:=pre.length+i) (by rw [oB];omega);rw [Cj (by omega)] at ey;have ep:=iV (b:=18446744073709551616) (l:=vs) i;obtain ⟨a,ha⟩:∃a,a=vs.getD i 0:=⟨_,rfl⟩;obtain ⟨d,hd⟩:∃d,d=y.getD i 0:=⟨_,rfl⟩;rw [<-ha] at qF ev ep;rw [<-hd] at pD ey;obtain ⟨m1,m2⟩:=akJ hq qF hc;have f1:=Mi (P:=P) (f:=D P L) mz hq qF;have f2:=Cy (P:=P) (f:=D P L) gE (x:=q*a%18446744073709551616) (y:=c) (c:=0) (xC _ dL) hc (by omega);obtain ⟨nn,afj⟩:∃t,t=(q*a%18446744073709551616+c+0)%18446744073709551616:=⟨_,rfl⟩;obtain ⟨c1,ez⟩:∃t,t=(q*a%18446744073709551616+c+0)/18446744073709551616:=⟨_,rfl⟩;have afk:nn<18446744073709551616:=by rw [afj];exact xC _ dL
  rw [<-afj,<-ez] at f2 m1;rw [<-ez] at m2;obtain ⟨h1,iM⟩:∃t,t=q*a/18446744073709551616:=⟨_,rfl⟩;rw [<-iM] at f1 m1 m2;rw [show (uc 0)=AV.int .u64 0 from rfl] at f2;have f3:=RI (P:=P) (f:=D P L) rH pD afk iO;have n9:=QK pD afk iO;obtain ⟨z,hz⟩:∃t,t=(d+18446744073709551616*2-nn-bo)%18446744073709551616:=⟨_,rfl⟩;obtain ⟨b',cS⟩:∃t,t=(if nn+bo<=d then 0 else 1):=⟨_,rfl⟩;have jG:b'<=1:=by rw [cS];split<;>omega
  have FE:z<18446744073709551616:=by rw [hz];exact xC _ dL
  rw [<-hz,<-cS] at f3 n9;have f4:binOp .add (uc h1) (uc c1)=some (uc (h1+c1)):=by
   rw [A5,yP m2]
  have aY:=nC (b:=18446744073709551616) (l:=y) (i:=i) (x:=z) (by omega);rw [<-hd] at aY;have bf:=fun (hp:Hp) (ct:Nat)=>kj (hp:=hp) (ct:=ct) (id:=0) (v:=z) (ex:=true) (l:=pre++y++post) (o:=pre.length+i) (by rw [oB];omega)
  have nK:=LX (pre:=pre) (x:=y) (post:=post) (i:=i) z (by omega);simp only [go_sem,ya,yi,H5,H2,show (i:Int)<(n:Int) by omega,ev,f1,f2,f4,dd 0 pre.length (show i<n+1 by omega),ey,f3,bf,nK];refine ⟨_,k-1,rfl,by omega,i+1,h1+c1,b',y.set i z,?_,by omega,by simp [ly],me gy FE,m2,jG,?_⟩
  ·rw [pL (by simp only [go_sem,ya,yy,mf,mQ,ma,lZ,lV hw.pu,wF]) (by simp only [go_sem,ya,yb,yy,aM hw.pu])];rw [wrap64 (by omega) (by omega)];simp only [go_sem,ya]<;>rfl
  ·rw [ep,xg];exact akI m1 n9 aT _ aY
 ·right
  have:i=n:=by omega
  subst this;rw [yL (by omega)] at aT;simp only [go_sem,ya,H5,H2,show ¬(i:Int)<(i:Int) by omega];exact ⟨_,_,rfl,by simp,_,c,bo,y,rfl,rfl,by simp only [go_sem,ya],by simp only [go_sem,ya],by simp only [go_sem,ya],by simp only [go_sem,ya],by simp only [go_sem,ya],by simp only [go_sem,ya],ly,gy,hc,iO,aT⟩
def arB (gE:L.pure 171=some nA) {w:AV} {y0 vs pre post qs:List Nat} (hw:bJ w vs) {n:Nat} (pv:n<=99999999999) (lv:vs.length=n) (gv:lo 18446744073709551616 vs) {q:Nat}:
  ∀k s,(∃(i c:Nat) (y:List Nat),bH [0,1,5,6,17,156,157] s=⟨[(0,.ak 0 pre.length (n+1)),(1,w),(5,aa n),(6,uc q),(17,uc c),(156,aa n),(157,aa i)],H2 qs (pre++y++post),2,2⟩/\i+k=n/\y.length=n+1/\lo 18446744073709551616 y/\c<=1/\
    bv 18446744073709551616 y+18446744073709551616^i*c=bv 18446744073709551616 y0+bv 18446744073709551616 (vs.take i))->
   ∃ex s',D P L (.loop [0,1,5,6,17,156,157] H6) s=some (ex,s')/\∃tm c y,s'=⟨tm,H2 qs (pre++y++post),2,2⟩/\ex= .exit 4/\af tm 0= .ak 0 pre.length (n+1)/\af tm 5=aa n/\af tm 6=uc q/\af tm 17=uc c/\y.length=n+1/\lo 18446744073709551616 y/\c<=1/\
    bv 18446744073709551616 y+18446744073709551616^n*c=bv 18446744073709551616 y0+bv 18446744073709551616 vs:=by
 refine cC (I:=fun k s=>∃(i c:Nat) (y:List Nat),s=⟨[(0,.ak 0 pre.length (n+1)),(1,w),(5,aa n),(6,uc q),(17,uc c),(156,aa n),(157,aa i)],H2 qs (pre++y++post),2,2⟩/\i+k=n/\y.length=n+1/\lo 18446744073709551616 y/\c<=1/\
    bv 18446744073709551616 y+18446744073709551616^i*c=bv 18446744073709551616 y0+bv 18446744073709551616 (vs.take i))
  (Q:=fun ex s'=>∃tm c y,s'=⟨tm,H2 qs (pre++y++post),2,2⟩/\ex= .exit 4/\af tm 0= .ak 0 pre.length (n+1)/\af tm 5=aa n/\af tm 6=uc q/\af tm 17=uc c/\y.length=n+1/\lo 18446744073709551616 y/\c<=1/\
    bv 18446744073709551616 y+18446744073709551616^n*c=bv 18446744073709551616 y0+bv 18446744073709551616 vs) ?_
 rintro k s ⟨i,c,y,rfl,hk,ly,gy,hc,aT⟩;by_cases hi:i<n
 ·left
  have dL:(0:Nat)<18446744073709551616:=by decide
  have qF:=gm dL gv i;have pD:=gm dL gy i;have ev:=hw.bj (i:=i) (by omega);have ey:=zk (l:=pre++y++post) (o:=pre.length+i) (by rw [oB];omega);rw [Cj (by omega)] at ey;have ep:=iV (b:=18446744073709551616) (l:=vs) i;obtain ⟨a,ha⟩:∃a,a=vs.getD i 0:=⟨_,rfl⟩;obtain ⟨d,hd⟩:∃d,d=y.getD i 0:=⟨_,rfl⟩;rw [<-ha] at qF ev ep;rw [<-hd] at pD ey;have f1:=Cy (P:=P) (f:=D P L) gE pD qF hc;have aY:=nC (b:=18446744073709551616) (l:=y) (i:=i) (x:=(d+a+c)%18446744073709551616) (by omega);rw [<-hd] at aY;have iN:=K0 (18446744073709551616^i) 18446744073709551616 (d+a+c);have nl:(d+a+c)/18446744073709551616<=1:=by omega
  have FE:(d+a+c)%18446744073709551616<18446744073709551616:=xC _ dL;generalize (d+a+c)%18446744073709551616=z at*
  generalize (d+a+c)/18446744073709551616=c' at*
  have bf:=fun (hp:Hp) (ct:Nat)=>kj (hp:=hp) (ct:=ct) (id:=0) (v:=z) (ex:=true) (l:=pre++y++post) (o:=pre.length+i) (by rw [oB];omega)
  have nK:=LX (pre:=pre) (x:=y) (post:=post) (i:=i) z (by omega);simp only [go_sem,ya,yi,H6,H2,show (i:Int)<(n:Int) by omega,ev,f1,dd 0 pre.length (show i<n+1 by omega),ey,bf,nK];refine ⟨_,k-1,rfl,by omega,i+1,c',y.set i z,?_,by omega,by simp [ly],me gy FE,nl,?_⟩
  ·rw [pL (by simp only [go_sem,ya,yy,mf,mQ,ma,lZ,lV hw.pu,wF]) (by simp only [go_sem,ya,yb,yy,aM hw.pu])];rw [wrap64 (by omega) (by omega)];simp only [go_sem,ya]<;>rfl
  ·rw [ep,xg];rw [xD,xD] at iN;omega
 ·right
  have:i=n:=by omega
  subst this;rw [yL (by omega)] at aT;simp only [go_sem,ya,H6,H2,show ¬(i:Int)<(i:Int) by omega];exact ⟨_,_,rfl,by simp,_,c,y,rfl,rfl,by simp only [go_sem,ya],by simp only [go_sem,ya],by simp only [go_sem,ya],by simp only [go_sem,ya],ly,gy,hc,aT⟩
end
end
section
open Go (IntKind)
def step_end {A V q Y B bo:Nat} (hV:0<V) (h:Y+q*V=A+B*bo) (h1:A/V<=q) (h2:q<=A/V+1) (hY:Y<B) (hVB:V<=B) (iO:bo<=1):
  (bo=0->q=A/V/\Y=A%V)/\(bo=1->q=A/V+1/\Y+V=B+A%V):=by
 have fL:=wB A V;have hm:=xC A hV;generalize A/V=Q at*
 have hq:q=Q\/q=Q+1:=by omega
 constructor
 ·rintro rfl;rcases hq with rfl | rfl
  ·grind
  ·grind
 ·grind
section
variable {P:aK} {L:Lib}
structure Wd (P:aK) (L:Lib):Prop where
 mz:L.pure 143=some q9
 gE:L.pure 171=some nA
 rH:L.pure 173=some AP
 Jh:L.pure 167=some Ey
 afl:Has P L 165 IS
 my:Has P L 166 Be
 afm:Has P L 168 Nj
 auI:Has P L 169 rA
 afn:Has P L 158 ER
 auJ:Has P L 157 IR
 afo:Has P L 159 Ni
 auK:Has P L 144 Nf
 Tf:Has P L 137 IQ
def aA:VC->VC
 | .seq _ b=>b
 | c=>c
def arC (h:Wd P L) {w:AV} {x vs pre post qs:List Nat} (hw:bJ w vs) {n v1 v2 u0 u1 u2:Nat} (hl:fT x vs n v1 v2 u0 u1 u2) {q:Nat} (hq:q<18446744073709551616) (eG:bv 18446744073709551616 x/bv 18446744073709551616 vs<=q) (nk:q<=bv 18446744073709551616 x/bv 18446744073709551616 vs+1):
  ∃tm x',D P L (aA (aA (aA (aA (aA (aA rA.body)))))) ⟨[(0,.ak 0 pre.length (n+1)),(1,w),(5,aa n),(6,uc q)],H2 qs (pre++x++post),2,2⟩=some (.ret,⟨tm,H2 qs (pre++x'++post),2,2⟩)/\af tm 4=uc (bv 18446744073709551616 x/bv 18446744073709551616 vs)/\x'.length=n+1/\lo 18446744073709551616 x'/\bv 18446744073709551616 x'=bv 18446744073709551616 x%bv 18446744073709551616 vs:=by
 have ew:=hl.n2;have pv:=hl.nb;have dL:(0:Nat)<18446744073709551616:=by decide
 have hV:0<bv 18446744073709551616 vs:=by
  rcases xr (bv 18446744073709551616 vs) with h0 | h0
  ·have:=hl.lt;rw [h0] at this;simp at this
  ·exact h0
 have ss:below 2 w:=lV hw.pu;have Kd:=mi hl.gv;rw [hl.lv] at Kd;have azG:18446744073709551616^n<=18446744073709551616^(n+1):=Nat.pow_le_pow_right (by decide) (by omega);have azH:aA (aA (aA (aA (aA (aA rA.body)))))=aA (aA (aA (aA (aA (aA rA.body))))):=rfl;simp only [go_sem,ya,rA,aA,H2];generalize mI:D P L (.loop [0,1,5,6,11,12,104,105] H5) _=qq;obtain ⟨ex,s,rfl,tm,c,bo,y,rfl,rfl,t0,t1,t5,t6,t11,t12,ly,gy,hc,iO,aT⟩:=cd mI (arA (P:=P) (L:=L) h.mz h.gE h.rH hw pv hl.lv hl.gv hq (x:=x) (pre:=pre) (post:=post) (qs:=qs) n) ⟨0,0,0,x,by
  rw [pL (by simp only [go_sem,ya,yy,mf,mQ,ma,lZ,ss,wF]) (by simp only [go_sem,ya,yb,yy,aM hw.pu])]
  simp only [go_sem,ya]<;>rfl,by omega,hl.lx,hl.gx,dL,by omega,by simp [bv]⟩
 have Vs:=gm dL gy n;have ey:=zk (l:=pre++y++post) (o:=pre.length+n) (by rw [oB];omega);rw [Cj (by omega)] at ey;obtain ⟨d,hd⟩:∃d,d=y.getD n 0:=⟨_,rfl⟩;rw [<-hd] at Vs ey;have f3:=RI (P:=P) (f:=D P L) h.rH Vs hc iO;have n9:=QK Vs hc iO;obtain ⟨z,hz⟩:∃t,t=(d+18446744073709551616*2-c-bo)%18446744073709551616:=⟨_,rfl⟩;obtain ⟨b',cS⟩:∃t,t=(if c+bo<=d then 0 else 1):=⟨_,rfl⟩;have jG:b'<=1:=by rw [cS];split<;>omega
 have FE:z<18446744073709551616:=by rw [hz];exact xC _ dL
 rw [<-hz,<-cS] at f3 n9;have aY:=nC (b:=18446744073709551616) (l:=y) (i:=n) (x:=z) (by omega);rw [<-hd] at aY;have bf:=fun (hp:Hp) (ct:Nat)=>kj (hp:=hp) (ct:=ct) (id:=0) (v:=z) (ex:=true) (l:=pre++y++post) (o:=pre.length+n) (by rw [oB];omega)
 have nK:=LX (pre:=pre) (x:=y) (post:=post) (i:=n) z (by omega);have Dn:lo 18446744073709551616 (y.set n z):=me gy FE;have BQ:(y.set n z).length=n+1:=by simp [ly]
 have hY:=mi Dn;rw [BQ] at hY;have auL:bv 18446744073709551616 (y.set n z)+q*bv 18446744073709551616 vs=bv 18446744073709551616 x+18446744073709551616^(n+1)*b':=by
  have e2:=congrArg (fun t=>18446744073709551616^n*t) n9;rw [xg,xk];simp only [xD] at e2 aT;generalize 18446744073709551616^n*(18446744073709551616*b')=p1 at*
  generalize 18446744073709551616^n*z=p2 at*
  generalize 18446744073709551616^n*d=p3 at*
  generalize 18446744073709551616^n*c=p4 at*
  generalize 18446744073709551616^n*bo=p5 at*
  omega
 obtain ⟨s0,s1⟩:=step_end hV auL eG nk hY (by omega) jG;simp only [go_sem,ya,yb,yy,yi,pL,mf,mQ,ma,lZ,ss,wF,aM hw.pu,t0,t1,t5,t6,t11,t12,dd 0 pre.length (show n<n+1 by omega),ey,f3,bf,nK];by_cases lR:b'=0
 ·obtain ⟨e1,e2⟩:=s0 lR;simp only [go_sem,ya,show (b':Int)=0 by omega];exact ⟨_,y.set n z,rfl,by rw [<-e1];simp only [go_sem],BQ,Dn,e2⟩
 ·obtain ⟨e1,e2⟩:=s1 (by omega);simp only [go_sem,ya,show ¬(b':Int)=0 by omega];generalize CZ:D P L (.loop [0,1,5,6,17,156,157] H6) _=Vq;obtain ⟨ex,s,rfl,nQ,c2,y2,rfl,rfl,t0,t5,t6,t17,Vt,O1,rX,atk⟩:=cd CZ (arB (P:=P) (L:=L) h.gE hw pv hl.lv hl.gv (y0:=y.set n z) (pre:=pre) (post:=post) (qs:=qs) (q:=q) n) ⟨0,0,y.set n z,by
   rw [pL (by simp only [go_sem,ya,yy,mf,mQ,ma,lZ,ss,wF]) (by simp only [go_sem,ya,yb,yy,aM hw.pu])]
   simp only [go_sem,ya]<;>rfl,by omega,BQ,Dn,by omega,by simp [bv]⟩
  have auM:=gm dL O1 n;have Vu:=zk (l:=pre++y2++post) (o:=pre.length+n) (by rw [oB];omega);rw [Cj (by omega)] at Vu;obtain ⟨d2,dR⟩:∃d,d=y2.getD n 0:=⟨_,rfl⟩;rw [<-dR] at auM Vu;have f4:=A5 d2 c2;have MK:=nC (b:=18446744073709551616) (l:=y2) (i:=n) (x:=(d2+c2)%18446744073709551616) (by omega);rw [<-dR] at MK;have iN:=K0 (18446744073709551616^n) 18446744073709551616 (d2+c2);have auN:(d2+c2)%18446744073709551616<18446744073709551616:=xC _ dL;have hc3:(d2+c2)/18446744073709551616<=1:=by omega
  generalize (d2+c2)%18446744073709551616=z2 at*
  generalize (d2+c2)/18446744073709551616=c3 at*
  have NK:=fun (hp:Hp) (ct:Nat)=>kj (hp:=hp) (ct:=ct) (id:=0) (v:=z2) (ex:=true) (l:=pre++y2++post) (o:=pre.length+n) (by rw [oB];omega)
  have ML:=LX (pre:=pre) (x:=y2) (post:=post) (i:=n) z2 (by omega);have O2:lo 18446744073709551616 (y2.set n z2):=me O1 auN;have Ke:(y2.set n z2).length=n+1:=by simp [Vt]
  have hY3:=mi O2;rw [Ke] at hY3;have Ah:0<q:=by rw [e1];exact Nat.succ_pos _
  have hq3:bv 18446744073709551616 x/bv 18446744073709551616 vs=q-1:=by rw [e1,uS]
  have f5:binOp .sub (uc q) (.int .u64 1)=some (uc (q-1)):=CY (b:=1) (by omega) (by omega);simp only [go_sem,ya,yb,yy,yi,pL,mf,mQ,ma,lZ,wF,t0,t5,t6,t17,dd 0 pre.length (show n<n+1 by omega),Vu,f4,NK,ML,f5];refine ⟨_,y2.set n z2,rfl,by rw [hq3];simp only [go_sem],Ke,O2,?_⟩;have e3:bv 18446744073709551616 (y2.set n z2)+18446744073709551616^(n+1)*c3=18446744073709551616^(n+1)+bv 18446744073709551616 x%bv 18446744073709551616 vs:=by
   rw [<-e2,<-atk,xg];rw [xD] at iN;omega
  rcases (show c3=0\/c3=1 by omega) with rfl | rfl
  ·omega
  ·omega
def auO (h:Wd P L) {w:AV} {x vs pre post qs:List Nat} (hw:bJ w vs) {n v1 v2 u0 u1 u2:Nat} (hl:fT x vs n v1 v2 u0 u1 u2):
  ∃x',ik P L (D P L) (H2 qs (pre++x++post)) 2 169 [.ak 0 pre.length (n+1),w]=some (uc (bv 18446744073709551616 x/bv 18446744073709551616 vs),H2 qs (pre++x'++post),2)/\x'.length=n+1/\lo 18446744073709551616 x'/\bv 18446744073709551616 x'=bv 18446744073709551616 x%bv 18446744073709551616 vs:=by
 have ew:=hl.n2;have pv:=hl.nb;have ss:below 2 w:=lV hw.pu;have pC:(n:Int)-1=((n-1:Nat):Int):=by omega
 have eT:=hw.bj (i:=n-1) (by have:=hl.lv;omega);rw [hl.er] at eT;have BR:=zk (l:=pre++x++post) (o:=pre.length+n) (by rw [oB];have:=hl.lx;omega)
 rw [Cj (by have:=hl.lx;omega),hl.h0] at BR;have BS:=zk (l:=pre++x++post) (o:=pre.length+(n-1)) (by rw [oB];have:=hl.lx;omega)
 rw [Cj (by have:=hl.lx;omega),hl.h1] at BS;have E2:=hl.Ka;have NL:=hl.Kb;have nL:=hl.top;have iL:∃tm x',D P L rA.body ⟨fp 0 [.ak 0 pre.length (n+1),w],H2 qs (pre++x++post),2,2⟩=some (.ret,⟨tm,H2 qs (pre++x'++post),2,2⟩)/\af tm 4=uc (bv 18446744073709551616 x/bv 18446744073709551616 vs)/\x'.length=n+1/\lo 18446744073709551616 x'/\bv 18446744073709551616 x'=bv 18446744073709551616 x%bv 18446744073709551616 vs:=by
  have behind:∀(iw:Env) (q:Nat),af iw 0= .ak 0 pre.length (n+1)->af iw 1=w->af iw 5=aa n->af iw 6=uc q->q<18446744073709551616->bv 18446744073709551616 x/bv 18446744073709551616 vs<=q->q<=bv 18446744073709551616 x/bv 18446744073709551616 vs+1->
    ∃tm x',oK P L (oK P L (zi 0 (some (Ex.exit 0,⟨iw,H2 qs (pre++x++post),2,2⟩))) (.kp [0,1,5,6])) (aA (aA (aA (aA (aA (aA rA.body))))))=some (.ret,⟨tm,H2 qs (pre++x'++post),2,2⟩)/\af tm 4=uc (bv 18446744073709551616 x/bv 18446744073709551616 vs)/\x'.length=n+1/\lo 18446744073709551616 x'/\bv 18446744073709551616 x'=bv 18446744073709551616 x%bv 18446744073709551616 vs:=by
   intro iw q t0 t1 t5 t6 g1 g2 g3;have hk:cX iw [0,1,5,6]=[(0,.ak 0 pre.length (n+1)),(1,w),(5,aa n),(6,uc q)]:=by simp only [go_sem,t0,t1,t5,t6]
   rw [HL,fM,I8,pL (by rw [hk];simp only [go_sem,yy,mf,mQ,ma,lZ,ss,wF]) (by rw [hk];simp only [go_sem,yb,yy,aM hw.pu]),fM,hk];exact arC h hw hl g1 g2 g3
  by_cases hc:u0<v1
  ·have f1:=afg h.afl h.Jh (P:=P) (L:=L) hc NL E2;have fL:=wB (u0*18446744073709551616+u1) v1;have p9:=xC (u0*18446744073709551616+u1) hl.pos;have n7:(u0*18446744073709551616+u1)/v1<18446744073709551616:=by
    refine (xZ hl.pos).2 ?_
    have:=yZ 18446744073709551616 (show u0+1<=v1 from hc)
    rw [xN 18446744073709551616 v1];omega
   have Mj:=hl.first;rw [xN] at fL;generalize (u0*18446744073709551616+u1)/v1=q0 at*
   generalize (u0*18446744073709551616+u1)%v1=r0 at*
   simp only [go_sem,ya,yi,rA,H2,hw.len,hl.lv,pC,wrapN (n:=n-1) (by omega),eT,dd 0 pre.length (show n<n+1 by omega),dd 0 pre.length (show n-1<n+1 by omega),BR,BS,show ¬(v1:Int)<=(u0:Int) by omega,f1];generalize mI:D P L (.loop [0,1,5,6,7,8] za) _=qq;obtain ⟨ex,s,rfl,iw,q,rfl,rfl,t0,t1,t5,t6,g1,g2,g3⟩:=cd mI (acW (P:=P) (L:=L) h.mz h.gE hw hl (pre:=pre) (post:=post) (qs:=qs) q0) ⟨q0,r0,by
    rw [pL (by simp only [go_sem,ya,yy,mf,mQ,ma,lZ,ss,wF]) (by simp only [go_sem,ya,yb,yy,aM hw.pu])];rw [yP (show r0<18446744073709551616 by omega),wS (show r0<18446744073709551616 by omega)]
    simp only [go_sem,ya]<;>rfl,fL,by omega,n7,Mj,rfl⟩
   exact behind iw q t0 t1 t5 t6 g1 g2 g3
  ·have nY:u0=v1:=by omega
   have f1:=Cy (P:=P) (f:=D P L) h.gE NL E2 (c:=0) (by omega);rw [yX,show (uc 0)=AV.int .u64 0 from rfl] at f1;have NM:=hl.digit
   simp only [go_sem,ya,yi,rA,H2,hw.len,hl.lv,pC,wrapN (n:=n-1) (by omega),eT,dd 0 pre.length (show n<n+1 by omega),dd 0 pre.length (show n-1<n+1 by omega),BR,BS,show (v1:Int)<=(u0:Int) by omega,f1];generalize mI:D P L (.loop [0,1,5,6,7,8] za) _=qq;obtain ⟨ex,s,rfl,iw,q,rfl,rfl,t0,t1,t5,t6,g1,g2,g3⟩:=cd mI (acW (P:=P) (L:=L) h.mz h.gE hw hl (pre:=pre) (post:=post) (qs:=qs) 18446744073709551615) ⟨18446744073709551615,u1+v1,by
    rw [pL (by simp only [go_sem,ya,yy,mf,mQ,ma,lZ,ss,wF]) (by simp only [go_sem,ya,yb,yy,aM hw.pu])]
    simp only [go_sem,ya]<;>rfl,by rw [nY];omega,by omega,by decide,by omega,rfl⟩
   exact behind iw q t0 t1 t5 t6 g1 g2 g3
 obtain ⟨tm,x',g1,g2,g3,g4,g5⟩:=iL;refine ⟨x',?_,g3,g4,g5⟩;exact D1 h.auI g1 (.inr rfl) (by show gh _ [RV.t 4]=_;rw [EZ,EB,g2])
end
end
section
open Go (IntKind)
def WN (v:AV) (m:Nat):Prop:=∃l,bJ v l/\lo 18446744073709551616 l/\fX l/\bv 18446744073709551616 l=m
def amX (i:Nat) (q:List Nat) (x:Nat):(yA (i+1) 0++q).set i x=yA i 0++x::q:=by
 rw [List.replicate_succ',xu]
 simp_all
def LY {b:Nat} {l:List Nat} {i:Nat} (h:i<l.length):bv b (l.drop i)=l.getD i 0+b*bv b (l.drop (i+1)):=by
 rw [yO h,gd h];rfl
def RL {v w:AV} {x y:List Nat} (hv:bJ v x) (hw:bJ w y) (hp:Hp):result hp (.aq [v,w])=some (.aq [v,w]):=by
 rcases hv with ⟨rfl,_⟩ | ⟨e,rfl⟩<;>rcases hw with ⟨rfl,_⟩ | ⟨e',rfl⟩<;>rfl
def ape {hp:Hp} {id n l h:Nat} {pu ex:Bool} {cs:List AV} {tm:Env} {x y:X} (hg:ap hp id=some (.cells true pu ex 1 cs)) (hx:cV tm 0 (some x)=some l) (hy:cV tm n (some y)=some h) (h1:l<h) (h2:h<=n):
  fA hp (.sl 1) (.ak id 0 n) tm (some x) (some y)=some (.ak id l (h-l)):=by
 simp only [fA,hg,hx,hy,yu (Nat.le_of_lt h1),yu h2,xo,ve,ym,cE (Nat.ne_of_lt h1),xA,yB,yd,yi]
def Z2 {hp:Hp} {id n h:Nat} {pu ex:Bool} {cs:List AV} {tm:Env} {y:X} (hg:ap hp id=some (.cells true pu ex 1 cs)) (hy:cV tm n (some y)=some h) (h1:0<h) (h2:h<=n):
  fA hp (.sl 1) (.ak id 0 n) tm none (some y)=some (.ak id 0 h):=by
 have hx:cV tm 0 none=some 0:=rfl;simp only [fA,hg,hx,hy,yu (Nat.zero_le h),yu h2,xo,ve,ym,cE (show (0:Nat)≠h by omega),xA,yB,Nat.zero_mul,yX,Nat.sub_zero]
def aeA (P:aK) (L:Lib) (f:cJ) (hp:Hp) (ct n:Nat) (xs:List AV):dC P L f hp ct .heap (.fn (.f n) [] []) xs=ik P L f hp ct n xs:=by
 simp only [dC,List.nil_append,xO]
section
variable {P:aK} {L:Lib}
def arD (h:Wd P L) {v w:AV} {x:List Nat} (hv:bJ v x) (hx:lo 18446744073709551616 x) (lx:x.length<=99999999999) {d:Nat} (hw:bJ w [d]) (fR:0<d) (Vv:d<18446744073709551616) {n:Nat} (hn:n=x.length):
  ∀k s,(∃(i r:Nat) (q:List Nat),bH [0,1,6,7,8] s=⟨[(0,v),(1,w),(6,.ak 0 0 n),(7,uc r),(8,aa ((i:Int)-1))],[(0,.cells true true true 1 ((yA i 0++q).map uc))],1,0⟩/\i=k/\i+q.length=n/\lo 18446744073709551616 q/\r<d/\bv 18446744073709551616 (x.drop i)=bv 18446744073709551616 q*d+r)->
   ∃ex s',D P L (.loop [0,1,6,7,8] HY) s=some (ex,s')/\∃tm r q,s'=⟨tm,[(0,.cells true true true 1 (q.map uc))],1,0⟩/\ex= .exit 0/\af tm 6= .ak 0 0 n/\af tm 7=uc r/\q.length=n/\lo 18446744073709551616 q/\r<d/\bv 18446744073709551616 x=bv 18446744073709551616 q*d+r:=by
 refine cC (I:=fun k s=>∃(i r:Nat) (q:List Nat),s=⟨[(0,v),(1,w),(6,.ak 0 0 n),(7,uc r),(8,aa ((i:Int)-1))],[(0,.cells true true true 1 ((yA i 0++q).map uc))],1,0⟩/\i=k/\i+q.length=n/\lo 18446744073709551616 q/\r<d/\bv 18446744073709551616 (x.drop i)=bv 18446744073709551616 q*d+r)
  (Q:=fun ex s'=>∃tm r q,s'=⟨tm,[(0,.cells true true true 1 (q.map uc))],1,0⟩/\ex= .exit 0/\af tm 6= .ak 0 0 n/\af tm 7=uc r/\q.length=n/\lo 18446744073709551616 q/\r<d/\bv 18446744073709551616 x=bv 18446744073709551616 q*d+r) ?_
 rintro k s ⟨i,r,q,rfl,rfl,hlen,bn,hr,aT⟩
 cases i with
 | zero=>
  right
  simp only [go_sem,ya,HY,show ¬(0:Int)<=((0:Nat):Int)-1 by omega];exact ⟨_,_,rfl,by simp,_,r,q,rfl,rfl,by simp only [go_sem,ya],by simp only [go_sem,ya],by omega,bn,hr,by simpa using aT⟩
 | succ i=>
  left
  have gx:=gm (show 0<18446744073709551616 by decide) hx i;have e1:=hv.bj (i:=i) (by omega);have e2:=hw.bj (i:=0) (by simp);have ig:=LY (b:=18446744073709551616) (l:=x) (i:=i) (by omega);rw [show ([d]:List Nat).getD 0 0=d from rfl] at e2;generalize x.getD i 0=a at*
  have e3:=afg (P:=P) (L:=L) h.afl h.Jh hr gx Vv;have fL:=wB (r*18446744073709551616+a) d;have p9:=xC (r*18446744073709551616+a) fR;have n7:(r*18446744073709551616+a)/d<18446744073709551616:=by
   refine (xZ fR).2 ?_;omega
  generalize (r*18446744073709551616+a)/d=q1 at*
  generalize (r*18446744073709551616+a)%d=r1 at*
  have bf:=fun (hp:Hp) (ct:Nat)=>kj (hp:=hp) (ct:=ct) (id:=0) (v:=q1) (ex:=true) (l:=yA (i+1) 0++q) (o:=i) (by simp;omega)
  simp only [go_sem,ya,yi,HY,show ((i+1:Nat):Int)-1=(i:Int) by omega,show (0:Int)<=(i:Int) by omega,e1,e2,e3,dd 0 0 (show i<n by omega),yd,bf,amX];refine ⟨_,i,rfl,by omega,i,r1,q1::q,?_,rfl,by simp;omega,K8.2 ⟨Eg.2 n7,bn⟩,p9,?_⟩
  ·rw [wrap64 (by omega) (by omega)];simp only [go_sem,ya,yb,aD,aM hv.pu,aQ _ hv.pu,aM hw.pu,aQ _ hw.pu]<;>rfl
  ·rw [ig,aT];simp only [bv];rw [wG,xD,<-xk 18446744073709551616];rw [xN d q1] at fL;omega
def akK {s u u1:Nat} (hs:s<64) (hu:u<18446744073709551616):u/2^s<18446744073709551616/\(0<s->u/2^s|||(u1*2^(64-s)%18446744073709551616)<18446744073709551616)/\
  (if 0<s then (u/2^s|||(u1*2^(64-s)%18446744073709551616)) else u/2^s)*2^s+u%2^s=u+18446744073709551616*(u1%2^s):=by
 have e:18446744073709551616=2^s*2^(64-s):=by rw [<-wP,show s+(64-s)=64 by omega]
 have h1:u1*2^(64-s)%18446744073709551616=(u1%2^s)*2^(64-s):=by rw [e,tQ]
 have hp:=wK s;have h2:u/2^s<2^(64-s):=by
  refine (xZ hp).2 ?_
  grind
 have h3:u/2^s|||(u1*2^(64-s)%18446744073709551616)=(u1%2^s)*2^(64-s)+u/2^s:=by rw [h1,ybK,RJ h2]
 have h4:(u1%2^s)*2^(64-s)+u/2^s<18446744073709551616:=by
  have:=yZ (2^(64-s)) (show u1%2^s+1<=2^s from xC _ hp)
  grind
 have h5:=yaL u (2^s)
 grind
def arE {us qs:List Nat} {n la m s:Nat} (hs:s<64) (lu:us.length=la) (gu:lo 18446744073709551616 us) (hn:n<la) (Kf:la<=100000000000):
  ∀k st,(∃(i:Nat) (rs:List Nat),bH [9,11,12,13,96,97] st=⟨[(9,aa s),(11,.ak 0 0 la),(12,aa n),(13,.ak 1 0 m),(96,aa n),(97,aa i)],H2 qs (rs++us.drop i),2,0⟩/\i+k=n/\rs.length=i/\lo 18446744073709551616 rs/\bv 18446744073709551616 rs*2^s+us.getD 0 0%2^s=bv 18446744073709551616 (us.take i)+18446744073709551616^i*(us.getD i 0%2^s))->
   ∃ex st',D P L (.loop [9,11,12,13,96,97] D9) st=some (ex,st')/\∃tm rs,st'=⟨tm,H2 qs (rs++us.drop n),2,0⟩/\ex= .exit 4/\af tm 11= .ak 0 0 la/\af tm 12=aa n/\af tm 13= .ak 1 0 m/\rs.length=n/\lo 18446744073709551616 rs/\bv 18446744073709551616 rs*2^s+us.getD 0 0%2^s=bv 18446744073709551616 (us.take n)+18446744073709551616^n*(us.getD n 0%2^s):=by
 refine cC (I:=fun k st=>∃(i:Nat) (rs:List Nat),st=⟨[(9,aa s),(11,.ak 0 0 la),(12,aa n),(13,.ak 1 0 m),(96,aa n),(97,aa i)],H2 qs (rs++us.drop i),2,0⟩/\i+k=n/\rs.length=i/\lo 18446744073709551616 rs/\bv 18446744073709551616 rs*2^s+us.getD 0 0%2^s=bv 18446744073709551616 (us.take i)+18446744073709551616^i*(us.getD i 0%2^s))
  (Q:=fun ex st'=>∃tm rs,st'=⟨tm,H2 qs (rs++us.drop n),2,0⟩/\ex= .exit 4/\af tm 11= .ak 0 0 la/\af tm 12=aa n/\af tm 13= .ak 1 0 m/\rs.length=n/\lo 18446744073709551616 rs/\bv 18446744073709551616 rs*2^s+us.getD 0 0%2^s=bv 18446744073709551616 (us.take n)+18446744073709551616^n*(us.getD n 0%2^s)) ?_
 rintro k st ⟨i,rs,rfl,hk,lr,gr,aT⟩;by_cases hi:i<n
 ·left
  have dL:(0:Nat)<18446744073709551616:=by decide
  have g0:=gm dL gu i;have g1:=gm dL gu (i+1);have d0:us.drop i=us.getD i 0::us.getD (i+1) 0::us.drop (i+2):=by
   rw [yO (show i<us.length by omega),yO (show i+1<us.length by omega),gd,gd]
  have ep:=iV (b:=18446744073709551616) (l:=us) i;have lF:∀r,r<18446744073709551616->r*2^s+us.getD i 0%2^s=us.getD i 0+18446744073709551616*(us.getD (i+1) 0%2^s)->lo 18446744073709551616 (rs++[r])/\bv 18446744073709551616 (rs++[r])*2^s+us.getD 0 0%2^s=bv 18446744073709551616 (us.take (i+1))+18446744073709551616^(i+1)*(us.getD (i+1) 0%2^s):=fun r h1 h2=>by
   refine ⟨K8.2 ⟨gr,Eg.2 h1⟩,?_⟩;rw [qR,AT,lr,ep,wG,xg,xk,xk];have e2:=congrArg (fun t=>18446744073709551616^i*t) h2;simp only [xD] at e2;generalize 18446744073709551616^i*(r*2^s)=p1 at*
   generalize 18446744073709551616^i*(us.getD i 0%2^s)=p2 at*
   generalize 18446744073709551616^i*us.getD i 0=p3 at*
   generalize 18446744073709551616^i*(18446744073709551616*(us.getD (i+1) 0%2^s))=p4 at*
   omega
  have Tg:us.drop (i+1)=us.getD (i+1) 0::us.drop (i+2):=by
   rw [yO (show i+1<us.length by omega),gd]
  generalize us.getD i 0=a at*
  obtain ⟨c,hc⟩:∃c,c=us.getD (i+1) 0:=⟨_,rfl⟩;rw [<-hc] at g1 d0 Tg lF;generalize us.drop (i+2)=dr at*
  rw [d0];obtain ⟨n1,n2,n3⟩:=akK (u1:=c) hs g0;have o1:=Jg .i64 a (s:=s) (by omega);have o2:=Jf .i64 c (s:=64-s) (by omega);have o3:binOp .sub (.int .i64 64) (aa s)=some (aa (64-s:Nat)):=by
   rw [LS,wrap64 (by omega) (by omega)];congr 2;omega
  have o4:=Vm n1 (xC (c*2^(64-s)) dL);have sa:∀z y,(rs++z::y).set i a=rs++a::y:=fun z y=>by rw [tG _ _ (by omega),lr];simp
  have e0:∀z y,xv i ((rs++z::y).map uc)=uc z::y.map uc:=fun z y=>by
   rw [xq,yaG (by simp [lr])];rfl
  have e1:∀z y u,xv (i+1) ((rs++z::y::u).map uc)=uc y::u.map uc:=fun z y u=>by
   rw [show rs++z::y::u=(rs++[z])++y::u by simp,xq,yaG (by simp [lr])];rfl
  have Fk:∀(hp:Hp) (ct x z:Nat) (y:List Nat),fy hp ct 0 i 1 [.int .u64 (x:Int)] (some (.cells true true true 1 ((rs++z::y).map uc)))=some (.aq [],aY hp 0 (.cells true true true 1 ((rs++x::y).map uc)),ct):=fun hp ct x z y=>by
   rw [kj (by simp;omega),tG _ _ (by omega),lr];simp
  by_cases h0:0<s
  ·rw [yJ h0] at n3;obtain ⟨f1,f2⟩:=lF _ (n2 h0) n3;generalize a/2^s=a1 at*
   generalize a1|||(c*2^(64-s)%18446744073709551616)=r at*
   simp only [go_sem,ya,yi,D9,H2,show (i:Int)<(n:Int) by omega,dd 0 0 (show i<la by omega),yd,e0,o1,Fk,show (0:Int)<(s:Int) by omega,show (i:Int)+1=((i+1:Nat):Int) from rfl,wrapN (n:=i+1) (by omega),show ((i+1:Nat):Int)<(la:Int) by omega,dd 0 0 (show i+1<la by omega),e1,o3,o2,o4];refine ⟨_,k-1,rfl,by omega,i+1,rs++[r],by simp only [go_sem,ya,yb,aD];rw [Tg];simp,by omega,by simp [lr],f1,by rw [<-hc];exact f2⟩
  ·rw [yz h0] at n3;obtain ⟨f1,f2⟩:=lF _ n1 n3;generalize a/2^s=a1 at*
   simp only [go_sem,ya,yi,D9,H2,show (i:Int)<(n:Int) by omega,dd 0 0 (show i<la by omega),yd,e0,o1,Fk,show ¬(0:Int)<(s:Int) by omega,show (i:Int)+1=((i+1:Nat):Int) from rfl,wrapN (n:=i+1) (by omega)];refine ⟨_,k-1,rfl,by omega,i+1,rs++[a1],by simp only [go_sem,ya,yb,aD];rw [Tg];simp,by omega,by simp [lr],f1,by rw [<-hc];exact f2⟩
 ·right
  have:i=n:=by omega
  subst this;simp only [go_sem,ya,D9,H2,show ¬(i:Int)<(i:Int) by omega];exact ⟨_,_,rfl,by simp,_,rs,rfl,rfl,by simp only [go_sem,ya],by simp only [go_sem,ya],by simp only [go_sem,ya],lr,gr,aT⟩
end
end
end VE
