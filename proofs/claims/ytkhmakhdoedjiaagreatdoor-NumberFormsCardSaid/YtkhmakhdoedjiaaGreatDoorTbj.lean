import Derived.Test.YtkhmakhdoedjiaaGreatDoorTbf
import Derived.Test.YtkhmakhdoedjiaaGreatDoorTas
import Derived.Test.YtkhmakhdoedjiaaGreatDoorTbi
set_option linter.all false
set_option maxRecDepth 100000
open Nat (reduceAdd reduceEqDiff reduceLT reduceMul)
section
namespace VE
open Go (IntKind)
mutual
def zcT (n:Nat):AV→Prop
 | .ptr id _=>id<n
 | .osl id _ _=>id<n
 | .map id=>id<n
 | .it id=>id<n
 | .fn (.f _) first cap=>zdU n first∧zdU n cap
 | .fn (.y l) first cap=>l<n∧first=[]∧cap=[]
 | .agg cs=>zdU n cs
 | .tup cs=>zdU n cs
 | _=>True
def zdU (n:Nat):List AV→Prop
 | []=>True
 | v::r=>zcT n v∧zdU n r
end
def zdQ (n:Nat):Env→Prop
 | []=>True
 | (_,v)::r=>zcT n v∧zdQ n r
def zgM (n:Nat):Obj→Prop
 | .cells _ pu _ _ cs=>pu=true∨zdU n cs
 | .mp _ ks vs=>zdU n ks∧zdU n vs
 | .si _ _=>True
 | .lp tm _ _ _ _ _=>zdQ n tm
def zko (b n:Nat):Hp→Prop
 | []=>True
 | (id,o)::r=>id<b∧zgM n o∧zko b n r
mutual
theorem zlz {f:Nat→Option Nat} {n:Nat} (hf:∀x,x<n→f x=some x):∀{v:AV},zcT n v→ren f v=v
 | .int _ _,_ | .bool _,_ | .flt _ _,_ | .str _,_ | .nilp,_ | .vptr _,_ | .nils,_ | .vsl _ _ _,_ | .nilf,_ | .nilm,_ | .vmap _ _,_ | .undef,_ | .fsl _ _ _ _,_=>rfl
 | .ptr id o,h=>by simp only [ren,hf id h]
 | .osl id o k,h=>by simp only [ren,hf id h]
 | .map id,h=>by simp only [ren,hf id h]
 | .it id,h=>by simp only [ren,hf id h]
 | .fn (.y l) first cap,h=>by
  obtain ⟨h1,rfl,rfl⟩:=h;simp only [ren,hf l h1,zcN]
 | .fn (.f _) first cap,h=>by
  simp only [ren,zbR hf h.1,zbR hf h.2]
 | .agg cs,h=>by simp only [zcT] at h;simp only [ren,zbR hf h]
 | .tup cs,h=>by simp only [zcT] at h;simp only [ren,zbR hf h]
theorem zbR {f:Nat→Option Nat} {n:Nat} (hf:∀x,x<n→f x=some x):∀{vs:List AV},zdU n vs→zcN f vs=vs
 | [],_=>rfl
 | v::r,h=>by simp only [zcN,zlz hf h.1,zbR hf h.2]
end
theorem zgN {f:Nat→Option Nat} {n:Nat} (hf:∀x,x<n→f x=some x):∀{tm:Env},zdQ n tm→zfu f tm=tm
 | [],_=>rfl
 | (_,v)::r,h=>by simp only [zfu,zlz hf h.1,zgN hf h.2]
theorem zpm {f:Nat→Option Nat} {n:Nat} (hf:∀x,x<n→f x=some x):∀{o:Obj},zgM n o→zga f o=o
 | .cells _ pu _ _ cs,h=>by
  cases pu with
  | true=>rfl
  | false=>simp only [zgM,Bool.false_eq_true,false_or] at h;simp only [zga,cond_false,zbR hf h]
 | .mp _ ks vs,h=>by simp only [zga,zbR hf h.1,zbR hf h.2]
 | .si _ _,_=>rfl
 | .lp tm _ _ _ _ _,h=>by simp only [zgM] at h;simp only [zga,zgN hf h]
mutual
theorem zjW {n:Nat}:∀{v:AV},zcT n v→∀x,x∈zcu v→x<n
 | .int _ _,_,x,h | .bool _,_,x,h | .flt _ _,_,x,h | .str _,_,x,h | .nilp,_,x,h | .vptr _,_,x,h | .nils,_,x,h | .vsl _ _ _,_,x,h | .nilf,_,x,h | .nilm,_,x,h | .vmap _ _,_,x,h | .undef,_,x,h | .fsl _ _ _ _,_,x,h=>by simp [zcu] at h
 | .ptr id o,h,x,hx=>by simp only [zcu,List.mem_singleton] at hx;subst hx;exact h
 | .osl id o k,h,x,hx=>by simp only [zcu,List.mem_singleton] at hx;subst hx;exact h
 | .map id,h,x,hx=>by simp only [zcu,List.mem_singleton] at hx;subst hx;exact h
 | .it id,h,x,hx=>by simp only [zcu,List.mem_singleton] at hx;subst hx;exact h
 | .fn (.y l) first cap,h,x,hx=>by simp only [zcu,List.mem_singleton] at hx;subst hx;exact h.1
 | .fn (.f _) first cap,h,x,hx=>by
  simp only [zcu,List.mem_append] at hx;exact hx.elim (zbr h.1 x) (zbr h.2 x)
 | .agg cs,h,x,hx=>by simp only [zcT] at h;simp only [zcu] at hx;exact zbr h x hx
 | .tup cs,h,x,hx=>by simp only [zcT] at h;simp only [zcu] at hx;exact zbr h x hx
theorem zbr {n:Nat}:∀{vs:List AV},zdU n vs→∀x,x∈zcs vs→x<n
 | [],_,x,h=>by simp [zcs] at h
 | v::r,h,x,hx=>by
  simp only [zcs,List.mem_append] at hx;exact hx.elim (zjW h.1 x) (zbr h.2 x)
end
theorem zfH {n:Nat}:∀{tm:Env},zdQ n tm→∀x,x∈zcp tm→x<n
 | [],_,x,h=>by simp [zcp] at h
 | (_,v)::r,h,x,hx=>by
  simp only [zcp,List.mem_append] at hx;exact hx.elim (zjW h.1 x) (zfH h.2 x)
theorem znJ {n:Nat}:∀{o:Obj},zgM n o→∀x,x∈zed o→x<n
 | .cells _ pu _ _ cs,h,x,hx=>by
  cases pu with
  | true=>simp [zed] at hx
  | false=>simp only [zgM,Bool.false_eq_true,false_or] at h;simp only [zed,cond_false] at hx;exact zbr h x hx
 | .mp _ ks vs,h,x,hx=>by
  simp only [zed,List.mem_append] at hx;exact hx.elim (zbr h.1 x) (zbr h.2 x)
 | .si _ _,_,x,hx=>by simp [zed] at hx
 | .lp tm _ _ _ _ _,h,x,hx=>by simp only [zgM] at h;simp only [zed] at hx;exact zfH h x hx
def zcR (B:Nat):List (List AV)→Hp
 | []=>[]
 | cs::r=>(B+r.length,.cells true true true 1 cs)::zcR B r
def zj7 (B:Nat):List (List AV)→Hp→Hp
 | [],acc=>acc
 | cs::r,acc=>zj7 (B+1) r ((B,.cells true true true 1 cs)::acc)
theorem zjM:∀(l:List (List AV)) (B:Nat) (x:List AV) (acc:Hp),zj7 B (l++[x]) acc=(B+l.length,.cells true true true 1 x)::zj7 B l acc
 | [],B,x,acc=>rfl
 | c::l,B,x,acc=>by
  simp only [List.cons_append,zj7,zjM l,List.length_cons];rw [show B+1+l.length=B+(l.length+1) by omega]
theorem zlW (B:Nat) (acc:Hp):∀rs:List (List AV),zj7 B rs.reverse acc=zcR B rs++acc
 | []=>rfl
 | c::r=>by
  simp only [List.reverse_cons,zjM,zlW B acc r,List.length_reverse,zcR,List.cons_append]
theorem zlK {B:Nat} {old:Hp}:∀{rs:List (List AV)} {i:Nat} (h:i<rs.length),zq (zcR B rs++old) (B+i)=some (.cells true true true 1 (rs.reverse[i]'(by simpa using h)))
 | c::r,i,h=>by
  simp only [zcR,List.cons_append,List.reverse_cons];by_cases hi:i=r.length
  ·subst hi;rw [zq,Nat.beq_refl,cond_true]
   simp
  ·have hlt:i<r.length:=by simp only [List.length_cons] at h;omega
   rw [zq,zaH (by omega),cond_false,zlK hlt]
   congr 2
   rw [List.getElem_append_left]
theorem zgL {a b:Nat} (h:a<b):Nat.blt a b=true:=Nat.ble_eq_true_of_le h
theorem zjF {a b:Nat} (h:b≤a):Nat.blt a b=false:=by
 cases hq:Nat.blt a b with
 | false=>rfl
 | true=>have:=Nat.le_of_ble_eq_true hq;omega
theorem zff {B:Nat} {old:Hp}:∀rs:List (List AV),zaX B (zcR B rs++old)=zaX B old
 | []=>rfl
 | c::r=>by
  simp only [zcR,List.cons_append];rw [zaX,zjF (by omega),cond_false,zff r]
theorem zjq {B:Nat} {old:Hp} {f:Nat→Option Nat}:∀rs:List (List AV),zdV B f (zcR B rs++old)=zdV B f old
 | []=>rfl
 | c::r=>by
  simp only [zcR,List.cons_append];rw [zdV,zjF (by omega),cond_false,zjq r]
theorem ziA {B n:Nat} {f:Nat→Option Nat} (hf:∀x,x<n→f x=some x):∀{old:Hp},zko B n old→zdV B f old=old
 | [],_=>rfl
 | (id,o)::r,h=>by
  rw [zdV,zgL h.1,cond_true,zpm hf h.2.1,ziA hf h.2.2]
theorem zpp {B s x:Nat} (h:B+s≤x):zf9 x (List.range' B s)=false:=by
 induction s generalizing B with
 | zero=>rfl
 | succ s ih=>rw [List.range'_succ,zf9,zaH (by omega),cond_false,ih (by omega)]
theorem zgx {hp:Hp} {B R:Nat} (hrow:∀i,i<R→∃rw ex sz cs,zq hp (B+i)=some (.cells rw true ex sz cs)):
  ∀(W:List Nat) (fuel s:Nat),W.length<fuel→s≤R→W.filter (fun x=> !Nat.blt x B)=List.range' (B+s) (R-s)→zfn hp B fuel W (List.range' B s)=List.range' B R
 | [],0,s,hf,_,_=>by simp at hf
 | [],fuel+1,s,hf,hs,h=>by
  rw [List.filter_nil] at h
  have:R-s=0:=by
   have:=congrArg List.length h
   simpa using this.symm
  rw [zfn,show R=s by omega]
 | id::W,0,s,hf,_,_=>by simp at hf
 | id::W,fuel+1,s,hf,hs,h=>by
  have hf':W.length<fuel:=by simpa using hf
  rw [zfn];by_cases hid:id<B
  ·rw [zgL hid,Bool.true_or,cond_true];rw [List.filter_cons,zgL hid] at h;exact zgx hrow W fuel s hf' hs (by simpa using h)
  ·rw [List.filter_cons,zjF (by omega)] at h;simp only [Bool.not_false,if_true] at h;have hRs:R-s=(R-s-1)+1:=by
    have:=congrArg List.length h
    simp only [List.length_cons,List.length_range'] at this;omega
   rw [hRs,List.range'_succ] at h;injection h with h1 h2
   subst h1;rw [zjF (by omega),Bool.false_or,zpp (Nat.le_refl _),cond_false];obtain ⟨rw,ex,sz,cs,ho⟩:=hrow s (by omega);simp only [ho,zed,cond_true,List.nil_append];have e:List.range' B s++[B+s]=List.range' B (s+1):=by rw [List.range'_concat];simp
   rw [e];exact zgx hrow W fuel (s+1) hf' (by omega) (by rw [h2,show R-s-1=R-(s+1) by omega,show B+s+1=B+(s+1) by omega])
theorem zpC {B s i k:Nat} (h:i<s):zgv (B+i) (List.range' B s) k=some (k+i):=by
 induction s generalizing B i k with
 | zero=>omega
 | succ s ih=>
  rw [List.range'_succ,zgv];by_cases hi:i=0
  ·subst hi;simp
  ·rw [zaH (by omega),cond_false]
   have:=ih (B:=B+1) (i:=i-1) (k:=k+1) (by omega)
   rw [show B+1+(i-1)=B+i by omega,show k+1+(i-1)=k+i by omega] at this;exact this
theorem zou {B R x:Nat} (h:x<B+R):zdo B (List.range' B R) x=some x:=by
 unfold zdo;by_cases hx:x<B
 ·rw [zgL hx,cond_true]
 ·rw [zjF (by omega),cond_false]
  have:=zpC (B:=B) (s:=R) (i:=x-B) (k:=B) (by omega)
  rw [show B+(x-B)=x by omega] at this;exact this
theorem zkO {hp:Hp} {f:Nat→Option Nat}:∀(ro:List (List AV)) (B:Nat) (acc:Hp),(∀i (h:i<ro.length),zq hp (B+i)=some (.cells true true true 1 ro[i]))→zdq hp f (List.range' B ro.length) B acc=zj7 B ro acc
 | [],B,acc,_=>rfl
 | c::r,B,acc,h=>by
  have h0:=h 0 (by simp);simp only [Nat.add_zero,List.getElem_cons_zero] at h0;rw [List.length_cons,List.range'_succ,zdq];simp only [h0,zga,cond_true,zj7]
  exact zkO r (B+1) _ (fun i hi=>by
   have:=h (i+1) (by simpa using hi)
   rw [show B+1+i=B+(i+1) by omega,this]
   simp)
theorem zmi {live:List Nat} {tm:Env} {B ct:Nat} {old:Hp} {rs:List (List AV)} (ht:zdQ B (keep tm live)) (ho:zko B (B+rs.length) old) (hl:(zcp (keep tm live)).length+(zaX B old).length<100000)
  (hr:(zaX B old).filter (fun x=> !Nat.blt x B)=List.range' B rs.length):zA live ⟨tm,zcR B rs++old,ct,B⟩=⟨keep tm live,zcR B rs++old,B+rs.length,B⟩:=by
 have hrow:∀i (h:i<rs.length),zq (zcR B rs++old) (B+i)=some (.cells true true true 1 (rs.reverse[i]'(by simpa using h))):=fun i h=>zlK h
 have hseen:zfn (zcR B rs++old) B 100000 (zcp (keep tm live)++zaX B (zcR B rs++old)) []=List.range' B rs.length:=by
  have:=zgx (hp:=zcR B rs++old) (B:=B) (R:=rs.length) (fun i hi=>⟨_,_,_,_,hrow i hi⟩) (zcp (keep tm live)++zaX B (zcR B rs++old)) 100000 0 (by rw [zff,List.length_append];exact hl) (Nat.zero_le _) (by
   rw [List.filter_append,zff,hr,List.filter_eq_nil_iff.2 (fun x hx=>by
    have:=zfH ht x hx
    simp [zgL this])]
   simp)
  simpa using this
 have hid:∀x,x<B+rs.length→zdo B (List.range' B rs.length) x=some x:=fun x hx=>zou hx
 have hn:=zkO (hp:=zcR B rs++old) (f:=zdo B (List.range' B rs.length)) rs.reverse B old (fun i hi=>hrow i (by simpa using hi));rw [List.length_reverse] at hn;simp only [zA,hseen,zjq,ziA hid ho,hn,zlW,List.length_range']
 rw [zgN (n:=B) (fun x hx=>hid x (by omega)) ht]
theorem zkp {B b n:Nat} (hb:b≤B):∀{H:Hp},zko b n H→∀x,x∈zaX B H→x<n
 | [],_,x,hx=>by simp [zaX] at hx
 | (id,o)::r,h,x,hx=>by
  rw [zaX,zgL (by have:=h.1;omega),cond_true,List.mem_append] at hx;exact hx.elim (znJ h.2.1 x) (zkp hb h.2.2 x)
theorem ziC {live:List Nat} {tm:Env} {B ct:Nat} {old:Hp} (ht:zdQ B (keep tm live)) (ho:zko B B old) (hl:(zcp (keep tm live)).length+(zaX B old).length<100000):
  zA live ⟨tm,old,ct,B⟩=⟨keep tm live,old,B,B⟩:=by
 have:=zmi (rs:=[]) (ct:=ct) ht (by simpa using ho) hl (by
  rw [List.filter_eq_nil_iff.2 (fun x hx=>by have:=zkp (Nat.le_refl B) ho x hx;simp [zgL this])]
  rfl)
 simpa [zcR] using this
end VE
end
section
namespace VE
open Go (IntKind)
section
variable {P:zN} {L:Lib}
theorem zrO {n:Nat} {F:Fnc} (h:Has P L n F) {hp:Hp} {ct:Nat} {vals:List AV} {ex:Ex} {s:St} {v:AV} (hD:D P L F.body ⟨zab 0 vals,hp,ct,ct⟩=some (ex,s)) (he:ex= .normal∨ex= .ret) (hr:zaq s F.res=some v):
  zbj P L (D P L) hp ct n vals=some (v,s.hp,s.ct):=by
 simp only [zbj,h.heap,h.code,hD];rcases he with rfl | rfl<;>simp only [hr]
mutual
theorem zba {n:Nat}:∀{v:AV},zx v=true→zcT n v
 | .int _ _,_ | .bool _,_ | .flt _ _,_ | .str _,_ | .nilp,_ | .vptr _,_ | .nils,_ | .vsl _ _ _,_ | .nilf,_ | .nilm,_ | .vmap _ _,_ | .undef,_=>trivial
 | .fsl _ _ _ _,_=>trivial
 | .ptr _ _,h | .osl _ _ _,h | .map _,h | .it _,h=>by simp [zx] at h
 | .fn (.y _) _ _,h=>by simp [zx] at h
 | .fn (.f _) _ _,h=>by
  simp only [zx,Bool.and_eq_true] at h;exact ⟨zdc h.1,zdc h.2⟩
 | .agg cs,h=>by simp only [zx] at h;simp only [zcT];exact zdc h
 | .tup cs,h=>by simp only [zx] at h;simp only [zcT];exact zdc h
theorem zdc {n:Nat}:∀{vs:List AV},zn vs=true→zdU n vs
 | [],_=>trivial
 | _::_,h=>by
  simp only [zn,Bool.and_eq_true] at h;exact ⟨zba h.1,zdc h.2⟩
end
end
end VE
end
section
namespace VE
open Go (IntKind)
section
variable {pre x post:List Nat} {i:Nat}
theorem zcb:(pre++x++post).length=pre.length+x.length+post.length:=by simp [Nat.add_assoc]
theorem ze6 (h:i<x.length):(pre++x++post).getD (pre.length+i) 0=x.getD i 0:=by
 simp only [List.getD_eq_getElem?_getD];rw [List.append_assoc,List.getElem?_append_right (by omega),List.getElem?_append_left (by omega),Nat.add_sub_cancel_left]
theorem zjf (a:Nat) (h:i<x.length):(pre++x++post).set (pre.length+i) a=pre++x.set i a++post:=by
 rw [List.append_assoc,List.set_append_right _ _ (by omega),List.set_append_left _ _ (by omega),Nat.add_sub_cancel_left,List.append_assoc]
end
theorem zck (n:Nat) (k:IntKind) (a:Int):zcT n (.int k a)=True:=rfl
theorem zcG (n id o k:Nat):zcT n (.osl id o k)=(id<n):=rfl
theorem zbt (n:Nat):zdQ n []=True:=rfl
theorem za8 (n i:Nat) (v:AV) (r:Env):zdQ n ((i,v)::r)=(zcT n v∧zdQ n r):=rfl
theorem zbP {live:List Nat} {tm:Env} {ct:Nat} {a b:List AV} (ht:zdQ 2 (keep tm live)) (hl:(zcp (keep tm live)).length<100000):
  zA live ⟨tm,[(1,.cells true true true 1 a),(0,.cells true true true 1 b)],ct,2⟩=⟨keep tm live,[(1,.cells true true true 1 a),(0,.cells true true true 1 b)],2,2⟩:=
 ziC ht ⟨by omega,.inl rfl,by omega,.inl rfl,trivial⟩ (by
  have:zaX 2 [(1,Obj.cells true true true 1 a),(0,Obj.cells true true true 1 b)]=[]:=rfl
  rw [this,List.length_nil,Nat.add_zero];exact hl)
section
variable {P:zN} {L:Lib}
theorem zpJ {x s c:Nat} (hs:s<64) (hx:x<18446744073709551616) (hc:c<2^s):
  c|||(x*2^s%18446744073709551616)<18446744073709551616∧c<18446744073709551616∧x/2^(64-s)<2^s∧(c|||(x*2^s%18446744073709551616))+18446744073709551616*(x/2^(64-s))=x*2^s+c:=by
 have e:18446744073709551616=2^(64-s)*2^s:=by rw [←Nat.pow_add,show 64-s+s=64 by omega]
 have h1:x*2^s%18446744073709551616=(x%2^(64-s))*2^s:=by rw [e,Nat.mul_mod_mul_right]
 have h2:x/2^(64-s)<2^s:=by
  refine (Nat.div_lt_iff_lt_mul (Nat.two_pow_pos _)).2 ?_;rw [←Nat.pow_add,show s+(64-s)=64 by omega];exact hx
 have h3:c|||(x*2^s%18446744073709551616)=(x%2^(64-s))*2^s+c:=by rw [h1,Nat.or_comm,zpl hc]
 have h4:(x%2^(64-s))*2^s+c<18446744073709551616:=by
  have:=Nat.mul_le_mul_right (2^s) (show x%2^(64-s)+1≤2^(64-s) from Nat.mod_lt _ (Nat.two_pow_pos _))
  rw [←e,Nat.add_mul,Nat.one_mul] at this;exact Nat.lt_of_lt_of_le (Nat.add_lt_add_left hc _) this
 rw [h3];refine ⟨h4,Nat.lt_of_le_of_lt (Nat.le_add_left _ _) h4,h2,?_⟩;have h5:=Nat.mod_add_div x (2^(64-s));have h6:18446744073709551616*(x/2^(64-s))=2^(64-s)*(x/2^(64-s))*2^s:=by
  conv=>lhs;rw [e]
  rw [Nat.mul_right_comm]
 rw [h6,Nat.add_right_comm,←Nat.add_mul,h5]
theorem zKq {v:AV} {w:List Nat} (hv:IsU v w) (hw:lo 18446744073709551616 w) (lw:w.length≤99999999999) {s n:Nat} (hs:s<64) (hn:n=w.length+1):
  ∀k st,(∃(i:Nat) (out:List Nat),zA [1,5,12,13,14] st=⟨[(1,zh s),(5,.osl 0 0 n),(12,v),(13,zh w.length),(14,zh i)],[(0,.cells true true true 1 (out.map uc))],1,0⟩∧i+k=w.length∧out.length=n∧lo 18446744073709551616 out∧bv 18446744073709551616 out=bv 18446744073709551616 (w.take i)*2^s∧out.getD i 0<2^s∧(∀m,i<m→out.getD m 0=0))→
   ∃ex st',D P L (.loop [1,5,12,13,14] zhS) st=some (ex,st')∧∃tm out,st'=⟨tm,[(0,.cells true true true 1 (out.map uc))],1,0⟩∧ex= .exit 0∧zc tm 5= .osl 0 0 n∧out.length=n∧lo 18446744073709551616 out∧bv 18446744073709551616 out=bv 18446744073709551616 w*2^s:=by
 refine zS (I:=fun k st=>∃(i:Nat) (out:List Nat),st=⟨[(1,zh s),(5,.osl 0 0 n),(12,v),(13,zh w.length),(14,zh i)],[(0,.cells true true true 1 (out.map uc))],1,0⟩∧i+k=w.length∧out.length=n∧lo 18446744073709551616 out∧bv 18446744073709551616 out=bv 18446744073709551616 (w.take i)*2^s∧out.getD i 0<2^s∧(∀m,i<m→out.getD m 0=0))
  (Q:=fun ex st'=>∃tm out,st'=⟨tm,[(0,.cells true true true 1 (out.map uc))],1,0⟩∧ex= .exit 0∧zc tm 5= .osl 0 0 n∧out.length=n∧lo 18446744073709551616 out∧bv 18446744073709551616 out=bv 18446744073709551616 w*2^s) ?_
 rintro k st ⟨i,out,rfl,hk,hlen,hlo,hval,hc,hhi⟩;by_cases hi:i<w.length
 ·left
  have gx:=zaZ (show 0<18446744073709551616 by decide) hw i;have ex:=hv.ixa hi;have ec:=zhz (l:=out) (o:=i) (by omega);have z7:=zcW (b:=18446744073709551616) (l:=out) (i:=i) (x:=out.getD i 0|||(w.getD i 0*2^s%18446744073709551616)) (by omega);have hz:out.getD (i+1) 0=0:=hhi _ (by omega);have htk:=zaW (b:=18446744073709551616) (l:=w) i;generalize out.getD i 0=c at*
  generalize w.getD i 0=x at*
  obtain ⟨s1,s2,s3,s4⟩:=zpJ hs gx hc;have o1:=zxP .i64 x (s:=s) (by omega);have o2:=orU s2 (Nat.mod_lt (x*2^s) (by decide));have o3:binOp .sub (.int .i64 64) (zh s)=some (zh (64-s:Nat)):=by
   rw [zjg,ze (by omega) (by omega)];congr 2;omega
  have o4:=zwS .i64 x (s:=64-s) (by omega);generalize hc':c|||(x*2^s%18446744073709551616)=c' at*
  by_cases h0:0<s
  ·have hset2:=zcW (b:=18446744073709551616) (l:=out.set i c') (i:=i+1) (x:=x/2^(64-s)) (by simp;omega);rw [zce (by omega),hz,Nat.mul_zero,Nat.add_zero] at hset2;have hq64:x/2^(64-s)<18446744073709551616:=Nat.lt_of_le_of_lt (Nat.div_le_self _ _) gx;generalize x/2^(64-s)=y at*
   simp only [go_sem,reduceEqDiff,Nat.mul_one,zhS,show (i:Int)<w.length by omega,ex,zY 0 0 (show i<n by omega),Nat.zero_add,ec,o1,o2,stU (l:=out) (o:=i) (by omega),show (0:Int)<(s:Int) by omega,show (i:Int)+1=((i+1:Nat):Int) from rfl,zy (n:=i+1) (by omega),o3,o4,zY 0 0 (show i+1<n by omega),stU (l:=out.set i c') (o:=i+1) (by simp;omega)];refine ⟨_,k-1,rfl,by omega,i+1,(out.set i c').set (i+1) y,by simp only [go_sem,reduceEqDiff,reduceAdd,za,zb hv.pu,zd _ hv.pu]<;>rfl,by omega,by simp [hlen],zcj (zcj hlo s1) hq64,?_,by rw [zoS (by simp;omega)];exact s3,fun m hm=>by rw [zce (by omega),zce (by omega)];exact hhi m (by omega)⟩
   rw [htk,Nat.add_mul,hset2,←hval,Nat.pow_succ,Nat.mul_assoc,Nat.mul_assoc (18446744073709551616^i)];have e:=congrArg (fun t=>18446744073709551616^i*t) s4;simp only [Nat.mul_add] at e;generalize 18446744073709551616^i*(18446744073709551616*y)=p1 at*
   generalize 18446744073709551616^i*(x*2^s)=p2 at*
   generalize 18446744073709551616^i*c'=p3 at*
   generalize 18446744073709551616^i*c=p4 at*
   omega
  ·have hs0:s=0:=by omega
   subst hs0;have hc0:c=0:=by simpa using hc
   have hx0:x/2^(64-0)=0:=Nat.div_eq_of_lt gx;rw [hx0,Nat.mul_zero,Nat.add_zero,Nat.pow_zero,Nat.mul_one] at s4
   simp only [go_sem,reduceEqDiff,Nat.mul_one,zhS,show (i:Int)<w.length by omega,ex,zY 0 0 (show i<n by omega),Nat.zero_add,ec,o1,o2,stU (l:=out) (o:=i) (by omega),show ¬(0:Int)<((0:Nat):Int) by omega,show (i:Int)+1=((i+1:Nat):Int) from rfl,zy (n:=i+1) (by omega)];refine ⟨_,k-1,rfl,by omega,i+1,out.set i c',by simp only [go_sem,reduceEqDiff,reduceAdd,za,zb hv.pu,zd _ hv.pu]<;>rfl,by omega,by simp [hlen],zcj hlo s1,?_,by rw [zce (by omega),hz];exact Nat.two_pow_pos _,fun m hm=>by rw [zce (by omega)];exact hhi m (by omega)⟩
   rw [Nat.pow_zero,Nat.mul_one] at hval ⊢;rw [htk,←hval];rw [hc0,Nat.mul_zero,Nat.add_zero] at z7;rw [z7,s4,hc0,Nat.add_zero]
 ·right
  have:i=w.length:=by omega
  subst this;rw [List.take_length] at hval;simp only [go_sem,reduceEqDiff,zhS,show ¬(w.length:Int)<w.length by omega];exact ⟨_,_,rfl,by simp,_,out,rfl,rfl,by simp only [go_sem,reduceEqDiff],hlen,hlo,hval⟩
theorem zME (h:Has P L 168 zAo) {v:AV} {w:List Nat} (hv:IsU v w) (hw:lo 18446744073709551616 w) (lw:w.length≤99999999999) {s:Nat} (hs:s<64):
  ∃out,zK P L 168 [v,zh s] (.fsl true 1 (w.length+1) (out.map uc))∧out.length=w.length+1∧lo 18446744073709551616 out∧bv 18446744073709551616 out=bv 18446744073709551616 w*2^s:=by
 obtain ⟨n,hn⟩:∃n,n=w.length+1:=⟨_,rfl⟩;unfold zK;rw [zf h]
 simp only [go_sem,reduceEqDiff,reduceAdd,zAo,hv.len,zy (n:=n) (by omega),show (w.length:Int)+1=((w.length+1:Nat):Int) from rfl,←hn,zpi (n:=n) _ (by omega)];generalize hq:D P L (.loop [1,5,12,13,14] zhS) _=q;obtain ⟨ex,st,rfl,tm,o,rfl,rfl,t5,hlen,hlo,hval⟩:=z8 hq (zKq (P:=P) (L:=L) hv hw lw hs hn w.length)
  ⟨0,List.replicate n 0,by simp only [go_sem,reduceEqDiff,reduceAdd,za,zb hv.pu,zd _ hv.pu]<;>rfl,by omega,by simp,zic (by decide) n,by rw [zh2];simp [bv],by rw [ze1];exact Nat.two_pow_pos _,fun m _=>ze1 n m⟩
 refine ⟨o,?_,hlen,hlo,hval⟩;simp only [go_sem,reduceAdd,za,t5];exact zjR (zjC _ _ _) (by simp [hlen]) (by decide)
end
end VE
end
section
namespace VE
open Go (IntKind)
abbrev H2 (a b:List Nat):Hp:=[(1,.cells true true true 1 (a.map uc)),(0,.cells true true true 1 (b.map uc))]
structure Lead (x vs:List Nat) (n v1 v2 u0 u1 u2:Nat):Prop where
 n2:2≤n
 nb:n≤99999999999
 lx:x.length=n+1
 lv:vs.length=n
 gx:lo 18446744073709551616 x
 gv:lo 18446744073709551616 vs
 hv1:vs.getD (n-1) 0=v1
 hv2:vs.getD (n-2) 0=v2
 h0:x.getD n 0=u0
 h1:x.getD (n-1) 0=u1
 h2:x.getD (n-2) 0=u2
 pos:0<v1
 lt:bv 18446744073709551616 x<18446744073709551616*bv 18446744073709551616 vs
theorem zDJ (b p a v1 v2:Nat):a+p*v2+p*b*v1=(v1*b+v2)*p+a:=by grind
theorem zDz (b p a v0 v1 v2:Nat):a+p*v2+p*b*v1+p*b*b*v0=((v0*b+v1)*b+v2)*p+a:=by grind
section
variable {x vs:List Nat} {n v1 v2 u0 u1 u2:Nat}
theorem Lead.v1W (h:Lead x vs n v1 v2 u0 u1 u2):v1<18446744073709551616:=h.hv1▸zaZ (by decide) h.gv _
theorem Lead.v2W (h:Lead x vs n v1 v2 u0 u1 u2):v2<18446744073709551616:=h.hv2▸zaZ (by decide) h.gv _
theorem Lead.u0W (h:Lead x vs n v1 v2 u0 u1 u2):u0<18446744073709551616:=h.h0▸zaZ (by decide) h.gx _
theorem Lead.u1W (h:Lead x vs n v1 v2 u0 u1 u2):u1<18446744073709551616:=h.h1▸zaZ (by decide) h.gx _
theorem Lead.u2W (h:Lead x vs n v1 v2 u0 u1 u2):u2<18446744073709551616:=h.h2▸zaZ (by decide) h.gx _
theorem Lead.parts (h:Lead x vs n v1 v2 u0 u1 u2):∃p vr ur,bv 18446744073709551616 vs=(v1*18446744073709551616+v2)*p+vr∧vr<p∧bv 18446744073709551616 x=((u0*18446744073709551616+u1)*18446744073709551616+u2)*p+ur∧ur<p:=by
 obtain ⟨m,hm⟩:∃m,n=m+2:=⟨n-2,by have:=h.n2;omega⟩;subst hm;have e1:=zaW (b:=18446744073709551616) (l:=vs) (m+1);have e2:=zaW (b:=18446744073709551616) (l:=vs) m;have f0:=zaW (b:=18446744073709551616) (l:=x) (m+2);have f1:=zaW (b:=18446744073709551616) (l:=x) (m+1);have f2:=zaW (b:=18446744073709551616) (l:=x) m;have hv1:vs.getD (m+1) 0=v1:=h.hv1;have hv2:vs.getD m 0=v2:=h.hv2;have h0:x.getD (m+2) 0=u0:=h.h0;have h1:x.getD (m+1) 0=u1:=h.h1;have h2:x.getD m 0=u2:=h.h2
 rw [List.take_of_length_le (by have:=h.lv;omega),hv1,e2,hv2] at e1
 rw [List.take_of_length_le (by have:=h.lx;omega),h0,f1,h1,f2,h2] at f0;have g1:=zd4 (zef h.gv m)
 rw [List.length_take,Nat.min_eq_left (by have:=h.lv;omega)] at g1;have g2:=zd4 (zef h.gx m)
 rw [List.length_take,Nat.min_eq_left (by have:=h.lx;omega)] at g2;refine ⟨18446744073709551616^m,_,_,?_,g1,?_,g2⟩
 ·rw [e1,Nat.pow_succ,zDJ]
 ·rw [f0,show 18446744073709551616^(m+2)=18446744073709551616^m*18446744073709551616*18446744073709551616 by rw [Nat.pow_succ,Nat.pow_succ],Nat.pow_succ,zDz]
theorem Lead.down (h:Lead x vs n v1 v2 u0 u1 u2) {t r:Nat} (ht:t*v1+r=u0*18446744073709551616+u1) (hr:r*18446744073709551616+u2<t*v2):bv 18446744073709551616 x/bv 18446744073709551616 vs≤t-1:=by
 obtain ⟨p,vr,ur,h1,h2,h3,h4⟩:=h.parts;exact zkl h1 h3 h4 ht hr
theorem Lead.stop (h:Lead x vs n v1 v2 u0 u1 u2) {t r:Nat} (htb:t<18446744073709551616) (ht:t*v1+r=u0*18446744073709551616+u1) (hr:18446744073709551616≤r∨t*v2≤r*18446744073709551616+u2):t≤bv 18446744073709551616 x/bv 18446744073709551616 vs+1:=by
 obtain ⟨p,vr,ur,h1,h2,h3,h4⟩:=h.parts;exact zmd (by decide) h1 h2 h3 h.pos h.v2W htb ht hr
theorem Lead.first (h:Lead x vs n v1 v2 u0 u1 u2):bv 18446744073709551616 x/bv 18446744073709551616 vs≤(u0*18446744073709551616+u1)/v1:=by
 obtain ⟨p,vr,ur,h1,h2,h3,h4⟩:=h.parts;exact zfv h1 h3 h4 h.u2W h.pos
theorem Lead.top (h:Lead x vs n v1 v2 u0 u1 u2):u0≤v1:=by
 obtain ⟨p,vr,ur,h1,h2,h3,h4⟩:=h.parts;exact zlp h1 h3 h2 h.v2W h.lt
theorem Lead.digit (h:Lead x vs n v1 v2 u0 u1 u2):bv 18446744073709551616 x/bv 18446744073709551616 vs<18446744073709551616:=by
 refine (Nat.div_lt_iff_lt_mul ?_).2 h.lt;rcases Nat.eq_zero_or_pos (bv 18446744073709551616 vs) with h0 | h0
 ·have:=h.lt;rw [h0] at this;simp at this
 ·exact h0
end
section
variable {P:zN} {L:Lib}
theorem zxZ (h143:L.pure 143=some zer) (h171:L.pure 171=some zc5) {w:AV} {x vs pre post qs:List Nat} (hw:IsU w vs) {n v1 v2 u0 u1 u2:Nat} (hl:Lead x vs n v1 v2 u0 u1 u2):
  ∀k s,(∃q r:Nat,zA [0,1,5,6,7,8] s=⟨[(0,.osl 0 pre.length (n+1)),(1,w),(5,zh n),(6,uc q),(7,uc (r%18446744073709551616)),(8,uc (r/18446744073709551616))],H2 qs (pre++x++post),2,2⟩∧q*v1+r=u0*18446744073709551616+u1∧r<2*18446744073709551616∧q<18446744073709551616∧bv 18446744073709551616 x/bv 18446744073709551616 vs≤q∧q=k)→
   ∃ex s',D P L (.loop [0,1,5,6,7,8] zeX) s=some (ex,s')∧∃tm q,s'=⟨tm,H2 qs (pre++x++post),2,2⟩∧ex= .exit 0∧zc tm 0= .osl 0 pre.length (n+1)∧zc tm 1=w∧zc tm 5=zh n∧zc tm 6=uc q∧q<18446744073709551616∧bv 18446744073709551616 x/bv 18446744073709551616 vs≤q∧q≤bv 18446744073709551616 x/bv 18446744073709551616 vs+1:=by
 refine zS (I:=fun k s=>∃q r:Nat,s=⟨[(0,.osl 0 pre.length (n+1)),(1,w),(5,zh n),(6,uc q),(7,uc (r%18446744073709551616)),(8,uc (r/18446744073709551616))],H2 qs (pre++x++post),2,2⟩∧q*v1+r=u0*18446744073709551616+u1∧r<2*18446744073709551616∧q<18446744073709551616∧bv 18446744073709551616 x/bv 18446744073709551616 vs≤q∧q=k)
  (Q:=fun ex s'=>∃tm q,s'=⟨tm,H2 qs (pre++x++post),2,2⟩∧ex= .exit 0∧zc tm 0= .osl 0 pre.length (n+1)∧zc tm 1=w∧zc tm 5=zh n∧zc tm 6=uc q∧q<18446744073709551616∧bv 18446744073709551616 x/bv 18446744073709551616 vs≤q∧q≤bv 18446744073709551616 x/bv 18446744073709551616 vs+1) ?_
 rintro k s ⟨q,r,rfl,hq,hr,hqW,hQ,rfl⟩;have hn2:=hl.n2;have hnb:=hl.nb;by_cases hr0:r<18446744073709551616
 ·have er1:r%18446744073709551616=r:=Nat.mod_eq_of_lt hr0;have er2:r/18446744073709551616=0:=Nat.div_eq_of_lt hr0;rw [er1,er2];have hv1W:=hl.v1W;have hv2W:=hl.v2W;have hu2W:=hl.u2W;have ev2:=hw.ixa (i:=n-2) (by have:=hl.lv;omega);have ev1:=hw.ixa (i:=n-1) (by have:=hl.lv;omega);rw [hl.hv2] at ev2;rw [hl.hv1] at ev1;have eu2:=zhz (l:=pre++x++post) (o:=pre.length+(n-2)) (by rw [zcb];have:=hl.lx;omega)
  rw [ze6 (by have:=hl.lx;omega),hl.h2] at eu2;have f1:=zmo (P:=P) (f:=D P L) h143 hqW hv2W;have f2:=zgE (P:=P) (f:=D P L) h171 (x:=r) (y:=v1) (c:=0) hr0 hv1W (by omega);rw [show (uc 0)=AV.int .u64 0 from rfl] at f2;have hdm:=Nat.div_add_mod (q*v2) 18446744073709551616;have hlo:=Nat.mod_lt (q*v2) (show 0<18446744073709551616 by decide);obtain ⟨H,hH⟩:∃H,H=q*v2/18446744073709551616:=⟨_,rfl⟩;obtain ⟨G,hG⟩:∃G,G=q*v2%18446744073709551616:=⟨_,rfl⟩;rw [←hH,←hG] at f1 hdm;rw [←hG] at hlo;have n2e:(n:Int)-2=((n-2:Nat):Int):=by omega
  have n1e:(n:Int)-1=((n-1:Nat):Int):=by omega
  by_cases c1:H<r
  ·right
   simp only [go_sem,reduceEqDiff,zeX,H2,show ((0:Nat):Int)=0 from rfl,n2e,zy (n:=n-2) (by omega),ev2,f1,show (H:Int)<(r:Int) by omega];exact ⟨_,_,rfl,by simp,_,q,rfl,rfl,by simp only [go_sem,reduceEqDiff],by simp only [go_sem,reduceEqDiff],by simp only [go_sem,reduceEqDiff],by simp only [go_sem,reduceEqDiff],hqW,hQ,hl.stop hqW hq (.inr (by omega))⟩
  ·by_cases c2:H=r∧G≤u2
   ·right
    obtain ⟨c2,c3⟩:=c2
    simp only [go_sem,reduceEqDiff,zeX,H2,show ((0:Nat):Int)=0 from rfl,n2e,zy (n:=n-2) (by omega),ev2,f1,show (H:Int)=(r:Int) by omega];simp only [show ¬(r:Int)<(r:Int) by omega,decide_false]
    simp only [go_sem,reduceEqDiff,Nat.mul_one,n2e,zy (n:=n-2) (by omega),zY 0 pre.length (show n-2<n+1 by omega),eu2,show (G:Int)≤(u2:Int) by omega];exact ⟨_,_,rfl,by simp,_,q,rfl,rfl,by simp only [go_sem,reduceEqDiff],by simp only [go_sem,reduceEqDiff],by simp only [go_sem,reduceEqDiff],by simp only [go_sem,reduceEqDiff],hqW,hQ,hl.stop hqW hq (.inr (by omega))⟩
   ·left
    have hgt:r*18446744073709551616+u2<q*v2:=by omega
    have hq0:0<q:=by
     rcases Nat.eq_zero_or_pos q with h0 | h0
     ·subst h0;omega
     ·exact h0
    have e3:binOp .sub (uc q) (.int .u64 1)=some (uc (q-1)):=zpN (b:=1) (by omega) (by omega);have h1:(q-1)*v1+(r+v1)=u0*18446744073709551616+u1:=by
     obtain ⟨p,rfl⟩:∃p,q=p+1:=⟨q-1,by omega⟩;rw [Nat.add_mul,Nat.one_mul] at hq;rw [Nat.add_sub_cancel];omega
    have hdn:=hl.down hq hgt;rw [Nat.add_zero] at f2;by_cases c3:H=r
    ·have c4:¬G≤u2:=fun h=>c2 ⟨c3,h⟩
     subst c3
     simp only [go_sem,reduceEqDiff,reduceMul,Nat.mul_one,zeX,H2,show ((0:Nat):Int)=0 from rfl,n2e,n1e,zy (n:=n-2) (by omega),zy (n:=n-1) (by omega),ev2,ev1,f1,f2,show ¬(H:Int)<(H:Int) by omega,zY 0 pre.length (show n-2<n+1 by omega),eu2,show ¬(G:Int)≤(u2:Int) by omega,e3];refine ⟨_,q-1,rfl,by omega,q-1,H+v1,?_,h1,by omega,by omega,hdn,rfl⟩;rw [zbP (by simp only [go_sem,reduceEqDiff,reduceLT,zck,zcG,zbt,za8,zba hw.pu,and_true]) (by simp only [go_sem,reduceEqDiff,reduceAdd,reduceLT,zb hw.pu])];simp only [go_sem,reduceEqDiff]
    ·simp only [go_sem,reduceEqDiff,reduceMul,zeX,H2,show ((0:Nat):Int)=0 from rfl,n2e,n1e,zy (n:=n-2) (by omega),zy (n:=n-1) (by omega),ev2,ev1,f1,f2,show ¬(H:Int)<(r:Int) by omega,show ¬(H:Int)=(r:Int) by omega,e3];refine ⟨_,q-1,rfl,by omega,q-1,r+v1,?_,h1,by omega,by omega,hdn,rfl⟩;rw [zbP (by simp only [go_sem,reduceEqDiff,reduceLT,zck,zcG,zbt,za8,zba hw.pu,and_true]) (by simp only [go_sem,reduceEqDiff,reduceAdd,reduceLT,zb hw.pu])];simp only [go_sem,reduceEqDiff]
 ·right
  have er2:r/18446744073709551616=1:=by omega
  rw [er2];simp only [go_sem,reduceEqDiff,zeX,H2,show ((1:Nat):Int)=1 from rfl,Int.reduceEq];exact ⟨_,_,rfl,by simp,_,q,rfl,rfl,by simp only [go_sem,reduceEqDiff],by simp only [go_sem,reduceEqDiff],by simp only [go_sem,reduceEqDiff],by simp only [go_sem,reduceEqDiff],hqW,hQ,hl.stop hqW hq (.inl (by omega))⟩
end
end VE
end
