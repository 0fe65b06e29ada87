import Derived.RangeFuncLeaves
import Derived.Test.YtkhmakhdoedjiaaGreatDoorTai
set_option linter.all false
set_option maxRecDepth 100000
section
namespace VE
open Go
section
variable {Λ:Link} {m m':Mp} {S:Nat→Prop} {w:World} {f:Nat→Option Nat}
def zlu (f:Nat→Option Nat) (m m':Mp):Prop:=∀id j,f id=some j→m' j=m id
mutual
theorem zso {fid:Nat→Nat} (hf:zlu f m m'):∀(v:AV) (u:Value),zm fid m S w v u→zm fid m' S w (ren f v) u
 | .int _ _,_,h | .bool _,_,h | .flt _ _,_,h | .str _,_,h | .nilp,_,h | .nils,_,h | .nilf,_,h | .nilm,_,h | .undef,_,h=>by
  simpa only [ren,zm] using h
 | .ptr id o,u,h=>by
  simp only [ren]
  cases hi:f id with
  | none=>simp only [zm]
  | some j=>
   simp only [zm] at h ⊢;rw [hf id j hi];exact h
 | .vptr cs,u,h=>by
  simp only [ren];exact zbT (fun _ h=>h) (fun _ _=>rfl) _ _ (by simp [zx]) h
 | .vsl ex n cs,u,h=>by
  simp only [ren];exact zbT (fun _ h=>h) (fun _ _=>rfl) _ _ (by simp [zx]) h
 | .fsl _ _ _ _,u,h=>by simp only [zm] at h
 | .osl id o n,u,h=>by
  simp only [ren]
  cases hi:f id with
  | none=>simp only [zm]
  | some j=>
   simp only [zm] at h ⊢;rw [hf id j hi];exact h
 | .fn (.f g) first cap,u,h=>by
  simp only [ren,zm] at h ⊢;obtain ⟨fi,ca,h1,h2,h3⟩:=h;exact ⟨fi,ca,h1,zdk hf first _ h2,zdk hf cap _ h3⟩
 | .fn (.y l) first cap,u,h=>by
  simp only [ren]
  cases hi:f l with
  | none=>simp only [zm]
  | some j=>
   simp only [zm] at h ⊢;rw [hf l j hi];exact h
 | .map id,u,h=>by
  simp only [ren]
  cases hi:f id with
  | none=>simp only [zm]
  | some j=>
   simp only [zm] at h ⊢;rw [hf id j hi];exact h
 | .vmap ks vs,u,h=>by
  simp only [ren];exact zbT (fun _ h=>h) (fun _ _=>rfl) _ _ (by simp [zx]) h
 | .it id,u,h=>by
  simp only [ren]
  cases hi:f id with
  | none=>simp only [zm]
  | some j=>
   simp only [zm] at h ⊢;rw [hf id j hi];exact h
 | .agg cs,u,h=>by
  simp only [ren,zm] at h ⊢;obtain ⟨xs,h1,h2⟩:=h;exact ⟨xs,h1,zdk hf cs _ h2⟩
 | .tup cs,u,h=>by
  simp only [ren,zm] at h ⊢;obtain ⟨xs,h1,h2⟩:=h;exact ⟨xs,h1,zdk hf cs _ h2⟩
theorem zdk {fid:Nat→Nat} (hf:zlu f m m'):∀(vs:List AV) (us:List Value),zi fid m S w vs us→zi fid m' S w (zcN f vs) us
 | [],us,h=>by simpa only [zcN,zi] using h
 | v::r,us,h=>by
  simp only [zcN,zi] at h ⊢;obtain ⟨u,t,h1,h2,h3⟩:=h;exact ⟨u,t,h1,zso hf v u h2,zdk hf r t h3⟩
end
theorem ztK {fid:Nat→Nat} (hf:zlu f m m') {cs:List AV} {b o:Nat} (h:zX fid m S w cs b o):zX fid m' S w (zcN f cs) b o:=by
 obtain ⟨us,h1,_,h3⟩:=zbu cs b o h;exact zew _ us o (zdk hf cs us h1) h3
theorem zjp:∀cs:List AV,(zcN f cs).length=cs.length
 | []=>rfl
 | c::r=>by simp [zcN,zjp r]
theorem zoA:∀(tm:Env) (i:Nat),zc (zfu f tm) i=ren f (zc tm i)
 | [],i=>by simp [zfu,zc,ren]
 | (j,v)::r,i=>by
  simp only [zfu,zc]
  cases Nat.beq j i with
  | true=>rfl
  | false=>exact zoA r i
theorem zlm (tm:Env) (i:Nat):∀live:List Nat,zc (keep tm live) i=zc tm i∨zc (keep tm live) i= .undef
 | []=> .inr rfl
 | j::r=>by
  simp only [keep,zc]
  cases hb:Nat.beq j i with
  | true=>rw [Nat.eq_of_beq_eq_true hb];exact .inl rfl
  | false=>exact zlm tm i r
theorem znN {tm:Env} {tmps:Array Value} (hf:zlu f m m') (h:zaB Λ m S w tm tmps):zaB Λ m' S w (zfu f tm) tmps:=fun i=>by
 rw [zoA];exact zso hf _ _ (h i)
theorem zxN {id j:Nat} {o:Obj} {p:Pl} (hf:zlu f m m') (hm:m id=some p) (hj:m' j=some p) (h:zcB Λ m S w id o):zcB Λ m' S w j (zga f o):=by
 cases o with
 | cells rw pu ex sz cs=>
  obtain ⟨q,arr,t,h1,h2,h3,h4,h5,h6,h7,h8,h9,h10⟩:=h;rw [hm] at h1;injection h1 with h1;subst h1
  cases pu with
  | true=>exact ⟨p,arr,t,hj,h2,h3,h4,h5,h6,zbV (fun _ h=>h) (fun _ _=>rfl) _ _ _ (h8 rfl) rfl h7,h8,h9,h10⟩
  | false=>exact ⟨p,arr,t,hj,h2,h3,by rw [cond_false,zjp];exact h4,h5,by rw [cond_false,zjp];exact h6,ztK hf h7,by simp,h9,h10⟩
 | mp rw ks vs=>
  obtain ⟨q,es,clock,h1,h2,h3,h4,h5,h6⟩:=h;rw [hm] at h1;injection h1 with h1;subst h1
  exact ⟨p,es,clock,hj,h2,zdk hf _ _ h3,zdk hf _ _ h4,h5,h6⟩
 | si s pos=>
  obtain ⟨q,t,h1,h2,h3,h4⟩:=h;rw [hm] at h1;injection h1 with h1;subst h1
  exact ⟨p,t,hj,h2,h3,h4⟩
 | lp tm ps as_ body st pe=>
  obtain ⟨q,l,hi,h1,h2,h3,h4,h5,h6,h7,h8⟩:=h;rw [hm] at h1;injection h1 with h1;subst h1
  exact ⟨p,l,hi,hj,h2,h3,h4,h5,h6,znN hf h7,h8⟩
theorem zlX {i:Nat}:∀{l:List Nat} {k j:Nat},zgv i l k=some j→k≤j∧l[j-k]? =some i
 | [],k,j,h=>by simp [zgv] at h
 | x::r,k,j,h=>by
  simp only [zgv] at h
  cases hb:Nat.beq x i with
  | true=>
   rw [hb] at h;simp only [cond_true,Option.some.injEq] at h;subst h;exact ⟨Nat.le_refl _,by simp [Nat.eq_of_beq_eq_true hb]⟩
  | false=>
   rw [hb] at h;simp only [cond_false] at h;obtain ⟨h1,h2⟩:=zlX h;refine ⟨by omega,?_⟩;rw [show j-k=(j-(k+1))+1 by omega,List.getElem?_cons_succ];exact h2
theorem blt_iff {a b:Nat}:Nat.blt a b=true↔a<b:=by simp [Nat.blt,Nat.lt_iff_add_one_le]
theorem zeR {hp:Hp} {j:Nat} {o':Obj}:∀{l:List Nat} {k:Nat} {acc:Hp},zq (zdq hp f l k acc) j=some o'→
  (∃i id o,l[i]? =some id∧j=k+i∧zq hp id=some o∧o'=zga f o)∨zq acc j=some o'
 | [],k,acc,h=> .inr h
 | x::r,k,acc,h=>by
  simp only [zdq] at h
  cases hx:zq hp x with
  | none=>
   simp only [hx] at h;rcases zeR h with ⟨i,id,o,h1,h2,h3,h4⟩ | h
   ·exact .inl ⟨i+1,id,o,by simpa using h1,by omega,h3,h4⟩
   ·exact .inr h
  | some o=>
   simp only [hx] at h;rcases zeR h with ⟨i,id,o,h1,h2,h3,h4⟩ | h
   ·exact .inl ⟨i+1,id,o,by simpa using h1,by omega,h3,h4⟩
   ·rw [zag] at h;by_cases hc:k=j
    ·simp only [hc,if_true,Option.some.injEq] at h;exact .inl ⟨0,x,o,by simp,by omega,hx,h.symm⟩
    ·simp only [hc,if_false] at h;exact .inr h
theorem zeT {base:Nat} {j:Nat} {o':Obj}:∀{hp:Hp},zq (zdV base f hp) j=some o'→j<base∧∃o,zq hp j=some o∧o'=zga f o
 | [],h=>by simp [zdV,zq] at h
 | (i,q)::r,h=>by
  simp only [zdV] at h
  cases hb:Nat.blt i base with
  | true=>
   rw [hb] at h;simp only [cond_true] at h;rw [zag] at h;by_cases hc:i=j
   ·simp only [hc,if_true,Option.some.injEq] at h;exact ⟨by rw [←hc];exact blt_iff.1 hb,q,by rw [zag];simp [hc],h.symm⟩
   ·simp only [hc,if_false] at h;obtain ⟨h1,o,h2,h3⟩:=zeT h;exact ⟨h1,o,by rw [zag];simp [hc,h2],h3⟩
  | false=>
   rw [hb] at h;simp only [cond_false] at h;obtain ⟨h1,o,h2,h3⟩:=zeT h;have hc:¬i=j:=fun e=>by
    subst e
    have:=blt_iff.2 h1
    rw [this] at hb;cases hb
   exact ⟨h1,o,by rw [zag];simp [hc,h2],h3⟩
def zi0 (m:Mp) (base:Nat) (seen:List Nat):Mp:=fun j=>
 if j<base then m j else match seen[j-base]? with
  | some id=>if zdo base seen id=some j then m id else none
  | none=>none
theorem zhP {base:Nat} {seen:List Nat} {j:Nat} {p:Pl} (h:zi0 m base seen j=some p):∃id,zdo base seen id=some j∧m id=some p∧(j<base→id=j):=by
 unfold zi0 at h
 split at h
 ·rename_i hj;exact ⟨j,by simp [zdo,blt_iff.2 hj],h,fun _=>rfl⟩
 ·rename_i hj
  split at h
  ·rename_i id _
   split at h
   ·rename_i hn;exact ⟨id,hn,h,fun h=>(hj h).elim⟩
   ·cases h
  ·cases h
theorem zyi {base:Nat} {seen:List Nat}:zlu (zdo base seen) m (zi0 m base seen):=by
 intro id j h;have h0:=h;unfold zdo at h
 cases hb:Nat.blt id base with
 | true=>
  rw [hb] at h;simp only [cond_true,Option.some.injEq] at h;subst h;simp [zi0,blt_iff.1 hb]
 | false=>
  rw [hb] at h;simp only [cond_false] at h;obtain ⟨h1,h2⟩:=zlX h
  have:¬j<base:=by omega
  simp only [zi0,this,if_false,h2,h0,if_true]
theorem zgy {s:St} {tmps:Array Value} {live:List Nat} (ht:zaB Λ m S w s.tm tmps) (hh:zR Λ m S w s.hp s.ct) (hb:s.base≤s.ct):
  ∃m',zaB Λ m' S w (zA live s).tm tmps∧zR Λ m' S w (zA live s).hp (zA live s).ct∧(zA live s).base=s.base∧s.base≤(zA live s).ct∧Fwd m S w s.hp m' S w (zA live s).hp s.base:=by
 simp only [zA];generalize hseen:zfn s.hp s.base 100000 (zcp (keep s.tm live)++zaX s.base s.hp) []=seen;have hr:=zyi (m:=m) (base:=s.base) (seen:=seen);have hlt:∀j p,zi0 m s.base seen j=some p→j<s.base+seen.length:=by
  intro j p h;unfold zi0 at h
  split at h
  ·omega
  ·split at h
   ·rename_i id h2
    have:=(List.getElem?_eq_some_iff.1 h2).1
    omega
   ·cases h
 have back:∀j o' p,zq (zdq s.hp (zdo s.base seen) seen s.base (zdV s.base (zdo s.base seen) s.hp)) j=some o'→zi0 m s.base seen j=some p→
   ∃id o,zdo s.base seen id=some j∧zq s.hp id=some o∧m id=some p∧o'=zga (zdo s.base seen) o:=by
  intro j o' p ho hm;obtain ⟨id,h1,h2,h3⟩:=zhP hm;rcases zeR ho with ⟨i,id',o,g1,g2,g3,g4⟩ | ho
  ·have hj:¬j<s.base:=by omega
   have:zi0 m s.base seen j=if zdo s.base seen id'=some j then m id' else none:=by
    simp only [zi0,hj,if_false,show j-s.base=i by omega,g1]
   rw [this] at hm
   split at hm
   ·rename_i hn;exact ⟨id',o,hn,g3,hm,g4⟩
   ·cases hm
  ·obtain ⟨g1,o,g2,g3⟩:=zeT ho
   have:=h3 g1
   subst this;exact ⟨_,o,h1,g2,h2,g3⟩
 refine ⟨zi0 m s.base seen,?_,⟨?_,hlt,?_,hh.slt,?_,?_,hh.good,hh.goodS,fun j o' ho=>(by
  rcases zeR ho with ⟨i,id',o,g1,g2,g3,g4⟩ | ho
  ·have:=(List.getElem?_eq_some_iff.1 g1).1;omega
  ·have:=(zeT ho).1;omega)⟩,by trivial,by omega,⟨rfl,rfl,rfl,Nat.le_refl _,fun _ _ _=>rfl,fun _ h=>h,fun _ _=>rfl,fun _ h=> .inl h,?_,?_,fun _ r h=>⟨r,h⟩⟩⟩
 ·refine znN hr (fun i=>?_);rcases zlm s.tm i live with h | h
  ·rw [h];exact ht i
  ·rw [h];simp only [zm]
 ·intro j o' p ho hm;obtain ⟨id,o,h1,h2,h3,rfl⟩:=back j o' p ho hm;exact zxN hr h3 hm (hh.obj id o p h2 h3)
 ·intro i j oi oj pi pj hi hj hmi hmj e;obtain ⟨idi,o1,a1,a2,a3,_⟩:=back i oi pi hi hmi;obtain ⟨idj,o2,b1,b2,b3,_⟩:=back j oj pj hj hmj
  have:=hh.inj idi idj o1 o2 pi pj a2 b2 a3 b3 e
  subst this;rw [a1] at b1;injection b1
 ·intro j p hm;obtain ⟨id,_,h2,_⟩:=zhP hm;exact hh.blt id p h2
 ·intro j p hm;obtain ⟨id,_,h2,_⟩:=zhP hm;exact hh.low id p h2
 ·rintro b ⟨j,o',p,h1,h2,h3⟩;obtain ⟨id,o,_,g2,g3,_⟩:=back j o' p h1 h2;exact .inl ⟨id,o,p,g2,g3,h3⟩
 ·intro id p hid hm;simp [zi0,hid,hm]
end
end VE
end
section
namespace VE
open Go
section
variable {Λ:Link} {m:Mp} {S:Nat→Prop} {w:World} {hp:Hp} {ct:Nat}
theorem zn4 (hh:zR Λ m S w hp ct) (id:Nat):zR Λ m S w (hdel hp id) ct:=by
 have sub:∀i o,zq (hdel hp id) i=some o→zq hp i=some o:=fun i o h=>by
  rw [zeD] at h;by_cases hc:id=i
  ·simp [hc] at h
  ·simpa only [hc,if_false] using h
 exact ⟨fun i o p h hm=>hh.obj i o p (sub i o h) hm,hh.lt,fun i j oi oj pi pj hi hj=>hh.inj i j oi oj pi pj (sub i oi hi) (sub j oj hj),hh.slt,hh.blt,hh.low,hh.good,hh.goodS,fun i o h=>hh.hlt i o (sub i o h)⟩
theorem zsa {id b:Nat} (h:Own m (hdel hp id) b):Own m hp b:=by
 obtain ⟨i,o,p,h1,h2,h3⟩:=h;rw [zeD] at h1;by_cases hc:id=i
 ·simp [hc] at h1
 ·simp only [hc,if_false] at h1;exact ⟨i,o,p,h1,h2,h3⟩
theorem ziQ (hh:zR Λ m S w hp ct) {id:Nat} {o:Obj} {p:Pl} (hg:zq hp id=some o) (hm:m id=some p):¬Own m (hdel hp id) p.b:=by
 rintro ⟨i,o',q,h1,h2,h3⟩;rw [zeD] at h1;by_cases hc:id=i
 ·simp [hc] at h1
 ·simp only [hc,if_false] at h1;exact hc (hh.inj i id o' o q p h1 hg h2 hm h3).symm
theorem zAD {hp':Hp} (hd:SameDom hp hp') {b:Nat} (h:Own m hp' b):Own m hp b:=by
 obtain ⟨i,o,p,h1,h2,h3⟩:=h
 have:=hd i
 rw [h1] at this
 cases hq:zq hp i with
 | none=>rw [hq] at this;cases this
 | some q=>exact ⟨i,q,p,hq,h2,h3⟩
theorem zj9 {lo:Nat} {v v':AV} {hp':Hp} {n:Nat} (hh:zR Λ m S w hp ct) (hf:zaf n hp v=some (v',hp')) {u:Value} (hv:zm Λ.fid m S w v u):
  ∃S',zR Λ m S' w hp' ct∧(∀b,S b→S' b)∧(∀b,S' b→S b∨Own m hp b)∧zx v'=true∧zm Λ.fid noM S' w v' u∧zcM Λ.fid S' w lo v' u []:=by
 obtain ⟨h1,h2,h3⟩:=zh1 (Λ:=Λ) hf;obtain ⟨S',g1,g2,g3⟩:=zrm hh h1 (fun id o p ho hm=>by
  have:=h2 id
  rw [ho] at this
  cases hq:zq hp id with
  | none=>rw [hq] at this;cases this
  | some q=>exact ⟨q,rfl⟩) (Nat.le_refl _) (fun id o ho=>(by
  have:=h2 id
  rw [ho] at this
  cases hq:zq hp id with
  | none=>rw [hq] at this;cases this
  | some q=>exact hh.hlt id q hq))
 obtain ⟨k1,k2⟩:=h3 hp' m S' w ct HLe.refl g1;have hr:=k1 u (za9 (fun _ _ h=>h) g2 (fun _ _=>rfl) v u hv);have hr':zm Λ.fid noM S' w v' u:=zbT (fun _ h=>h) (fun _ _=>rfl) v' u k2 hr;refine ⟨S',g1,g2,g3,k2,hr',?_⟩
 cases v' with
 | fsl _ _ _ _=>simp [zx] at k2
 | _=>exact ⟨rfl,hr',k2⟩
theorem zuM {S':Nat→Prop} {lo:Nat} {v:AV} {u:Value} {bs:List Nat} (hS:∀b,S b→S' b) (hn:∀b,b∈bs→¬S' b) (h:zcM Λ.fid S w lo v u bs):zcM Λ.fid S' w lo v u bs:=by
 cases v with
 | fsl ex sz n cs=>
  simp only [zcM] at h ⊢;obtain ⟨b,o,c,arr,t,rfl,rfl,g1,g2,g3,g4,g5,g6,g7,g8,g9⟩:=h;exact ⟨b,o,c,arr,t,rfl,rfl,g1,g2,g3,hn b (by simp),g5,g6,g7,zbV hS (fun _ _=>rfl) cs b o g9 rfl g8,g9⟩
 | _=>simp only [zcM] at h ⊢;exact ⟨h.1,zbT hS (fun _ _=>rfl) _ _ h.2.2 h.2.1,h.2.2⟩
theorem zl7 {lo:Nat} {v v':AV} {hp':Hp} {n:Nat} (hh:zR Λ m S w hp ct) (hf:zgF n hp v=some (v',hp')) {u:Value} (hv:zm Λ.fid m S w v u) (hlo:∀b,Own m hp b→lo≤b):
  ∃S' bs,zR Λ m S' w hp' ct∧(∀b,S b→S' b)∧(∀b,S' b→S b∨Own m hp b)∧zcM Λ.fid S' w lo v' u bs∧bs.Nodup∧(∀b,b∈bs→Own m hp b∧¬Own m hp' b)∧(∀b,Own m hp' b→Own m hp b):=by
 have frozen:zaf n hp v=some (v',hp')→∃S' bs,zR Λ m S' w hp' ct∧(∀b,S b→S' b)∧(∀b,S' b→S b∨Own m hp b)∧zcM Λ.fid S' w lo v' u bs∧bs.Nodup∧(∀b,b∈bs→Own m hp b∧¬Own m hp' b)∧(∀b,Own m hp' b→Own m hp b):=by
  intro hz;obtain ⟨S',g1,g2,g3,g4,g5,g6⟩:=zj9 (lo:=lo) hh hz hv
  exact ⟨S',[],g1,g2,g3,g6,by simp,by simp,fun b hb=>zAD (zh1 (Λ:=Λ) hz).2.1 hb⟩
 unfold zgF at hf
 split at hf
 ·rename_i id o k
  split at hf
  ·rename_i ex sz cs hg
   cases hc:Nat.ble (o+k*sz) cs.length with
   | false=>rw [hc] at hf;cases hf
   | true=>
    rw [hc] at hf;simp only [cond_true,Option.some.injEq,Prod.mk.injEq] at hf;obtain ⟨rfl,rfl⟩:=hf;have hle:=Nat.le_of_ble_eq_true hc;simp only [zm] at hv;obtain ⟨p,c,hm,rfl,h1,h2⟩:=hv;obtain ⟨p',arr,t,g1,g2,g3,g4,g5,g6,g7,g8,g9,g10⟩:=hh.obj id _ _ hg hm;rw [hm] at g1;injection g1 with g1
    subst g1;rw [g3] at h2;refine ⟨S,[p.b],zn4 hh id,fun _ h=>h,fun _ h=> .inl h,?_,by simp,?_,fun b hb=>zsa hb⟩
    ·refine ⟨p.b,p.o+o,c,arr,t,rfl,rfl,h1,?_,hlo _ (zks hg hm),g9 rfl,g2,?_,by omega,?_,zbW _ (zbU _ _ (g8 rfl))⟩
     ·intro hx;simp only [Bool.and_eq_true] at hx;have e1:=Nat.eq_of_beq_eq_true hx.2;have e2:=blt_iff.1 hx.1.2;have e3:=g6 hx.1.1
      have:c*sz=k*sz:=by omega
      exact Nat.eq_of_mul_eq_mul_right e2 this
     ·simp only [slice,List.length_take,List.length_drop];omega
     ·exact zbV (fun _ h=>h) (fun _ _=>rfl) _ _ _ (zbW _ (zbU _ _ (g8 rfl))) rfl (zcg _ _ _ _ (zbh _ _ _ _ g7))
    ·intro b hb;simp only [List.mem_singleton] at hb;subst hb;exact ⟨zks hg hm,ziQ hh hg hm⟩
  ·exact frozen hf
 ·exact frozen hf
theorem zjJ {lo n:Nat}:∀{vs vs':List AV} {us:List Value} {hp hp':Hp} {S:Nat→Prop},zR Λ m S w hp ct→zfc n hp vs=some (vs',hp')→zi Λ.fid m S w vs us→(∀b,Own m hp b→lo≤b)→
  ∃S' bs,(∀b,S b→S' b)∧(∀b,S' b→S b∨Own m hp b)∧zel Λ.fid S' w lo vs' us bs∧bs.Nodup∧(∀b,b∈bs→Own m hp b)∧(∀b,S' b→b<w.heap.size)
 | [],vs',us,hp,hp',S,hh,hf,hv,hlo=>by
  simp only [zfc,Option.some.injEq,Prod.mk.injEq] at hf;obtain ⟨rfl,rfl⟩:=hf;simp only [zi] at hv;exact ⟨S,[],fun _ h=>h,fun _ h=> .inl h,by simp only [zel];exact ⟨hv,by trivial⟩,by simp,by simp,hh.slt⟩
 | v::r,vs',us,hp,hp',S,hh,hf,hv,hlo=>by
  simp only [zfc] at hf
  cases h1:zgF n hp v with
  | none=>simp [h1] at hf
  | some q=>
   obtain ⟨v1,hp1⟩:=q;simp only [h1] at hf
   cases h2:zfc n hp1 r with
   | none=>simp [h2] at hf
   | some q2=>
    obtain ⟨r1,hp2⟩:=q2;simp only [h2,Option.some.injEq,Prod.mk.injEq] at hf;obtain ⟨rfl,rfl⟩:=hf;simp only [zi] at hv;obtain ⟨u,t,rfl,hv1,hv2⟩:=hv;obtain ⟨S1,b1,k1,k2,k3,k4,k5,k6,k7⟩:=zl7 (lo:=lo) hh h1 hv1 hlo;obtain ⟨S2,b2,g1,g2,g3,g4,g5,g6⟩:=zjJ (us:=t) k1 h2 (zah (fun _ _ h=>h) k2 (fun _ _=>rfl) _ _ hv2) (fun b hb=>hlo b (k7 b hb));have hdis:∀b,b∈b1→¬S2 b:=by
     intro b hb hs;rcases g2 b hs with h | h
     ·cases v1 with
      | fsl ex sz n cs=>
       simp only [zcM] at k4;obtain ⟨b',o,c,arr,tt,rfl,_,_,_,_,h4,_⟩:=k4;simp only [List.mem_singleton] at hb;subst hb;exact h4 h
      | _=>simp only [zcM] at k4;rw [k4.1] at hb;cases hb
     ·exact (k6 b hb).2 h
    refine ⟨S2,b1++b2,fun b hb=>g1 b (k2 b hb),fun b hb=>?_,?_,?_,?_,g6⟩
    ·rcases g2 b hb with h | h
     ·exact k3 b h
     ·exact .inr (k7 b h)
    ·simp only [zel];exact ⟨u,t,b1,b2,rfl,rfl,zuM g1 hdis k4,g3⟩
    ·rw [List.nodup_append];exact ⟨k5,g4,fun a ha b hb e=>(k6 a ha).2 (by rw [e];exact g5 b hb)⟩
    ·intro b hb;rcases List.mem_append.1 hb with hb | hb
     ·exact (k6 b hb).1
     ·exact k7 b (g5 b hb)
theorem zin {lo:Nat}:∀{cs:List AV} {us:List Value},zn cs=true→zi Λ.fid noM S w cs us→zel Λ.fid S w lo cs us []
 | [],us,_,h=>by simp only [zi] at h;simp only [zel];exact ⟨h,by trivial⟩
 | c::r,us,hp,h=>by
  simp only [zi] at h;obtain ⟨u,t,rfl,h1,h2⟩:=h;simp only [zn,Bool.and_eq_true] at hp;simp only [zel];refine ⟨u,t,[],[],rfl,rfl,?_,zin hp.2 h2⟩
  cases c with
  | fsl _ _ _ _=>simp [zx] at hp
  | _=>exact ⟨rfl,h1,hp.1⟩
theorem zt2 {lo:Nat} {v r:AV} {u:Value} (hh:zR Λ m S w hp ct) (hr:zaL hp v=some r) (hv:zm Λ.fid m S w v u) (hlo:∀b,Own m hp b→lo≤b):
  ∃S',(∀b,S b→S' b)∧(∀b,S' b→S b∨Own m hp b)∧(∀b,S' b→b<w.heap.size)∧zf7 Λ.fid S' w lo r u:=by
 unfold zaL at hr
 split at hr
 ·rename_i vs
  split at hr
  ·cases h1:zfc zcJ hp vs with
   | none=>simp [h1] at hr
   | some q=>
    obtain ⟨vs',hp'⟩:=q;simp only [h1,Option.some.injEq] at hr;subst hr;simp only [zm] at hv;obtain ⟨us,rfl,hv⟩:=hv;obtain ⟨S',bs,g1,g2,g3,g4,g5,g6⟩:=zjJ (lo:=lo) hh h1 hv hlo;exact ⟨S',g1,g2,g6,us,bs,rfl,g3,g4⟩
  ·cases h1:zaf zcJ hp (.tup vs) with
   | none=>simp [h1] at hr
   | some q=>
    obtain ⟨v',hp'⟩:=q;simp only [h1,Option.some.injEq] at hr;subst hr;obtain ⟨S',g1,g2,g3,g4,g5,g6⟩:=zj9 (lo:=lo) hh h1 hv;refine ⟨S',g2,g3,g1.slt,?_⟩
    cases v' with
    | tup cs=>
     simp only [zm] at g5;obtain ⟨xs,rfl,g5⟩:=g5;exact ⟨xs,[],rfl,zin (by simpa [zx] using g4) g5,by simp⟩
    | _=>exact ⟨[],g6⟩
 ·rename_i hnt
  cases h1:zgF zcJ hp v with
  | none=>simp [h1] at hr
  | some q=>
   obtain ⟨v',hp'⟩:=q;simp only [h1,Option.some.injEq] at hr;subst hr;obtain ⟨S',bs,g1,g2,g3,g4,_⟩:=zl7 (lo:=lo) hh h1 hv hlo;refine ⟨S',g2,g3,g1.slt,?_⟩
   cases v' with
   | tup cs=>
    simp only [zcM] at g4;obtain ⟨rfl,h2,h3⟩:=g4;simp only [zm] at h2;obtain ⟨xs,rfl,h2⟩:=h2;exact ⟨xs,[],rfl,zin (by simpa [zx] using h3) h2,by simp⟩
   | _=>exact ⟨bs,g4⟩
end
end VE
end
section
namespace VE
open Go
def WF (ro:Option Nat):Fence:={Fence.wide with round:=ro}
section
variable {Λ:Link}
def zvT (Λ:Link) (hp:Hp) (ct:Nat) (l:Nat) (xs:List AV) (v:AV) (hp':Hp) (ct':Nat):Prop:=
 ∀(m:Mp) (S:Nat→Prop) (w:World) (args:Array Value) (p:Pl),zR Λ m S w hp ct→m l=some p→zi Λ.fid m S w xs args.toList→
  ∃f tmps assign body,(Instr.yield p.b args).run Λ.P w= .ok (.round p.b f tmps assign body) w∧RoundIn Fence.wide 0 Λ.P p.b f tmps assign body w (zcx Λ m S w hp ct v hp' ct')
structure zb0 (Λ:Link) (run:Run):Prop where
 pure:∀n vals r,zk Λ.prog Λ.lib run n vals=some r→PureC Λ n vals r
 heap:∀hp ct n vals v hp' ct',zbj Λ.prog Λ.lib run hp ct n vals=some (v,hp',ct')→ziM Λ n hp ct vals v hp' ct'
 round:∀hp ct l xs v hp' ct',zb3 run hp ct l xs=some (v,hp',ct')→zvT Λ hp ct l xs v hp' ct'
end
section
variable {P:Program} {o:Oper} {a:Act} {w:World} {ro:Option Nat} {next:Act→World→Prop} {Q:Exit→Act→World→Prop}
theorem ze4 {c:Call} {f:Operand} (ho:o.op= .call c) (hc:c.callee= .value f) {g:FuncId} {fi ca:Array Value} (hf:a.eval f= .func (.func g) fi ca) {R:Ending→World→Prop}
  (h:Invoked P g (fi++c.args.map a.eval++ca) w R) (hn:∀e w',R e w'→∃u,e= .returned u∧next (a.put o.dst u) w'):o.wpIn (WF ro) 0 P a w next Q:=by
 have hrun:(o.semAt ro a.eval).run P w=(callFunc g (fi++c.args.map a.eval++ca)).run P w:=by
  rw [Oper.semAt_eq _ _ _ (fun c' h'=>by rw [ho] at h';cases h')];simp only [execOp,ho,resolve,hc,Deferred.ofValue,hf,Sem.run_bind,Sem.run_pure,Result.andThen_ok,invoke]
 refine ⟨fun _ _=>trivial,?_⟩;show o.uponIn (WF ro) 0 P a next Q ((o.semAt ro a.eval).run P w)
 rw [hrun];rcases h with ⟨h1,h2⟩ | ⟨u,w',h1,h2⟩
 ·rw [h1,Oper.uponIn_enter];refine ⟨fun h=>by simp [WF,Fence.wide] at h,?_⟩;have h3:CallsIn (WF ro) 0 P g (fi++c.args.map a.eval++ca) w R:=h2;refine CallsIn.mono h3 (fun e w' he=>?_);obtain ⟨u,rfl,hq⟩:=hn e w' he;exact hq
 ·rw [h1];obtain ⟨u',e,hq⟩:=hn _ _ h2;injection e with e
  subst e;exact hq
theorem zx4 {c:Call} {f:Operand} (ho:o.op= .call c) (hc:c.callee= .value f) {l:Nat} (hf:a.eval f= .func (.yield l) #[] #[]) {R:Ending→World→Prop} {g:FuncId} {tmps:Array Value} {assign body:Code}
  (hy:(Instr.yield l (c.args.map a.eval)).run P w= .ok (.round l g tmps assign body) w) (h:RoundIn Fence.wide 0 P l g tmps assign body w R) (hn:∀e w',R e w'→∃u,e= .returned u∧next (a.put o.dst u) w'):o.wpIn (WF ro) 0 P a w next Q:=by
 have hrun:(o.semAt ro a.eval).run P w= .ok (.round l g tmps assign body) w:=by
  rw [Oper.semAt_eq _ _ _ (fun c' h'=>by rw [ho] at h';cases h')];simp only [execOp,ho,resolve,hc,Deferred.ofValue,hf,Sem.run_bind,Sem.run_pure,Result.andThen_ok,invoke,Array.empty_append];exact hy
 refine ⟨fun _ _=>trivial,?_⟩;show o.uponIn (WF ro) 0 P a next Q ((o.semAt ro a.eval).run P w)
 rw [hrun,Oper.uponIn_round];refine ⟨fun h=>by simp [WF,Fence.wide] at h,?_⟩;have h3:RoundIn (WF ro) 0 P l g tmps assign body w R:=h;refine RoundIn.mono h3 (fun e w' he=>?_);obtain ⟨u,rfl,hq⟩:=hn e w' he;exact hq
theorem zmn {n:Next} {u:Value} {w':World} (hd:∀c,o.op≠.defer c) (h:(execOp a.eval o).run P w= .ok n w') (hn:n= .value u∨(n= .skip∧u=undef)) (hq:next (a.put o.dst u) w'):o.wpIn (WF ro) 0 P a w next Q:=by
 refine ⟨fun _ _=>trivial,?_⟩;show o.uponIn (WF ro) 0 P a next Q ((o.semAt ro a.eval).run P w)
 rw [Oper.semAt_eq _ _ _ hd,h];rcases hn with rfl | ⟨rfl,rfl⟩
 ·exact hq
 ·exact hq
end
def zmV (P:Program) (H:zbH) (q:Op) (o:Oper):Prop:=
 (∃k,q=zt P H k o)∨(∃c f rs,o.op= .call c∧c.callee= .value f∧q= .calld rs (opX H f) (zdB H c.args.toList))∨
  ∃t x y sz rs,o.op= .store t x y∧szT P t=some sz∧q= .std rs sz (opX H x) (opX H y)
def zcy:Op→Op
 | .calld _ f xs=> .calld [] f xs
 | .std _ s x v=> .st s x v
 | o=>o
section
variable {Λ:Link} {H:zbH} {m:Mp} {S:Nat→Prop} {w:World} {tm:Env} {a:Act} {hp:Hp} {ct:Nat} {self:Run} {ro:Option Nat} {next:Act→World→Prop} {Q:Exit→Act→World→Prop}
theorem zi8 {o:Oper} {k:Nat} {md:Md} {x:X} {xs:List X} (h:zt Λ.P H k o= .call md x xs) (hb:x≠.c .undef):∃c f,o.op= .call c∧c.callee= .value f∧x=opX H f∧xs=zdB H c.args.toList:=by
 have nb:bad= .call md x xs→False:=fun h=>by simp only [bad,Op.call.injEq] at h;exact hb h.2.1.symm
 cases ho:o.op with
 | call c=>
  obtain ⟨callee,args,ts⟩:=c;simp only [zt,ho] at h
  split at h
  ·rename_i f;cases hm:H.mode k<;>simp only [hm,Op.call.injEq,reduceCtorEq] at h
   all_goals exact ⟨_,f,rfl,rfl,h.2.1.symm,h.2.2.symm⟩
  ·repeat' split at h
   all_goals first
    | exact (nb h).elim
    | (cases h;done)
    | (revert h;generalize Nat.beq _ _=bb;intro h;cases bb<;>first | exact (nb h).elim | (cases h;done))
  ·exact (nb h).elim
 | binOp op t x' y ty=>
  cases op<;>simp only [zt,ho,zeu,zdI] at h
  case eql=>
        repeat' split at h
        all_goals first
         | exact (nb h).elim
         | (cases h;done)
         | (cases hb':(Λ.P.stoodInHeld t||Λ.P.eqGuardType Λ.P.depth t)<;>rw [hb'] at h<;>first | exact (nb h).elim | (cases h;done))
  case neq=>
        repeat' split at h
        all_goals first
         | exact (nb h).elim
         | (cases h;done)
         | (cases hb':(Λ.P.stoodInHeld t||Λ.P.eqGuardType Λ.P.depth t)<;>rw [hb'] at h<;>first | exact (nb h).elim | (cases h;done))
  all_goals cases h
 | buildSlice t n parts=>
  simp only [zt,ho] at h
  repeat' split at h
  all_goals first
   | exact (nb h).elim
   | (cases h;done)
   | (revert h;generalize Nat.ble _ _=bb;intro h;cases bb<;>first | exact (nb h).elim | (simp only [cond_true] at h;cases h;done))
 | makeMap t r=>
  cases r<;>simp only [zt,ho] at h
  ·repeat' split at h
   all_goals first
    | exact (nb h).elim
    | (cases h;done)
  ·exact (nb h).elim
 | next x' b=>
  cases b<;>simp only [zt,ho] at h
  ·exact (nb h).elim
  ·cases h
 | _=>
  simp only [zt,ho] at h
  (repeat' split at h)
  all_goals first
   | contradiction
   | exact (nb h).elim
   | (cases h;done)
theorem zpW {o:Oper} {k:Nat} {r:AV×Hp×Nat} (hv:zZ Λ.prog Λ.lib self tm hp ct (zt Λ.P H k o)=some r):∀c,o.op≠.defer c:=by
 intro c ho;simp [zt,ho,bad,zZ,zaw,zp] at hv
end
end VE
end
