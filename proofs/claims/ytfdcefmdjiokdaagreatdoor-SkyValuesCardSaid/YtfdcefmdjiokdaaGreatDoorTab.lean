import Derived.RangeFuncLeaves
import Derived.OrdersIn
import Derived.LoopNIn
import Derived.RangeFuncIn
import Derived.Lib.Index
import Derived.Lib.ItoaNum
import Derived.Lib.Atoi
import Derived.Lib.BitFns
import Derived.Lib.Repeat
import Derived.Lib.SlTrimSet
import Derived.Shelf.Strings.Cut
import Derived.Shelf.Strings.Prefix
import Derived.Shelf.Small.Bits
import Derived.RowKit
import Derived.Test.YtfdcefmdjiokdaaGreatDoorTaa
set_option linter.all false
set_option maxRecDepth 100000
open Array renaming getD_eq_getD_getElem?→wO,getElem?_append_left→tW,getElem?_eq_some_iff→xv,replicate→vX
open Bool renaming and_eq_true→yg,false_eq_true→yD,not_eq_true'→uL,or_eq_false_iff→yaC,or_eq_true→tS
open Classical renaming em→uy
open Go renaming Call→tH,Calls→wg,Code→wS,Deferred→tT,Ending→yaD,Exit→vW,Func→yaq,FuncId→tq,LeavesInM→ycH,Loop→uv,Next→yar,Obj→tR,Oper→yZ,Operand→xy,Program→y7,ResultVar→ycF,RoundIn→ybo,TypeId→yF,Value→yh,World→yi
open Int renaming natCast_nonneg→tY,ofNat→yby
open List renaming countP_cons→ybr,getD_eq_getElem?_getD→xz,getElem?_cons_zero→vP,getElem?_eq_some_iff→wq,length_append→yR,length_cons→yv,length_drop→xN,length_map→xo,length_nil→yI,length_take→yT,mapM_cons→um,map_append→xu,map_cons→xj,map_reverse→yai,mem_append→wx,mem_cons→wA,mem_cons_of_mem→vl,mem_cons_self→ub,size_toArray→uM
open Nat renaming add_mul→we,beq→yt,ble→yG,ble_eq_true_of_le→yy,blt→yK,eq_of_beq_eq_true→yk,eq_of_mul_eq_mul_right→yac,eq_or_lt_of_le→vh,eq_zero_or_pos→xn,le_of_ble_eq_true→yr,le_of_lt_succ→yah,le_refl→yz,le_trans→xg,lt_of_lt_of_le→yA,lt_or_ge→vD,lt_succ_self→tK,mul_le_mul_right→yS,strongRecOn→vB,testBit→uU,zero_add→yf,zero_le→tu
open Ne renaming symm→ycG
open Option renaming bind_some→xY,getD_some→ui
open Option.some renaming injEq→yd
open Prod.mk renaming injEq→yo
open UInt8 renaming ofNat→ybZ,toNat→xi,toNat_ofNat'→yaL
namespace VE
open Go (IntKind)
section
open Go
section
variable {O:br} {m m':Mp} {S:Nat->Prop} {w:yi} {f:Nat->Option Nat}
def EE (f:Nat->Option Nat) (m m':Mp):Prop:=∀id j,f id=some j->m' j=m id
mutual
def Z5 {ae:Nat->Nat} (hf:EE f m m'):∀(v:AV) (u:yh),ah ae m S w v u->ah ae m' S w (bU f v) u
 | .int _ _,_,h | .bool _,_,h | .aB _ _,_,h | .str _,_,h | .kQ,_,h | .af,_,h | .iF,_,h | .jQ,_,h | .undef,_,h=>by
  simpa only [bU,ah] using h
 | .ptr id o,u,h=>by
  simp only [bU]
  cases hi:f id with
  | none=>simp only [ah]
  | some j=>
   simp only [ah] at h ⊢;rw [hf id j hi];exact h
 | .aJ cs,u,h=>by
  simp only [bU];exact pO (fun _ h=>h) (fun _ _=>rfl) _ _ (by simp [aV]) h
 | .aC ex n cs,u,h=>by
  simp only [bU];exact pO (fun _ h=>h) (fun _ _=>rfl) _ _ (by simp [aV]) h
 | .cf _ _ _ _,u,h=>by simp only [ah] at h
 | .ay id o n,u,h=>by
  simp only [bU]
  cases hi:f id with
  | none=>simp only [ah]
  | some j=>
   simp only [ah] at h ⊢;rw [hf id j hi];exact h
 | .fn (.f g) first cap,u,h=>by
  simp only [bU,ah] at h ⊢;obtain ⟨fi,ca,h1,h2,h3⟩:=h;exact ⟨fi,ca,h1,Am hf first _ h2,Am hf cap _ h3⟩
 | .fn (.y l) first cap,u,h=>by
  simp only [bU]
  cases hi:f l with
  | none=>simp only [ah]
  | some j=>
   simp only [ah] at h ⊢;rw [hf l j hi];exact h
 | .map id,u,h=>by
  simp only [bU]
  cases hi:f id with
  | none=>simp only [ah]
  | some j=>
   simp only [ah] at h ⊢;rw [hf id j hi];exact h
 | .jz ks vs,u,h=>by
  simp only [bU];exact pO (fun _ h=>h) (fun _ _=>rfl) _ _ (by simp [aV]) h
 | .it id,u,h=>by
  simp only [bU]
  cases hi:f id with
  | none=>simp only [ah]
  | some j=>
   simp only [ah] at h ⊢;rw [hf id j hi];exact h
 | .agg cs,u,h=>by
  simp only [bU,ah] at h ⊢;obtain ⟨xs,h1,h2⟩:=h;exact ⟨xs,h1,Am hf cs _ h2⟩
 | .ap cs,u,h=>by
  simp only [bU,ah] at h ⊢;obtain ⟨xs,h1,h2⟩:=h;exact ⟨xs,h1,Am hf cs _ h2⟩
def Am {ae:Nat->Nat} (hf:EE f m m'):∀(vs:List AV) (us:List yh),av ae m S w vs us->av ae m' S w (fJ f vs) us
 | [],us,h=>by simpa only [fJ,av] using h
 | v::r,us,h=>by
  simp only [fJ,av] at h ⊢;obtain ⟨u,t,h1,h2,h3⟩:=h;exact ⟨u,t,h1,Z5 hf v u h2,Am hf r t h3⟩
end
def aiM {ae:Nat->Nat} (hf:EE f m m') {cs:List AV} {b o:Nat} (h:bL ae m S w cs b o):bL ae m' S w (fJ f cs) b o:=by
 obtain ⟨us,h1,_,h3⟩:=qI cs b o h;exact D0 _ us o (Am hf cs us h1) h3
def Qv:∀cs:List AV,(fJ f cs).length=cs.length
 | []=>rfl
 | c::r=>by simp [fJ,Qv r]
def YW:∀(tm:Env) (i:Nat),aj (kR f tm) i=bU f (aj tm i)
 | [],i=>by simp [kR,aj,bU]
 | (j,v)::r,i=>by
  simp only [kR,aj]
  cases yt j i with
  | true=>rfl
  | false=>exact YW r i
def X4 (tm:Env) (i:Nat):∀live:List Nat,aj (cK tm live) i=aj tm i\/aj (cK tm live) i= .undef
 | []=> .inr rfl
 | j::r=>by
  simp only [cK,aj]
  cases hb:yt j i with
  | true=>rw [yk hb];exact .inl rfl
  | false=>exact X4 tm i r
def YX {tm:Env} {tmps:Array yh} (hf:EE f m m') (h:bT O m S w tm tmps):bT O m' S w (kR f tm) tmps:=fun i=>by
 rw [YW];exact Z5 hf _ _ (h i)
def akM {id j:Nat} {o:Obj} {p:Pl} (hf:EE f m m') (hm:m id=some p) (hj:m' j=some p) (h:eX O m S w id o):eX O m' S w j (lE f o):=by
 cases o with
 | cells rw pu ex sz cs=>
  obtain ⟨q,arr,t,h1,h2,h3,h4,h5,h6,h7,h8,h9,iQ⟩:=h;rw [hm] at h1;injection h1 with h1;subst h1
  cases pu with
  | true=>exact ⟨p,arr,t,hj,h2,h3,h4,h5,h6,BX (fun _ h=>h) (fun _ _=>rfl) _ _ _ (h8 rfl) rfl h7,h8,h9,iQ⟩
  | false=>exact ⟨p,arr,t,hj,h2,h3,by rw [yH,Qv];exact h4,h5,by rw [yH,Qv];exact h6,aiM hf h7,by simp,h9,iQ⟩
 | mp rw ks vs=>
  obtain ⟨q,es,clock,h1,h2,h3,h4,h5,h6⟩:=h;rw [hm] at h1;injection h1 with h1;subst h1
  exact ⟨p,es,clock,hj,h2,Am hf _ _ h3,Am hf _ _ h4,h5,h6⟩
 | si s pos=>
  obtain ⟨q,t,h1,h2,h3,h4⟩:=h;rw [hm] at h1;injection h1 with h1;subst h1
  exact ⟨p,t,hj,h2,h3,h4⟩
 | lp tm ps as_ body st pe=>
  obtain ⟨q,l,hi,h1,h2,h3,h4,h5,h6,h7,h8⟩:=h;rw [hm] at h1;injection h1 with h1;subst h1
  exact ⟨p,l,hi,hj,h2,h3,h4,h5,h6,YX hf h7,h8⟩
def X5 {i:Nat}:∀{l:List Nat} {k j:Nat},mj i l k=some j->k<=j/\l[j-k]? =some i
 | [],k,j,h=>by simp [mj] at h
 | x::r,k,j,h=>by
  simp only [mj] at h
  cases hb:yt x i with
  | true=>
   simp_all
  | false=>
   rw [hb] at h;obtain ⟨h1,h2⟩:=X5 h
   grind
def sR {a b:Nat}:yK a b=true↔a<b:=by simp_all
def K7 {hp:Hp} {j:Nat} {o':Obj}:∀{l:List Nat} {k:Nat} {acc:Hp},an (kL hp f l k acc) j=some o'->
  (∃i id o,l[i]? =some id/\j=k+i/\an hp id=some o/\o'=lE f o)\/an acc j=some o'
 | [],k,acc,h=> .inr h
 | x::r,k,acc,h=>by
  simp only [kL] at h
  cases hx:an hp x with
  | none=>
   simp only [hx] at h;rcases K7 h with ⟨i,id,o,h1,h2,h3,h4⟩ | h
   ·exact .inl ⟨i+1,id,o,by simpa using h1,by omega,h3,h4⟩
   ·grind
  | some o=>
   simp only [hx] at h;rcases K7 h with ⟨i,id,o,h1,h2,h3,h4⟩ | h
   ·exact .inl ⟨i+1,id,o,by simpa using h1,by omega,h3,h4⟩
   ·rw [fE] at h;by_cases hc:k=j
    ·simp only [hc,xB,yd] at h;exact .inl ⟨0,x,o,by simp,by omega,hx,h.symm⟩
    ·grind
def K8 {base:Nat} {j:Nat} {o':Obj}:∀{hp:Hp},an (kh base f hp) j=some o'->j<base/\∃o,an hp j=some o/\o'=lE f o
 | [],h=>by simp [kh,an] at h
 | (i,q)::r,h=>by
  simp only [kh] at h
  cases hb:yK i base with
  | true=>
   rw [hb] at h;simp only [yx] at h;rw [fE] at h;by_cases hc:i=j
   ·simp only [hc,xB,yd] at h;exact ⟨by rw [<-hc];exact sR.1 hb,q,by rw [fE];simp [hc],h.symm⟩
   ·simp only [hc,xk] at h;obtain ⟨h1,o,h2,h3⟩:=K8 h;exact ⟨h1,o,by rw [fE];simp [hc,h2],h3⟩
  | false=>
   rw [hb] at h;obtain ⟨h1,o,h2,h3⟩:=K8 h;have hc:¬i=j:=fun e=>by
    have:=sR.2 h1
    grind
   exact ⟨h1,o,by rw [fE];simp [hc,h2],h3⟩
def oP (m:Mp) (base:Nat) (seen:List Nat):Mp:=fun j=>
 if j<base then m j else match seen[j-base]? with
  | some id=>if jJ base seen id=some j then m id else none
  | none=>none
def Qb {base:Nat} {seen:List Nat} {j:Nat} {p:Pl} (h:oP m base seen j=some p):∃id,jJ base seen id=some j/\m id=some p/\(j<base->id=j):=by
 unfold oP at h
 split at h
 ·rename_i hj;exact ⟨j,by simp [jJ,sR.2 hj],h,fun _=>rfl⟩
 ·grind
def akN {base:Nat} {seen:List Nat}:EE (jJ base seen) m (oP m base seen):=by
 intro id j h;have h0:=h;unfold jJ at h
 cases hb:yK id base with
 | true=>
  rw [hb] at h;simp only [yx,yd] at h;subst h;simp [oP,sR.1 hb]
 | false=>
  rw [hb] at h;obtain ⟨h1,h2⟩:=X5 h
  have:¬j<base:=by omega
  simp only [oP,this,xk,h2,h0,xB]
def PT {s:St} {tmps:Array yh} {live:List Nat} (ht:bT O m S w s.tm tmps) (hh:aR O m S w s.hp s.ct) (hb:s.base<=s.ct):
  ∃m',bT O m' S w (aM live s).tm tmps/\aR O m' S w (aM live s).hp (aM live s).ct/\(aM live s).base=s.base/\s.base<=(aM live s).ct/\bZ m S w s.hp m' S w (aM live s).hp s.base:=by
 simp only [aM];generalize MJ:reach s.hp s.base 100000 (fA (cK s.tm live)++ej s.base s.hp) []=seen;have hr:=akN (m:=m) (base:=s.base) (seen:=seen);have aP:∀j p,oP m s.base seen j=some p->j<s.base+seen.length:=by
  intro j p h;unfold oP at h
  grind
 have back:∀j o' p,an (kL s.hp (jJ s.base seen) seen s.base (kh s.base (jJ s.base seen) s.hp)) j=some o'->oP m s.base seen j=some p->
   ∃id o,jJ s.base seen id=some j/\an s.hp id=some o/\m id=some p/\o'=lE (jJ s.base seen) o:=by
  intro j o' p ho hm;obtain ⟨id,h1,h2,h3⟩:=Qb hm;rcases K7 ho with ⟨i,UI,o,g1,g2,g3,g4⟩ | ho
  ·have hj:¬j<s.base:=by omega
   have:oP m s.base seen j=if jJ s.base seen UI=some j then m UI else none:=by
    simp only [oP,hj,xk,show j-s.base=i by omega,g1]
   grind
  ·obtain ⟨g1,o,g2,g3⟩:=K8 ho
   grind
 refine ⟨oP m s.base seen,?_,⟨?_,aP,?_,hh.slt,?_,?_,hh.lG,hh.fP,fun j o' ho=>(by
  rcases K7 ho with ⟨i,UI,o,g1,g2,g3,g4⟩ | ho
  ·grind
  ·have:=(K8 ho).1;omega)⟩,by trivial,by omega,⟨rfl,rfl,rfl,yz _,fun _ _ _=>rfl,fun _ h=>h,fun _ _=>rfl,fun _ h=> .inl h,?_,?_,fun _ r h=>⟨r,h⟩⟩⟩
 ·refine YX hr (fun i=>?_);rcases X4 s.tm i live with h | h
  ·rw [h];exact ht i
  ·rw [h];simp only [ah]
 ·intro j o' p ho hm;obtain ⟨id,o,h1,h2,h3,rfl⟩:=back j o' p ho hm;exact akM hr h3 hm (hh.obj id o p h2 h3)
 ·intro i j oi oj pi pj hi hj bD gA e;obtain ⟨idi,o1,a1,a2,a3,_⟩:=back i oi pi hi bD;obtain ⟨idj,o2,b1,b2,b3,_⟩:=back j oj pj hj gA
  have:=hh.inj idi idj o1 o2 pi pj a2 b2 a3 b3 e
  grind
 ·intro j p hm;obtain ⟨id,_,h2,_⟩:=Qb hm;exact hh.blt id p h2
 ·intro j p hm;obtain ⟨id,_,h2,_⟩:=Qb hm;exact hh.low id p h2
 ·rintro b ⟨j,o',p,h1,h2,h3⟩;obtain ⟨id,o,_,g2,g3,_⟩:=back j o' p h1 h2;exact .inl ⟨id,o,p,g2,g3,h3⟩
 ·intro id p hid hm;simp [oP,hid,hm]
end
end
section
open Go
section
variable {O:br} {m:Mp} {S:Nat->Prop} {w:yi} {hp:Hp} {ct:Nat}
def YY (hh:aR O m S w hp ct) (id:Nat):aR O m S w (da hp id) ct:=by
 have sub:∀i o,an (da hp id) i=some o->an hp i=some o:=fun i o h=>by
  rw [Hi] at h
  grind
 exact ⟨fun i o p h hm=>hh.obj i o p (sub i o h) hm,hh.lt,fun i j oi oj pi pj hi hj=>hh.inj i j oi oj pi pj (sub i oi hi) (sub j oj hj),hh.slt,hh.blt,hh.low,hh.lG,hh.fP,fun i o h=>hh.aP i o (sub i o h)⟩
def Z6 {id b:Nat} (h:dX m (da hp id) b):dX m hp b:=by
 obtain ⟨i,o,p,h1,h2,h3⟩:=h;rw [Hi] at h1;by_cases hc:id=i
 ·grind
 ·simp only [hc,xk] at h1;exact ⟨i,o,p,h1,h2,h3⟩
def WQ (hh:aR O m S w hp ct) {id:Nat} {o:Obj} {p:Pl} (hg:an hp id=some o) (hm:m id=some p):¬dX m (da hp id) p.b:=by
 rintro ⟨i,o',q,h1,h2,h3⟩;rw [Hi] at h1;by_cases hc:id=i
 ·grind
 ·simp only [hc,xk] at h1;exact hc (hh.inj i id o' o q p h1 hg h2 hm h3).symm
def ang {ao:Hp} (hd:jY hp ao) {b:Nat} (h:dX m ao b):dX m hp b:=by
 obtain ⟨i,o,p,h1,h2,h3⟩:=h
 have:=hd i
 rw [h1] at this
 cases hq:an hp i with
 | none=>rw [hq] at this;cases this
 | some q=>exact ⟨i,q,p,hq,h2,h3⟩
def Xh {lo:Nat} {v v':AV} {ao:Hp} {n:Nat} (hh:aR O m S w hp ct) (hf:freeze n hp v=some (v',ao)) {u:yh} (hv:ah O.ae m S w v u):
  ∃S',aR O m S' w ao ct/\(∀b,S b->S' b)/\(∀b,S' b->S b\/dX m hp b)/\aV v'=true/\ah O.ae eO S' w v' u/\ie O.ae S' w lo v' u []:=by
 obtain ⟨h1,h2,h3⟩:=P7 (O:=O) hf;obtain ⟨S',g1,g2,g3⟩:=ZW hh h1 (fun id o p ho hm=>by
  have:=h2 id
  rw [ho] at this
  cases hq:an hp id with
  | none=>rw [hq] at this;cases this
  | some q=>exact ⟨q,rfl⟩) (yz _) (fun id o ho=>(by
  have:=h2 id
  rw [ho] at this
  cases hq:an hp id with
  | none=>rw [hq] at this;cases this
  | some q=>exact hh.aP id q hq))
 obtain ⟨k1,k2⟩:=h3 ao m S' w ct cQ.refl g1;have hr:=k1 u (lj (fun _ _ h=>h) g2 (fun _ _=>rfl) v u hv);have bC:ah O.ae eO S' w v' u:=pO (fun _ h=>h) (fun _ _=>rfl) v' u k2 hr;refine ⟨S',g1,g2,g3,k2,bC,?_⟩
 cases v' with
 | cf _ _ _ _=>simp [aV] at k2
 | _=>exact ⟨rfl,bC,k2⟩
def aiN {S':Nat->Prop} {lo:Nat} {v:AV} {u:yh} {bs:List Nat} (hS:∀b,S b->S' b) (hn:∀b,b∈bs->¬S' b) (h:ie O.ae S w lo v u bs):ie O.ae S' w lo v u bs:=by
 cases v with
 | cf ex sz n cs=>
  obtain ⟨b,o,c,arr,t,rfl,rfl,g1,g2,g3,g4,g5,g6,g7,g8,g9⟩:=h;exact ⟨b,o,c,arr,t,rfl,rfl,g1,g2,g3,hn b (by simp),g5,g6,g7,BX hS (fun _ _=>rfl) cs b o g9 rfl g8,g9⟩
 | _=>simp only [ie] at h ⊢;exact ⟨h.1,pO hS (fun _ _=>rfl) _ _ h.2.2 h.2.1,h.2.2⟩
def X6 {lo:Nat} {v v':AV} {ao:Hp} {n:Nat} (hh:aR O m S w hp ct) (hf:oF n hp v=some (v',ao)) {u:yh} (hv:ah O.ae m S w v u) (aZ:∀b,dX m hp b->lo<=b):
  ∃S' bs,aR O m S' w ao ct/\(∀b,S b->S' b)/\(∀b,S' b->S b\/dX m hp b)/\ie O.ae S' w lo v' u bs/\bs.Nodup/\(∀b,b∈bs->dX m hp b/\¬dX m ao b)/\(∀b,dX m ao b->dX m hp b):=by
 have frozen:freeze n hp v=some (v',ao)->∃S' bs,aR O m S' w ao ct/\(∀b,S b->S' b)/\(∀b,S' b->S b\/dX m hp b)/\ie O.ae S' w lo v' u bs/\bs.Nodup/\(∀b,b∈bs->dX m hp b/\¬dX m ao b)/\(∀b,dX m ao b->dX m hp b):=by
  intro hz;obtain ⟨S',g1,g2,g3,g4,g5,g6⟩:=Xh (lo:=lo) hh hz hv
  exact ⟨S',[],g1,g2,g3,g6,by simp,by simp,fun b hb=>ang (P7 (O:=O) hz).2.1 hb⟩
 unfold oF at hf
 split at hf
 ·rename_i id o k
  split at hf
  ·rename_i ex sz cs hg
   cases hc:yG (o+k*sz) cs.length with
   | false=>rw [hc] at hf;cases hf
   | true=>
    rw [hc] at hf;obtain ⟨rfl,rfl⟩:=hf;have hle:=yr hc;obtain ⟨p,c,hm,rfl,h1,h2⟩:=hv;obtain ⟨p',arr,t,g1,g2,g3,g4,g5,g6,g7,g8,g9,g10⟩:=hh.obj id _ _ hg hm;rw [hm] at g1;injection g1 with g1
    subst g1;rw [g3] at h2;refine ⟨S,[p.b],YY hh id,fun _ h=>h,fun _ h=> .inl h,?_,by simp,?_,fun b hb=>Z6 hb⟩
    ·refine ⟨p.b,p.o+o,c,arr,t,rfl,rfl,h1,?_,aZ _ (HV hg hm),g9 rfl,g2,?_,by omega,?_,Ab _ (sH _ _ (g8 rfl))⟩
     ·intro hx;simp only [yg] at hx;have e1:=yk hx.2;have e2:=sR.1 hx.1.2;have e3:=g6 hx.1.1
      have:c*sz=k*sz:=by omega
      exact yac e2 this
     ·simp only [slice,yT,xN];omega
     ·exact BX (fun _ h=>h) (fun _ _=>rfl) _ _ _ (Ab _ (sH _ _ (g8 rfl))) rfl (Af _ _ _ _ (pK _ _ _ _ g7))
    ·intro b hb;simp only [List.mem_singleton] at hb;subst hb;exact ⟨HV hg hm,WQ hh hg hm⟩
  ·grind
 ·grind
def Xi {lo n:Nat}:∀{vs dW:List AV} {us:List yh} {hp ao:Hp} {S:Nat->Prop},aR O m S w hp ct->qS n hp vs=some (dW,ao)->av O.ae m S w vs us->(∀b,dX m hp b->lo<=b)->
  ∃S' bs,(∀b,S b->S' b)/\(∀b,S' b->S b\/dX m hp b)/\kS O.ae S' w lo dW us bs/\bs.Nodup/\(∀b,b∈bs->dX m hp b)/\(∀b,S' b->b<w.heap.size)
 | [],dW,us,hp,ao,S,hh,hf,hv,aZ=>by
  obtain ⟨rfl,rfl⟩:=hf;exact ⟨S,[],fun _ h=>h,fun _ h=> .inl h,by simp only [kS];exact ⟨hv,by trivial⟩,by simp,by simp,hh.slt⟩
 | v::r,dW,us,hp,ao,S,hh,hf,hv,aZ=>by
  simp only [qS] at hf
  cases h1:oF n hp v with
  | none=>simp [h1] at hf
  | some q=>
   obtain ⟨v1,bj⟩:=q;simp only [h1] at hf
   cases h2:qS n bj r with
   | none=>simp [h2] at hf
   | some q2=>
    simp only [h2,yd,yo] at hf;obtain ⟨rfl,rfl⟩:=hf;obtain ⟨u,t,rfl,dY,cA⟩:=hv;obtain ⟨S1,b1,k1,k2,k3,k4,k5,k6,k7⟩:=X6 (lo:=lo) hh h1 dY aZ;obtain ⟨S2,b2,g1,g2,g3,g4,g5,g6⟩:=Xi (us:=t) k1 h2 (gK (fun _ _ h=>h) k2 (fun _ _=>rfl) _ _ cA) (fun b hb=>aZ b (k7 b hb));have SM:∀b,b∈b1->¬S2 b:=by
     intro b hb hs;rcases g2 b hs with h | h
     ·cases v1 with
      | cf ex sz n cs=>
       simp only [ie] at k4
       grind
      | _=>simp only [ie] at k4;rw [k4.1] at hb;cases hb
     ·grind
    refine ⟨S2,b1++b2,fun b hb=>g1 b (k2 b hb),fun b hb=>?_,?_,?_,?_,g6⟩
    ·grind
    ·simp only [kS];exact ⟨u,t,b1,b2,rfl,rfl,aiN g1 SM k4,g3⟩
    ·grind
    ·grind
def Qc {lo:Nat}:∀{cs:List AV} {us:List yh},aF cs=true->av O.ae eO S w cs us->kS O.ae S w lo cs us []
 | [],us,_,h=>by simp only [av] at h;exact ⟨h,by trivial⟩
 | c::r,us,hp,h=>by
  obtain ⟨u,t,rfl,h1,h2⟩:=h;simp only [aF,yg] at hp;refine ⟨u,t,[],[],rfl,rfl,?_,Qc hp.2 h2⟩
  cases c with
  | cf _ _ _ _=>simp [aV] at hp
  | _=>exact ⟨rfl,h1,hp.1⟩
def aiO {lo:Nat} {v r:AV} {u:yh} (hh:aR O m S w hp ct) (hr:result hp v=some r) (hv:ah O.ae m S w v u) (aZ:∀b,dX m hp b->lo<=b):
  ∃S',(∀b,S b->S' b)/\(∀b,S' b->S b\/dX m hp b)/\(∀b,S' b->b<w.heap.size)/\mU O.ae S' w lo r u:=by
 unfold result at hr
 split at hr
 ·rename_i vs
  split at hr
  ·cases h1:qS deep hp vs with
   | none=>simp [h1] at hr
   | some q=>
    simp only [h1,yd] at hr;subst hr;obtain ⟨us,rfl,hv⟩:=hv;obtain ⟨S',bs,g1,g2,g3,g4,g5,g6⟩:=Xi (lo:=lo) hh h1 hv aZ;exact ⟨S',g1,g2,g6,us,bs,rfl,g3,g4⟩
  ·cases h1:freeze deep hp (.ap vs) with
   | none=>simp [h1] at hr
   | some q=>
    obtain ⟨v',ao⟩:=q;simp only [h1,yd] at hr;subst hr;obtain ⟨S',g1,g2,g3,g4,g5,g6⟩:=Xh (lo:=lo) hh h1 hv;refine ⟨S',g2,g3,g1.slt,?_⟩
    cases v' with
    | ap cs=>
     obtain ⟨xs,rfl,g5⟩:=g5;exact ⟨xs,[],rfl,Qc (by simpa [aV] using g4) g5,by simp⟩
    | _=>exact ⟨[],g6⟩
 ·rename_i OC
  cases h1:oF deep hp v with
  | none=>simp [h1] at hr
  | some q=>
   obtain ⟨v',ao⟩:=q;simp only [h1,yd] at hr;subst hr;obtain ⟨S',bs,g1,g2,g3,g4,_⟩:=X6 (lo:=lo) hh h1 hv aZ;refine ⟨S',g2,g3,g1.slt,?_⟩
   cases v' with
   | ap cs=>
    obtain ⟨rfl,h2,h3⟩:=g4;obtain ⟨xs,rfl,h2⟩:=h2;exact ⟨xs,[],rfl,Qc (by simpa [aV] using h3) h2,by simp⟩
   | _=>exact ⟨bs,g4⟩
end
end
section
open Go
def WF (ro:Option Nat):Fence:={Fence.wide with round:=ro}
section
variable {O:br}
def aaI (O:br) (hp:Hp) (ct:Nat) (l:Nat) (xs:List AV) (v:AV) (ao:Hp) (aW:Nat):Prop:=
 ∀(m:Mp) (S:Nat->Prop) (w:yi) (args:Array yh) (p:Pl),aR O m S w hp ct->m l=some p->av O.ae m S w xs args.toList->
  ∃f tmps assign body,(Instr.yield p.b args).run O.P w= .ok (.round p.b f tmps assign body) w/\ybo Fence.wide 0 O.P p.b f tmps assign body w (sL O m S w hp ct v ao aW)
structure nt (O:br) (run:cw):Prop where
 pure:∀n vals r,bF O.prog O.aX run n vals=some r->ep O n vals r
 heap:∀hp ct n vals v ao aW,iC O.prog O.aX run hp ct n vals=some (v,ao,aW)->AP O n hp ct vals v ao aW
 round:∀hp ct l xs v ao aW,kJ run hp ct l xs=some (v,ao,aW)->aaI O hp ct l xs v ao aW
end
section
variable {P:y7} {o:yZ} {a:Act} {w:yi} {ro:Option Nat} {next:Act->yi->Prop} {Q:vW->Act->yi->Prop}
def K9 {c:tH} {f:xy} (ho:o.op= .call c) (hc:c.callee= .value f) {g:tq} {fi ca:Array yh} (hf:a.eval f= .func (.func g) fi ca) {R:yaD->yi->Prop}
  (h:As P g (fi++c.args.map a.eval++ca) w R) (hn:∀e w',R e w'->∃u,e= .returned u/\next (a.put o.dst u) w'):o.wpIn (WF ro) 0 P a w next Q:=by
 have eL:(o.semAt ro a.eval).run P w=(callFunc g (fi++c.args.map a.eval++ca)).run P w:=by
  rw [Oper.semAt_eq _ _ _ (fun c' h'=>by rw [ho] at h';cases h')];simp only [execOp,ho,resolve,hc,Deferred.ofValue,hf,Sem.run_bind,Sem.run_pure,Result.andThen_ok,invoke]
 refine ⟨fun _ _=>trivial,?_⟩;show o.uponIn (WF ro) 0 P a next Q ((o.semAt ro a.eval).run P w)
 rw [eL];rcases h with ⟨h1,h2⟩ | ⟨u,w',h1,h2⟩
 ·rw [h1,Oper.uponIn_enter];refine ⟨fun h=>by simp [WF,Fence.wide] at h,?_⟩;have h3:CallsIn (WF ro) 0 P g (fi++c.args.map a.eval++ca) w R:=h2;refine CallsIn.mono h3 (fun e w' he=>?_);obtain ⟨u,rfl,hq⟩:=hn e w' he;exact hq
 ·rw [h1];obtain ⟨u',e,hq⟩:=hn _ _ h2;injection e with e
  subst e;exact hq
def akO {c:tH} {f:xy} (ho:o.op= .call c) (hc:c.callee= .value f) {l:Nat} (hf:a.eval f= .func (.yield l) #[] #[]) {R:yaD->yi->Prop} {g:tq} {tmps:Array yh} {assign body:wS}
  (hy:(Instr.yield l (c.args.map a.eval)).run P w= .ok (.round l g tmps assign body) w) (h:ybo Fence.wide 0 P l g tmps assign body w R) (hn:∀e w',R e w'->∃u,e= .returned u/\next (a.put o.dst u) w'):o.wpIn (WF ro) 0 P a w next Q:=by
 have eL:(o.semAt ro a.eval).run P w= .ok (.round l g tmps assign body) w:=by
  rw [Oper.semAt_eq _ _ _ (fun c' h'=>by rw [ho] at h';cases h')];simp only [execOp,ho,resolve,hc,Deferred.ofValue,hf,Sem.run_bind,Sem.run_pure,Result.andThen_ok,invoke,Array.empty_append];exact hy
 refine ⟨fun _ _=>trivial,?_⟩;show o.uponIn (WF ro) 0 P a next Q ((o.semAt ro a.eval).run P w)
 rw [eL,Oper.uponIn_round];refine ⟨fun h=>by simp [WF,Fence.wide] at h,?_⟩;have h3:ybo (WF ro) 0 P l g tmps assign body w R:=h;refine RoundIn.mono h3 (fun e w' he=>?_);obtain ⟨u,rfl,hq⟩:=hn e w' he;exact hq
def HW {n:yar} {u:yh} {w':yi} (hd:∀c,o.op≠.defer c) (h:(execOp a.eval o).run P w= .ok n w') (hn:n= .value u\/(n= .skip/\u=undef)) (hq:next (a.put o.dst u) w'):o.wpIn (WF ro) 0 P a w next Q:=by
 refine ⟨fun _ _=>trivial,?_⟩;show o.uponIn (WF ro) 0 P a next Q ((o.semAt ro a.eval).run P w)
 rw [Oper.semAt_eq _ _ _ hd,h];rcases hn with rfl | ⟨rfl,rfl⟩
 ·exact hq
 ·exact hq
end
def oQ (P:y7) (H:Hint) (q:Op) (o:yZ):Prop:=
 (∃k,q=aS P H k o)\/(∃c f rs,o.op= .call c/\c.callee= .value f/\q= .ia rs (aK H f) (gO H c.args.toList))\/
  (∃t x y sz rs,o.op= .store t x y/\cz P t=some sz/\q= .kC rs sz (aK H x) (aK H y))\/
  (∃k rs sz b x y,Op.cR sz b x y=aS P H k o/\q= .kV rs sz b x y)\/∃k sz b x y,Op.cR sz b x y=aS P H k o/\q= .ph sz b x y
def iY:Op->Op
 | .ia _ f xs=> .ia [] f xs
 | .kC _ s x v=> .st s x v
 | .kV _ s b x v=> .cR s b x v
 | o=>o
section
variable {O:br} {H:Hint} {m:Mp} {S:Nat->Prop} {w:yi} {tm:Env} {a:Act} {hp:Hp} {ct:Nat} {self:cw} {ro:Option Nat} {next:Act->yi->Prop} {Q:vW->Act->yi->Prop}
def Mc {o:yZ} {k:Nat} {md:Md} {x:X} {xs:List X} (h:aS O.P H k o= .call md x xs) (hb:x≠.c .undef):∃c f,o.op= .call c/\c.callee= .value f/\x=aK H f/\xs=gO H c.args.toList:=by
 have nb:bad= .call md x xs->False:=fun h=>by simp only [bad,Op.call.injEq] at h;exact hb h.2.1.symm
 cases ho:o.op with
 | call c=>
  obtain ⟨callee,args,ts⟩:=c;simp only [aS,ho] at h
  split at h
  ·rename_i f;cases hm:H.mode k<;>simp only [hm,Op.call.injEq,reduceCtorEq] at h
   all_goals exact ⟨_,f,rfl,rfl,h.2.1.symm,h.2.2.symm⟩
  ·repeat' split at h
   all_goals first
    | exact (nb h).elim
    | (cases h;done)
    | (revert h;generalize yt _ _=bb;intro h;cases bb<;>first | exact (nb h).elim | (cases h;done))
  ·exact (nb h).elim
 | binOp op t x' y ty=>
  cases op<;>simp only [aS,ho,nA,oA] at h
  case eql=>
        repeat' split at h
        all_goals first
         | exact (nb h).elim
         | (cases h;done)
         | (cases bQ:(O.P.stoodInHeld t||O.P.eqGuardType O.P.depth t)<;>rw [bQ] at h<;>first | exact (nb h).elim | (cases h;done))
  case neq=>
        repeat' split at h
        all_goals first
         | exact (nb h).elim
         | (cases h;done)
         | (cases bQ:(O.P.stoodInHeld t||O.P.eqGuardType O.P.depth t)<;>rw [bQ] at h<;>first | exact (nb h).elim | (cases h;done))
  all_goals cases h
 | buildSlice t n parts=>
  simp only [aS,ho] at h
  repeat' split at h
  all_goals first
   | exact (nb h).elim
   | (cases h;done)
   | (revert h;generalize yG _ _=bb;intro h;cases bb<;>first | exact (nb h).elim | (simp only [yx] at h;cases h;done))
 | makeMap t r=>
  cases r<;>simp only [aS,ho] at h
  ·repeat' split at h
   all_goals first
    | exact (nb h).elim
    | (cases h;done)
  ·exact (nb h).elim
 | next x' b=>
  cases b<;>simp only [aS,ho] at h
  ·exact (nb h).elim
  ·cases h
 | _=>
  simp only [aS,ho] at h
  (repeat' split at h)
  all_goals first
   | contradiction
   | exact (nb h).elim
   | (cases h;done)
def ahD {o:yZ} {k:Nat} {r:AV×Hp×Nat} (hv:a7 O.prog O.aX self tm hp ct (aS O.P H k o)=some r):∀c,o.op≠.defer c:=by
 intro c ho;simp [aS,ho,bad,a7,dA,az] at hv
end
end
section
open Go
section
variable {O:br} {H:Hint} {m:Mp} {S:Nat->Prop} {w:yi} {tm:Env} {a:Act} {hp:Hp} {ct cq:Nat}
def ib (tm:Env) (hp:Hp) (ct:Nat):Op->Option (AV×Obj)
 | .cR sz b x y=>q9 hp ct sz b (az tm x) (js hp sz (az tm y))
 | _=>none
def RA (O:br) (m:Mp) (S:Nat->Prop) (w:yi) (a:Act) (ct:Nat) (o:yZ) (v:AV) (b:Obj):Prop:=
 ∃u g p,(execOp a.eval o).run O.P w= .ok (.value u) (w.drew.alloc g)/\p.b=w.heap.size/\¬iB b/\
  ∀m',de m m'->m' ct=some p->eX O m' S (w.drew.alloc g) ct b/\ah O.ae m' S (w.drew.alloc g) v u
def akP {e:yF} {z:yh} {sz need cap:Nat} {cs:List AV} {us:List yh} (hh:aR O m S w hp cq) (hr:av O.ae m S w cs us) (hl:us.length=need*sz) (hz:z.cells.size=sz)
  (Cz:Bool) (UH:Cz=true->aF cs=true) (hc:need<=cap):
  let w':=w.drew.alloc (.cells (us.toArray++Builtin.zeroCells z.cells (cap-need)) e)
  let p:Pl:=⟨w.heap.size,0,cap*sz,sz⟩
  ∀m',de m m'->m' ct=some p->eX O m' S w' ct (.cells true Cz false sz cs):=by
 intro w' p m' hm hi;have aQ:fG S w w':=fun b hb=>by
  have:=hh.slt b hb
  exact RowKit.Below.heap_alloc w.drew _ b (by simpa using this)
 have jc:w'.heap[w.heap.size]? =some (.cells (us.toArray++Builtin.zeroCells z.cells (cap-need)) e (0,0)):=heap_alloc_new w.drew _;have eZ:=gM _ _ hr;refine ⟨p,_,e,hi,jc,rfl,?_,?_,by simp,?_,UH,?_,by simp⟩
 ·show cs.length<=cap*sz
  rw [<-eZ,hl];exact yS _ hc
 ·show 0+cap*sz<=_
  rw [Array.size_append,uM,size_zeroCells,hz,hl,<-we];rw [yf];exact yS _ (by omega)
 ·refine Lr jc cs us 0 (gK hm (fun _ h=>h) aQ _ _ hr) (fun j u hj=>?_);rw [yf,tW (by rw [uM];exact (wq.1 hj).1),List.getElem?_toArray]
  exact hj
 ·intro _ hS
  have:=hh.slt _ hS
  simp [p] at this
def mM {a b:Nat} (h:yK a b=true):a<b:=yr h
def akQ {o:yZ} {b':yF} {t u e:yF} {sz by':Nat} {z:AV} {x y:xy} {v:AV} {dD:Obj} (hH:fj O H) (ht:bT O m S w tm a.tmps) (hh:aR O m S w hp cq)
  (eL:(execOp a.eval o).run O.P w=((do pure (.value (<-Builtin.append_ #[t,u] b' #[a.eval x,a.eval y])):Sem yar)).run O.P w)
  (rZ:O.P.underlying t=some (.slice e)) (hu:(∃e',O.P.underlying u=some (.slice e'))\/O.P.underlying u=some .string) (hs:cz O.P e=some sz) (hb:rP O.P e=some by') (hz:lB O.P e=some z) (qj:(cellsOf z).length=sz)
  (hv:ib tm hp ct (.cR sz by' (aK H x) (aK H y))=some (v,dD)):RA O m S w a ct o v dD:=by
 simp only [ib] at hv;obtain ⟨ti,zv,qt,rfl,rfl,J7,rfl⟩:=ZZ hs hb hz;have aI:∀u' w',(Builtin.append_ #[t,u] b' #[a.eval x,a.eval y]).run O.P w= .ok u' w'->(execOp a.eval o).run O.P w= .ok (.value u') w':=fun u' w' h=>by
  rw [eL,Sem.run_bind,h];rfl
 have Dg:zv.cells.size=ti.size:=by
  have:=gM _ _ (BU (ae:=O.ae) (m:=m) (S:=S) (w:=w) zv)
  rw [<-qj,<-this];simp
 cases p6:js hp ti.size (az tm (aK H y)) with
 | none=>simp [p6,q9] at hv
 | some q=>
  obtain ⟨n,new⟩:=q;rw [p6] at hv;obtain ⟨news,eV,dn⟩:=XY hh (ck hH ht y) p6;have J8:=gM _ _ eV;have rx:=ck hH ht x;cases hx:az tm (aK H x)<;>rw [hx] at hv rx<;>simp only [q9,reduceCtorEq] at hv
  rename_i id o0 k;simp only [ah] at rx;obtain ⟨p,c,hm,ex,h1,h2⟩:=rx
  split at hv
  case h_2=>cases hv
  rename_i et pu zz cs hg
  cases hc:(yt zz ti.size&&(yK 0 n&&(yG (k+n) room&&(yG ((k+n)*ti.bytes) room&&(yt (o0+k*ti.size) cs.length&&yK 0 ti.size))))) with
  | false=>rw [hc] at hv;cases hv
  | true=>
   rw [hc] at hv;simp only [yx,yd,yo] at hv;obtain ⟨rfl,rfl⟩:=hv;simp only [yg] at hc;have c0:=yk hc.1;have c5:=mM hc.2.1;have c1:=yr hc.2.2.1;have c2:=yr hc.2.2.2.1;have c3:=yk hc.2.2.2.2.1;have c4:=mM hc.2.2.2.2.2;simp only [room] at c1 c2;obtain ⟨p',arr,t',g1,g2,g3,g4,g5,g6,g7,g8,g9,g10⟩:=hh.obj id _ _ hg hm;rw [hm] at g1;injection g1 with g1
   subst g1;subst c0;rw [g3] at h2;have hce:=g6 rfl;have nc:c=k:=by
    have:c*ti.size=k*ti.size:=by omega
    exact yac c4 this
   subst nc;have Fo:bL O.ae m S w (slice o0 (c*ti.size) cs) p.b (p.o+o0):=Af _ _ _ _ (pK _ _ _ _ g7);obtain ⟨lH,f1,f2,f3⟩:=qI _ _ _ Fo;have Nf:(slice o0 (c*ti.size) cs).length=c*ti.size:=by simp only [slice,yT,xN];omega
   have mY:(pu&&aF new)=true->aF (slice o0 (c*ti.size) cs++new)=true:=fun h=>by
    simp only [yg] at h;exact BV (Ab _ (sH _ _ (g8 h.1))) h.2
   have J9:Src O.P w ti.size c lH (.slice (some ⟨p.b,p.o+o0,none⟩) c c):=DW (by omega) (fun j u hj=>by rw [nB];exact f3 j u hj)
   have hr:=KV (P:=O.P) (ty:=b') (w:=w) rZ hu qt J7 rfl J9 dn (by omega) c1 c2;have ji:=grownCap_ge w (c+n) c e;have jc:=akP (ct:=ct) (e:=e) (z:=zv) (cap:=grownCap w (c+n) c e) hh (lh f1 eV) (need:=c+n) (sz:=ti.size) (by rw [yR,f2,Nf,dn.2.1,we]) Dg (pu&&aF new) mY ji;exact ⟨_,_,⟨w.heap.size,0,grownCap w (c+n) c e*ti.size,ti.size⟩,aI _ _ (by rw [ex];exact hr),rfl,by simp [iB],fun m' hle hi=>⟨jc m' hle hi,by simp only [ah];exact ⟨_,_,hi,rfl,ji,by simp⟩⟩⟩
def ahE {Hq:Hp} (hl:cQ hp Hq) {sz:Nat} {v:AV} {q:Nat×List AV} (h:lY hp sz v=some q):lY Hq sz v=some q:=by
 cases v<;>simp only [lY,reduceCtorEq] at h ⊢
 ·exact h
 ·exact h
 ·rename_i id o n
  cases hg:an hp id with
  | none=>simp [hg] at h
  | some ob=>
   cases ob<;>simp only [hg,reduceCtorEq] at h
   obtain ⟨o',h1,r,rfl,_⟩:=hl id _ hg;simp only [h1];exact h
def aiP {Hq:Hp} (hl:cQ hp Hq) {sz:Nat} {v:AV} {q:Nat×List AV} (h:js hp sz v=some q):js Hq sz v=some q:=by
 by_cases hs:∃b,v= .str b
 ·obtain ⟨b,rfl⟩:=hs;exact h
 ·have e:∀hp:Hp,js hp sz v=lY hp sz v:=fun hp=>by
   cases v<;>first
    | rfl
    | exact absurd ⟨_,rfl⟩ hs
  rw [e] at h ⊢;exact ahE hl h
def akR {Hq:Hp} (hl:cQ hp Hq) {sz b:Nat} {x y v:AV} {dD:Obj} (h:q9 hp ct sz b x (js hp sz y)=some (v,dD)):q9 Hq ct sz b x (js Hq sz y)=some (v,dD):=by
 cases hs:js hp sz y with
 | none=>rw [hs] at h;simp [q9] at h
 | some q=>
  rw [aiP hl hs];rw [hs] at h;obtain ⟨n,new⟩:=q;cases x<;>simp only [q9,reduceCtorEq] at h ⊢
  rename_i id o k
  cases hg:an hp id with
  | none=>simp [hg] at h
  | some ob=>
   cases ob with
   | cells et pu ex z cs=>
    cases ex with
    | false=>simp [hg] at h
    | true=>
     obtain ⟨o',h1,r,rfl,_⟩:=hl id _ hg;simp only [hg] at h;simp only [h1];exact h
   | _=>simp [hg] at h
def apv {o:yZ} {k:Nat} {v:AV} {dD:Obj} (hH:fj O H) (ht:bT O m S w tm a.tmps) (hh:aR O m S w hp cq)
  (hv:ib tm hp ct (aS O.P H k o)=some (v,dD)):RA O m S w a ct o v dD:=by
 have ic:∀{r:AV×Obj},ib tm hp ct bad=some r->False:=fun h=>by simp [bad,ib] at h
 cases ho:o.op with
 | call c=>
  obtain ⟨callee,args,ts⟩:=c;simp only [aS,ho] at hv
  split at hv
  ·cases De:H.mode k<;>simp [De,ib] at hv
  ·rename_i _ b
   split at hv
   ·rename_i x y t u fQ mE;obtain ⟨al⟩:=args;obtain ⟨tl⟩:=ts;simp only at fQ mE;subst fQ;subst mE;obtain ⟨cs,eL⟩:=DN (O:=O) (w:=w) (a:=a) ho;have IL:(execOp a.eval o).run O.P w=((do pure (.value (<-Builtin.append_ #[t,u] o.type #[a.eval x,a.eval y])):Sem yar)).run O.P w:=by
     rw [eL];simp [builtin]
    have key:∀{z:AV} {sz by':Nat} {e:yF},O.P.underlying t=some (.slice e)->((∃e',O.P.underlying u=some (.slice e'))\/O.P.underlying u=some .string)->cz O.P e=some sz->rP O.P e=some by'->lB O.P e=some z->
      ib tm hp ct (bif yt (cellsOf z).length sz then .cR sz by' (aK H x) (aK H y) else bad)=some (v,dD)->RA O m S w a ct o v dD:=by
     intro z sz by' e h1 h2 h3 h4 h5 h
     cases hb:yt (cellsOf z).length sz with
     | false=>rw [hb] at h;exact (ic h).elim
     | true=>
      rw [hb] at h;exact akQ hH ht hh IL h1 h2 h3 h4 h5 (yk hb) h
    split at hv
    ·rename_i e e' h1 h2
     split at hv
     ·rename_i sz by' z h3 h4 h5
      exact key h1 (.inl ⟨_,h2⟩) h3 h4 h5 hv
     ·exact (ic hv).elim
    ·rename_i e h1 h2
     split at hv
     ·rename_i sz by' z h3 h4 h5
      exact key h1 (.inr h2) h3 h4 h5 hv
     ·exact (ic hv).elim
    ·exact (ic hv).elim
   ·repeat' split at hv
    all_goals simp [ib,bad] at hv
   ·repeat' split at hv
    all_goals simp [ib,bad] at hv
   ·simp [ib] at hv
   ·simp [ib] at hv
   ·exact (ic hv).elim
  ·exact (ic hv).elim
 | next x b=>
  cases b<;>simp [aS,ho,ib,bad] at hv
 | binOp op t x y ty=>
  cases op<;>simp only [aS,ho,nA,oA] at hv
  case eql=>
        repeat' split at hv
        all_goals first
         | (simp [ib,bad] at hv;done)
         | (cases hb:(O.P.stoodInHeld t||O.P.eqGuardType O.P.depth t)<;>rw [hb] at hv<;>simp [ib,bad] at hv)
  case neq=>
        repeat' split at hv
        all_goals first
         | (simp [ib,bad] at hv;done)
         | (cases hb:(O.P.stoodInHeld t||O.P.eqGuardType O.P.depth t)<;>rw [hb] at hv<;>simp [ib,bad] at hv)
  all_goals simp [ib] at hv
 | buildSlice t n parts=>
  simp only [aS,ho] at hv
  repeat' split at hv
  all_goals first
   | (simp [ib,bad] at hv;done)
   | (
     revert hv;generalize yG _ _=bb;intro hv;cases bb<;>simp [ib,bad] at hv
     try (split at hv<;>simp [ib,bad] at hv))
 | makeMap t r=>
  cases r<;>simp only [aS,ho] at hv
  ·repeat' split at hv
   all_goals simp [ib,bad] at hv
  ·exact (ic hv).elim
 | _=>
  simp only [aS,ho] at hv
  (repeat' split at hv)
  all_goals first
   | contradiction
   | (simp [ib,bad] at hv;done)
end
end
section
open Go
section
variable {O:br} {H:Hint} {m:Mp} {S:Nat->Prop} {w:yi} {tm:Env} {a:Act} {hp ao Hq:Hp} {ct aW cH:Nat} {self:cw} {ro:Option Nat} {next:Act->yi->Prop} {Q:vW->Act->yi->Prop}
def X7 {g:tR} {p:Pl} {S':Nat->Prop} {base:Nat} (hh:aR O m S w Hq cH) (hi:m ct=none) (hb:p.b=w.heap.size) (h1:∀b,S b->S' b) (h2:∀b,S' b->S b\/b=w.heap.size):
  bZ m S w Hq (fC m ct p) S' (w.alloc g) Hq base where
 os:=rfl
 tape:=rfl
 output:=rfl
 size:=by simp
 same b hb _:=alloc_old hb
 sub:=h1
 still b hb:=alloc_old (hh.slt b hb)
 new b hb:=(h2 b hb).imp (fun h=>h) (fun h=> .inr (by omega))
 own b hb:=by
  obtain ⟨i,o,q,g1,g2,g3⟩:=hb;by_cases hc:i=ct
  ·subst hc;rw [dN] at g2
   grind
  ·rw [dZ hc] at g2;exact .inl ⟨i,o,q,g1,g2,g3⟩
 old i q _ h:=jr hi i q h
 loops b r hb:=⟨r,(alloc_old (xv.1 hb).1).trans hb⟩
def WR {MK vals:List AV} {us:List yh} {bj:Hp} (hz:cB deep hp MK=some (vals,bj)) (hl:cQ bj Hq) (hh:aR O m S w Hq cH) (hr:av O.ae m S w MK us):av O.ae eO S w vals us/\aF vals=true:=by
 obtain ⟨_,_,h3⟩:=PQ (O:=O) hz;obtain ⟨k1,k2⟩:=h3 Hq m S w cH hl hh;exact ⟨sI (fun _ h=>h) (fun _ _=>rfl) _ _ k2 (k1 us hr),k2⟩
def QY (hh:aR O m S w Hq cH):AO O w:=⟨hh.lG,hh.fP⟩
def LM (hH:fj O H) (ht:bT O m S w tm a.tmps) {f:xy} {g:Nat} {first cap:List AV} {args:Array xy} (hf:az tm (aK H f)= .fn (.f g) first cap):
  ∃fi ca:Array yh,a.eval f= .func (.func (O.ae g)) fi ca/\av O.ae m S w (first++(di tm (gO H args.toList)++cap)) (fi++args.map a.eval++ca).toList:=by
 have rf:=ck hH ht f;rw [hf] at rf;obtain ⟨fi,ca,h1,h2,h3⟩:=rf;refine ⟨fi,ca,h1,?_⟩
 have:=lh h2 (lh (Cg hH ht args.toList) h3)
 simp_all
def ahF (hC:nt O self) (hH:fj O H) {o:yZ} {c:tH} {f:xy} (ho:o.op= .call c) (iS:c.callee= .value f) {g:Nat} {first cap vals:List AV} {bj:Hp} {r:AV}
  (hf:az tm (aK H f)= .fn (.f g) first cap) (hz:cB deep hp (first++(di tm (gO H c.args.toList)++cap))=some (vals,bj)) (hr:bF O.prog O.aX self g vals=some r)
  (hl:cQ bj Hq) (ht:bT O m S w tm a.tmps) (hh:aR O m S w Hq cH)
  (hn:∀u S' w',aR O m S' w' Hq cH->ah O.ae m S' w' (shut r) u->bZ m S w Hq m S' w' Hq cH->next (a.put o.dst u) w'):o.wpIn (WF ro) 0 O.P a w next Q:=by
 obtain ⟨fi,ca,h1,h2⟩:=LM hH ht (args:=c.args) hf;obtain ⟨h3,h4⟩:=WR hz hl hh h2;refine K9 ho iS h1 (hC.pure g vals r hr w S _ (QY hh) hh.slt h3 h4) ?_;rintro e w' ⟨u,S',rfl,hw,g1,g2,g3,g4⟩;refine ⟨u,rfl,?_⟩;obtain ⟨S2,k1,k2,k3⟩:=X3 g4 m;have hS:∀b,S b->S2 b:=fun b hb=>k1 b (g1 b hb)
 have Ka:∀b,S2 b->S b\/w.heap.size<=b:=fun b hb=>(k2 b hb).elim (g2 b) (fun h=> .inr h.1)
 have hl:∀b,S2 b->b<w'.heap.size:=fun b hb=>(k2 b hb).elim (g3 b) (fun h=>h.2)
 exact hn u S2 w' (B1 hh hw hS Ka hl) k3 (Al hh hw hS Ka)
def aiQ (hC:nt O self) (hH:fj O H) {o:yZ} {c:tH} {f:xy} (ho:o.op= .call c) (iS:c.callee= .value f) {g:Nat} {first cap vals:List AV} {bj:Hp} {r:AV}
  (hf:az tm (aK H f)= .fn (.f g) first cap) (hz:cB deep hp (first++(di tm (gO H c.args.toList)++cap))=some (vals,bj)) (hr:bF O.prog O.aX self g vals=some r)
  (hl:cQ (own bj ct r).2.1 Hq) (fp:(own bj ct r).2.2<=cH) (aP:∀id o,an hp id=some o->id<ct) (r7:∀id,ct<=id->id<(own bj ct r).2.2->m id=none)
  (ht:bT O m S w tm a.tmps) (hh:aR O m S w Hq cH)
  (hn:∀u m' S' w',aR O m' S' w' Hq cH->de m m'->(∀id p,m' id=some p->m id=some p\/(ct<=id/\id<(own bj ct r).2.2))->ah O.ae m' S' w' (own bj ct r).1 u->bZ m S w Hq m' S' w' Hq cH->next (a.put o.dst u) w'):
  o.wpIn (WF ro) 0 O.P a w next Q:=by
 obtain ⟨fi,ca,h1,h2⟩:=LM hH ht (args:=c.args) hf;obtain ⟨z1,z2,z3⟩:=PQ (O:=O) hz;have SN:∀id o,an bj id=some o->id<ct:=fun id o h=>by
  have:=z2 id
  rw [h] at this
  cases hq:an hp id with
  | none=>rw [hq] at this;cases this
  | some q=>exact aP id q hq
 have apw:∀id o,an bj id=some o->an (own bj ct r).2.1 id=some o:=fun id o h=>by
  cases r with
  | ap vs=>exact Mb SN id o h
  | _=>exact QX SN id o h
 have mD:cQ bj Hq:=fun id o h=>hl id o (apw id o h)
 obtain ⟨h3,h4⟩:=WR hz mD hh h2;refine K9 ho iS h1 (hC.pure g vals r hr w S _ (QY hh) hh.slt h3 h4) ?_;rintro e w' ⟨u,S',rfl,hw,g1,g2,g3,g4⟩;refine ⟨u,rfl,?_⟩;have Bt:=B1 hh hw g1 g2 g3;have rU:=Al (base:=cH) hh hw g1 g2;obtain ⟨m',S2,k1,k2,k3,k4,k5,k6⟩:=apu (lo:=w.heap.size) Bt hl fp SN r7 g4 hh.fP (fun j q hq=>hh.blt j q hq);refine hn u m' S2 w' k1 k2 (fun id p h=>(k3 id p h).imp (fun h=>h) (fun h=>⟨h.1,h.2.1⟩)) k4 ⟨hw.os,hw.tape,hw.output,hw.size,fun b hb _=>hw.same b hb,fun b hb=>k5 b (g1 b hb),fun b hb=>hw.same b (hh.slt b hb),?_,?_,fun i q _ h=>k2 i q h,rU.loops⟩
 ·grind
 ·rintro b ⟨i,ob,q,q1,q2,q3⟩;rcases k3 i q q2 with h | h
  ·exact .inl ⟨i,ob,q,q1,h,q3⟩
  ·grind
def ahG {P:y7} {H:Hint} {o:yZ} {k:Nat} {sz b:Nat} {x y:X} (hk:Op.ph sz b x y=aS P H k o):False:=by
 cases ho:o.op with
 | call c=>
  obtain ⟨callee,args,ts⟩:=c;simp only [aS,ho] at hk
  split at hk
  ·rename_i f;cases hm:H.mode k<;>simp only [hm,reduceCtorEq] at hk
  ·repeat' split at hk
   all_goals first
    | (cases hk;done)
    | (simp only [bad] at hk;cases hk;done)
    | (revert hk;generalize yt _ _=bb;intro hk;cases bb<;>simp [bad] at hk)
  ·simp only [bad] at hk;cases hk
 | binOp op t x' y ty=>
  cases op<;>simp only [aS,ho,nA,oA] at hk
  case eql=>
        repeat' split at hk
        all_goals first
         | (cases hk;done)
         | (simp only [bad] at hk;cases hk;done)
         | (cases bQ:(P.stoodInHeld t||P.eqGuardType P.depth t)<;>rw [bQ] at hk<;>simp [bad] at hk)
  case neq=>
        repeat' split at hk
        all_goals first
         | (cases hk;done)
         | (simp only [bad] at hk;cases hk;done)
         | (cases bQ:(P.stoodInHeld t||P.eqGuardType P.depth t)<;>rw [bQ] at hk<;>simp [bad] at hk)
  all_goals cases hk
 | buildSlice t n parts=>
  simp only [aS,ho] at hk
  repeat' split at hk
  all_goals first
   | (cases hk;done)
   | (simp only [bad] at hk;cases hk;done)
   | (revert hk;generalize yG _ _=bb;intro hk;cases bb<;>simp [bad] at hk)
 | makeMap t r=>
  cases r<;>simp only [aS,ho] at hk
  ·repeat' split at hk
   all_goals first
    | (cases hk;done)
    | (simp only [bad] at hk;cases hk;done)
  ·simp only [bad] at hk;cases hk
 | next x' b=>
  cases b<;>simp only [aS,ho] at hk
  ·simp only [bad] at hk;cases hk
  ·cases hk
 | _=>
  simp only [aS,ho] at hk
  (repeat' split at hk)
  all_goals first
   | contradiction
   | (cases hk;done)
   | (simp only [bad] at hk;cases hk;done)
def apx {P:y7} {H:Hint} {o:yZ} {sz b:Nat} {x y:X} (hq:oQ P H (.ph sz b x y) o):∃k,Op.cR sz b x y=aS P H k o:=by
 rcases hq with ⟨k,hk⟩ | ⟨_,_,_,_,_,h3⟩ | ⟨_,_,_,_,_,_,_,h3⟩ | ⟨_,_,_,_,_,_,_,h3⟩ | ⟨k,Di,b',x',y',h1,h3⟩
 ·exact (ahG hk).elim
 ·cases h3
 ·cases h3
 ·cases h3
 ·simp only [Op.ph.injEq] at h3;obtain ⟨rfl,rfl,rfl,rfl⟩:=h3;exact ⟨k,h1⟩
def quiet_step (hC:nt O self) (hH:fj O H) {o:yZ} {q:Op} {v:AV} (hk:bm q<=1) (hq:oQ O.P H q o) (hd:∀c,o.op≠.defer c) (hv:a7 O.prog O.aX self tm hp ct q=some (v,ao,aW)) (hl:cQ ao Hq) (fp:aW<=cH)
  (aP:∀id o,an hp id=some o->id<ct) (r7:∀id,ct<=id->id<aW->m id=none) (ht:bT O m S w tm a.tmps) (hh:aR O m S w Hq cH)
  (hn:∀u m' S' w',aR O m' S' w' Hq cH->de m m'->(∀id p,m' id=some p->m id=some p\/(ct<=id/\id<aW))->ah O.ae m' S' w' v u->bZ m S w Hq m' S' w' Hq cH->next (a.put o.dst u) w'):
  o.wpIn (WF ro) 0 O.P a w next Q:=by
 by_cases UJ:∃sz b x y,q= .ph sz b x y
 ·obtain ⟨sz,b,x,y,rfl⟩:=UJ;obtain ⟨k,jg⟩:=apx hq;simp only [a7] at hv
  cases hm:q9 hp ct sz b (az tm x) (js hp sz (az tm y)) with
  | none=>simp [hm] at hv
  | some r=>
   obtain ⟨v1,dD⟩:=r;simp only [hm,yd,yo] at hv;obtain ⟨rfl,rfl,rfl⟩:=hv;have iO:cQ hp Hq:=fun id o' iM=>hl id o' (by
    rw [fE,yB (by have:=aP id o' iM;omega)];exact iM)
   have bC:ib tm Hq ct (aS O.P H k o)=some (v1,dD):=by rw [<-jg];exact akR iO hm
   have hi:=r7 ct (yz _) (tK _);obtain ⟨u,g,p,h1,h2,h3,h4⟩:=apv hH ht hh bC;have hcw:Calm w w.drew:=⟨rfl,rfl,rfl,yz _,fun _ _=>rfl⟩;have gV:=B1 hh hcw (S':=S) (fun _ h=>h) (fun _ h=> .inl h) hh.slt;have Fp:bZ m S w Hq m S w.drew Hq cH:=Al hh hcw (fun _ h=>h) (fun _ h=> .inl h);obtain ⟨S',k1,k2,k3⟩:=Qt (i:=ct) (g:=g) (p:=p) gV hi fp h2 (fun o' iM=>by
    obtain ⟨UC,g1,g2⟩:=hl ct dD (by rw [fE];simp)
    rw [iM] at g1;injection g1 with g1
    subst g1
    have:=PE g2 dN (h4 _ (jr hi) dN).1 h3
    rwa [h2] at this)
   refine HW hd h1 (.inl rfl) (hn u _ S' _ k1 (jr hi) (fun id q hq=>?_) (lj (fun _ _ h=>h) k2 (fun _ _=>rfl) _ _ (h4 _ (jr hi) dN).2) (Fp.trans (X7 gV hi h2 k2 k3)));by_cases hc:id=ct
   ·exact .inr (by omega)
   ·rw [dZ hc] at hq;exact .inl hq
 have jg:∃k,q=aS O.P H k o:=by
  rcases hq with h | ⟨c,f,rs,_,_,rfl⟩ | ⟨_,_,_,_,_,_,_,rfl⟩ | ⟨_,_,_,_,_,_,_,rfl⟩ | ⟨_,_,_,_,_,_,h⟩
  ·exact h
  ·simp [bm] at hk
  ·simp [bm] at hk
  ·simp [bm] at hk
  ·exact (UJ ⟨_,_,_,_,h⟩).elim
 obtain ⟨k,hq⟩:=jg;have read:∀{v:AV},bl tm hp q=some v->cQ hp Hq->(∀u m' S' w',aR O m' S' w' Hq cH->de m m'->(∀id p,m' id=some p->m id=some p\/(ct<=id/\id<aW))->ah O.ae m' S' w' v u->bZ m S w Hq m' S' w' Hq cH->next (a.put o.dst u) w')->o.wpIn (WF ro) 0 O.P a w next Q:=by
  intro v hr hl hn;have bC:=aiJ hl hr;rw [hq] at bC;obtain ⟨u,h1,h2⟩:=ZV hH ht hh bC;exact HW hd h1 (.inl rfl) (hn u m S w hh de.refl (fun _ _ h=> .inl h) h2 bZ.refl)
 have makes:∀{v:AV} {b:Obj},cN tm hp ct q=some (v,b)->cQ ((ct,b)::hp) Hq->ct+1<=cH->m ct=none->(∀u m' S' w',aR O m' S' w' Hq cH->de m m'->(∀id p,m' id=some p->m id=some p\/(ct<=id/\id<ct+1))->ah O.ae m' S' w' v u->bZ m S w Hq m' S' w' Hq cH->next (a.put o.dst u) w')->o.wpIn (WF ro) 0 O.P a w next Q:=by
  intro v b hr hl hc hi hn;rw [hq] at hr;have bC:cN tm Hq ct (aS O.P H k o)=some (v,b):=by rw [<-hr];exact G7 (fun _ _=>rfl)
  obtain ⟨u,g,p,h1,h2,h3,h4⟩:=ana hH ht hh bC;obtain ⟨S',k1,k2,k3⟩:=Qt (i:=ct) (g:=g) (p:=p) hh hi hc h2 (fun o' iM=>by
   obtain ⟨UC,g1,g2⟩:=hl ct b (by rw [fE];simp)
   rw [iM] at g1;injection g1 with g1
   subst g1
   have:=PE g2 dN (h4 _ (jr hi) dN).1 h3
   rwa [h2] at this)
  refine HW hd h1 (.inl rfl) (hn u _ S' _ k1 (jr hi) (fun id q hq=>?_) (lj (fun _ _ h=>h) k2 (fun _ _=>rfl) _ _ (h4 _ (jr hi) dN).2) (X7 hh hi h2 k2 k3));by_cases hc:id=ct
  ·exact .inr (by omega)
  ·rw [dZ hc] at hq;exact .inl hq
 have cI:∀{q:Op},(match cN tm hp ct q with | some (v,b)=>some (v,(ct,b)::hp,ct+1) | none=>(none:fS))=some (v,ao,aW)->∃b,cN tm hp ct q=some (v,b)/\ao=(ct,b)::hp/\aW=ct+1:=by
  intro q h
  cases hm:cN tm hp ct q with
  | none=>simp [hm] at h
  | some r=>
   obtain ⟨v1,b⟩:=r;simp only [hm,yd,yo] at h;obtain ⟨rfl,rfl,rfl⟩:=h;exact ⟨b,rfl,rfl,rfl⟩
 have fU:∀{q:Op},(match bl tm hp q with | some v=>some (v,hp,ct) | none=>(none:fS))=some (v,ao,aW)->bl tm hp q=some v/\ao=hp/\aW=ct:=by
  intro q h
  cases hm:bl tm hp q with
  | none=>simp [hm] at h
  | some r=>
   simp only [hm,yd,yo] at h;obtain ⟨rfl,rfl,rfl⟩:=h;exact ⟨rfl,rfl,rfl⟩
 have HX:(∃b,cN tm hp ct q=some (v,b)/\ao=(ct,b)::hp/\aW=ct+1)->o.wpIn (WF ro) 0 O.P a w next Q:=by
  rintro ⟨b,h1,rfl,rfl⟩;exact makes h1 hl fp (r7 ct (yz _) (tK _)) hn
 have apy:(bl tm hp q=some v/\ao=hp/\aW=ct)->o.wpIn (WF ro) 0 O.P a w next Q:=by
  rintro ⟨h1,rfl,rfl⟩;exact read h1 hl hn
 cases q with
 | st _ _ _=>simp [bm] at hk
 | oZ _ _ _ _=>simp [bm] at hk
 | pg _=>simp [bm] at hk
 | cR _ _ _ _=>simp [bm] at hk
 | pk _ _ _=>simp [bm] at hk
 | ia _ _ _=>simp [bm] at hk
 | kC _ _ _ _=>simp [bm] at hk
 | kV _ _ _ _ _=>simp [bm] at hk
 | ph sz b x y=>exact (UJ ⟨sz,b,x,y,rfl⟩).elim
 | box s x=>exact HX (cI (by simp only [a7] at hv;exact hv))
 | mT n s z ps=>exact HX (cI (by simp only [a7] at hv;exact hv))
 | nU s b z x y=>exact HX (cI (by simp only [a7] at hv;exact hv))
 | zG=>exact HX (cI (by simp only [a7] at hv;exact hv))
 | pc x=>exact HX (cI (by simp only [a7] at hv;exact hv))
 | call md x xs=>
  cases md with
  | heap=>simp [bm] at hk
  | dyn=>simp [bm] at hk
  | pure=>
   simp only [a7,dA] at hv
   split at hv
   ·rename_i g first cap hx
    (try simp only at hv)
    cases hz:cB deep hp (first++(di tm xs++cap)) with
    | none=>simp [hz] at hv
    | some z=>
     obtain ⟨vals,bj⟩:=z;simp only [hz] at hv
     cases hr:bF O.prog O.aX self g vals with
     | none=>simp [hr] at hv
     | some r=>
      simp only [hr,yd,yo] at hv;obtain ⟨rfl,rfl,rfl⟩:=hv;obtain ⟨c,f,ho,iS,rfl,rfl⟩:=Mc hq.symm (by rintro rfl;simp [az] at hx);exact ahF hC hH ho iS hx hz hr hl ht hh (fun u S' w' h1 h2 h3=>hn u m S' w' h1 de.refl (fun _ _ h=> .inl h) h2 h3)
   ·simp at hv
   ·cases hv
  | own=>
   simp only [a7,dA] at hv
   split at hv
   ·rename_i g first cap hx
    (try simp only at hv)
    cases hz:cB deep hp (first++(di tm xs++cap)) with
    | none=>simp [hz] at hv
    | some z=>
     obtain ⟨vals,bj⟩:=z;simp only [hz] at hv
     cases hr:bF O.prog O.aX self g vals with
     | none=>simp [hr] at hv
     | some r=>
      simp only [hr,yd] at hv;obtain ⟨c,f,ho,iS,rfl,rfl⟩:=Mc hq.symm (by rintro rfl;simp [az] at hx);have e1:v=(own bj ct r).1:=by rw [hv]
      have e2:ao=(own bj ct r).2.1:=by rw [hv]
      have e3:aW=(own bj ct r).2.2:=by rw [hv]
      subst e1;subst e2;subst e3;exact aiQ hC hH ho iS hx hz hr hl fp aP r7 ht hh hn
   ·simp at hv
   ·cases hv
 | _=>exact apy (fU (by simp only [a7] at hv;exact hv))
end
end
section
open Go
section
variable {O:br} {H:Hint} {m:Mp} {S:Nat->Prop} {w:yi} {tm:Env} {a:Act} {hp ao:Hp} {ct aW:Nat} {self:cw} {ro:Option Nat} {next:Act->yi->Prop} {Q:vW->Act->yi->Prop}
def bZ.ru {m':Mp} {S':Nat->Prop} {w':yi} {b b':Nat} (h:bZ m S w hp m' S' w' ao b) (hb:b'<=b):bZ m S w hp m' S' w' ao b':=
 ⟨h.os,h.tape,h.output,h.size,h.same,h.sub,h.still,h.new,h.own,fun i q hi hq=>h.old i q (by omega) hq,h.loops⟩
def apz {hp:Hp} {ct:Nat} {r:AV} (aP:∀id o,an hp id=some o->id<ct):∀id o,an (own hp ct r).2.1 id=some o->id<(own hp ct r).2.2:=by
 have hL:∀(vs:List AV) (hp:Hp) (ct:Nat),(∀id o,an hp id=some o->id<ct)->∀id o,an (jR hp ct vs).2.1 id=some o->id<(jR hp ct vs).2.2:=by
  intro vs
  induction vs with
  | nil=>intro hp ct h id o ho;exact h id o ho
  | cons v r ih=>intro hp ct h id o ho;exact ih _ _ (HI h) id o ho
 cases r with
 | ap vs=>exact hL vs hp ct aP
 | _=>exact HI aP
def apA {hp:Hp} {ct:Nat} {r:AV} (aP:∀id o,an hp id=some o->id<ct):∀id o,an hp id=some o->an (own hp ct r).2.1 id=some o:=by
 cases r with
 | ap vs=>exact Mb aP
 | _=>exact QX aP
def apB {hp:Hp} {ct:Nat} {r:AV}:ct<=(own hp ct r).2.2:=by
 cases r with
 | ap vs=>exact Ma
 | _=>exact L9
def akS {hp:Hp} {ct:Nat} {r:AV}:∀id o,an (own hp ct r).2.1 id=some o->id<ct->an hp id=some o:=by
 have h1:∀(hp:Hp) (ct:Nat) (r:AV) id o,an (fk hp ct r).2.1 id=some o->id<ct->an hp id=some o:=by
  intro hp ct r id o h hc;cases r<;>simp only [fk] at h<;>try exact h
  rw [fE,yB (by omega)] at h;exact h
 have hL:∀(vs:List AV) (hp:Hp) (ct:Nat) id o,an (jR hp ct vs).2.1 id=some o->id<ct->an hp id=some o:=by
  intro vs
  induction vs with
  | nil=>intro hp ct id o ho _;exact ho
  | cons v r ih=>intro hp ct id o ho hc;exact h1 hp ct v id o (ih _ _ id o ho (by have:=L9 (hp:=hp) (ct:=ct) (r:=v);omega)) hc
 cases r with
 | ap vs=>exact hL vs hp ct
 | _=>exact h1 hp ct _
structure iD (hp:Hp) (ct:Nat) (ao:Hp) (aW:Nat):Prop where
 le:cQ hp ao
 pq:ct<=aW
 lt:∀id o,an ao id=some o->id<aW
 back:∀id o,an ao id=some o->id<ct->∃o',an hp id=some o'
def iD.refl (aP:∀id o,an hp id=some o->id<ct):iD hp ct hp ct:=⟨cQ.refl,yz _,aP,fun _ o h _=>⟨o,h⟩⟩
def iD.trans {I4:Hp} {ac0:Nat} (h:iD hp ct ao aW) (k:iD ao aW I4 ac0):iD hp ct I4 ac0:=
 ⟨h.le.trans k.le,xg h.pq k.pq,k.lt,fun id o ho hi=>let ⟨o1,h1⟩:=k.back id o ho (yA hi h.pq);h.back id o1 h1 hi⟩
def X8 {MK vals:List AV} {bj:Hp} (hz:cB deep hp MK=some (vals,bj)) (aP:∀id o,an hp id=some o->id<ct):iD hp ct bj ct:=by
 obtain ⟨z1,z2,_⟩:=PQ (O:=⟨default,⟨fun _=>none,fun _=>none⟩,fun _=>0,fun _=>none,fun _=>⟨0,fun _=>none,fun _=>[],fun _=>none,fun _=> .pure,fun _=>[]⟩,default⟩) hz;have hb:∀id o,an bj id=some o->∃o',an hp id=some o':=fun id o h=>by
  have:=z2 id
  rw [h] at this
  cases hq:an hp id with
  | none=>rw [hq] at this;cases this
  | some q=>exact ⟨q,rfl⟩
 exact ⟨z1,yz _,fun id o h=>let ⟨o',h'⟩:=hb id o h;aP id o' h',fun id o h _=>hb id o h⟩
def aiR {r:AV} (aP:∀id o,an hp id=some o->id<ct):iD hp ct (own hp ct r).2.1 (own hp ct r).2.2:=
 ⟨fun id o h=>⟨o,apA aP id o h,jh.refl o⟩,apB,apz aP,fun id o h hi=>⟨o,akS id o h hi⟩⟩
def WS {P:aG} {L:Lib} {q:Op} {v:AV} (hk:bm q<=1) (hv:a7 P L self tm hp ct q=some (v,ao,aW)) (aP:∀id o,an hp id=some o->id<ct):iD hp ct ao aW:=by
 have cI:∀{q:Op},(match cN tm hp ct q with | some (v,b)=>some (v,(ct,b)::hp,ct+1) | none=>(none:fS))=some (v,ao,aW)->iD hp ct ao aW:=by
  intro q h
  cases hm:cN tm hp ct q with
  | none=>simp [hm] at h
  | some r=>
   obtain ⟨v1,b⟩:=r;simp only [hm,yd,yo] at h;obtain ⟨rfl,rfl,rfl⟩:=h;refine ⟨fun id o ho=>⟨o,?_,jh.refl o⟩,by omega,fun id o ho=>?_,fun id o ho hi=>?_⟩
   ·rw [fE,yB (by have:=aP id o ho;omega)];exact ho
   ·rw [fE] at ho;by_cases hc:ct=id
    ·omega
    ·simp only [hc,xk] at ho;have:=aP id o ho;omega
   ·rw [fE,yB (by omega)] at ho;exact ⟨o,ho⟩
 have fU:∀{q:Op},(match bl tm hp q with | some v=>some (v,hp,ct) | none=>(none:fS))=some (v,ao,aW)->iD hp ct ao aW:=by
  intro q h
  cases hm:bl tm hp q with
  | none=>simp [hm] at h
  | some r=>
   simp only [hm,yd,yo] at h;obtain ⟨rfl,rfl,rfl⟩:=h;exact iD.refl aP
 cases bJ:q with
 | st _ _ _=>simp [bJ,bm] at hk
 | oZ _ _ _ _=>simp [bJ,bm] at hk
 | pg _=>simp [bJ,bm] at hk
 | cR _ _ _ _=>simp [bJ,bm] at hk
 | pk _ _ _=>simp [bJ,bm] at hk
 | ia _ _ _=>simp [bJ,bm] at hk
 | kC _ _ _ _=>simp [bJ,bm] at hk
 | kV _ _ _ _ _=>simp [bJ,bm] at hk
 | ph sz b x y=>
  rw [bJ] at hv;simp only [a7] at hv
  cases hm:q9 hp ct sz b (az tm x) (js hp sz (az tm y)) with
  | none=>simp [hm] at hv
  | some r=>
   obtain ⟨v1,b⟩:=r;simp only [hm,yd,yo] at hv;obtain ⟨rfl,rfl,rfl⟩:=hv;refine ⟨fun id o ho=>⟨o,?_,jh.refl o⟩,by omega,fun id o ho=>?_,fun id o ho hi=>?_⟩
   ·rw [fE,yB (by have:=aP id o ho;omega)];exact ho
   ·rw [fE] at ho;by_cases hc:ct=id
    ·omega
    ·simp only [hc,xk] at ho;have:=aP id o ho;omega
   ·rw [fE,yB (by omega)] at ho;exact ⟨o,ho⟩
 | box s x=>exact cI (q:=q) (by rw [bJ] at hv ⊢;simp only [a7] at hv;exact hv)
 | mT n s z ps=>exact cI (q:=q) (by rw [bJ] at hv ⊢;simp only [a7] at hv;exact hv)
 | nU s b z x y=>exact cI (q:=q) (by rw [bJ] at hv ⊢;simp only [a7] at hv;exact hv)
 | zG=>exact cI (q:=q) (by rw [bJ] at hv ⊢;simp only [a7] at hv;exact hv)
 | pc x=>exact cI (q:=q) (by rw [bJ] at hv ⊢;simp only [a7] at hv;exact hv)
 | call md x xs=>
  subst bJ;simp only [a7,dA] at hv
  split at hv
  ·rename_i g first cap hx
   cases md with
   | heap=>simp [bm] at hk
   | dyn=>simp [bm] at hk
   | pure=>
    simp only at hv
    cases hz:cB deep hp (first++(di tm xs++cap)) with
    | none=>simp [hz] at hv
    | some z=>
     obtain ⟨vals,bj⟩:=z;simp only [hz] at hv
     cases hr:bF P L self g vals with
     | none=>simp [hr] at hv
     | some r=>
      simp only [hr,yd,yo] at hv;obtain ⟨rfl,rfl,rfl⟩:=hv;exact X8 hz aP
   | own=>
    simp only at hv
    cases hz:cB deep hp (first++(di tm xs++cap)) with
    | none=>simp [hz] at hv
    | some z=>
     obtain ⟨vals,bj⟩:=z;simp only [hz] at hv
     cases hr:bF P L self g vals with
     | none=>simp [hr] at hv
     | some r=>
      simp only [hr,yd] at hv;have e2:ao=(own bj ct r).2.1:=by rw [hv]
      have e3:aW=(own bj ct r).2.2:=by rw [hv]
      subst e2;subst e3;have g1:=X8 hz aP;exact g1.trans (aiR g1.lt)
  ·cases md with
   | heap=>simp [bm] at hk
   | dyn=>simp [bm] at hk
   | _=>simp at hv
  ·cases hv
 | _=>exact fU (q:=q) (by rw [bJ] at hv ⊢;simp only [a7] at hv;exact hv)
def LO (hh:aR O m S w hp ct) (hg:iD hp ct ao aW):∃S',aR O m S' w ao aW/\(∀b,S b->S' b)/\(∀b,S' b->S b\/dX m hp b)/\∀base,bZ m S w hp m S' w ao base:=by
 have hd:∀id o p,an ao id=some o->m id=some p->∃o',an hp id=some o':=fun id o p h hm=>hg.back id o h (hh.lt id p hm)
 obtain ⟨S',g1,g2,g3⟩:=ZW hh hg.le hd hg.pq hg.lt;refine ⟨S',g1,g2,g3,fun base=>⟨rfl,rfl,rfl,yz _,fun _ _ _=>rfl,g2,fun _ _=>rfl,fun b hb=>(g3 b hb).imp (fun h=>h) .inl,?_,fun _ _ _ h=>h,fun _ r h=>⟨r,h⟩⟩⟩;rintro b ⟨i,o,p,h1,h2,h3⟩;obtain ⟨o',h4⟩:=hd i o p h1 h2;exact .inl ⟨i,o',p,h4,h2,h3⟩
def akT {q:Op} {v:AV} (hv:cJ tm hp ct q=some (v,ao,aW)):ct<=aW:=by
 cases q<;>simp only [cJ,reduceCtorEq] at hv
 all_goals
  grind
def Qw {P:y7} {H:Hint} {o:yZ} {rs:List (Nat×Bool×Nat)} {x:X} {xs:List X} (hq:oQ P H (.ia rs x xs) o):∃c f,o.op= .call c/\c.callee= .value f/\x=aK H f/\xs=gO H c.args.toList:=by
 rcases hq with ⟨k,hk⟩ | ⟨c,f,rs',h1,h2,h3⟩ | ⟨_,_,_,_,_,_,_,h3⟩ | ⟨_,_,_,_,_,_,_,h3⟩ | ⟨_,_,_,_,_,_,h3⟩
 ·cases ho:o.op with
  | call c=>
   obtain ⟨callee,args,ts⟩:=c;simp only [aS,ho] at hk
   split at hk
   ·rename_i f;cases hm:H.mode k<;>simp only [hm,Op.ia.injEq,reduceCtorEq] at hk
    exact ⟨_,f,rfl,rfl,hk.2.1,hk.2.2⟩
   ·repeat' split at hk
    all_goals first
     | (cases hk;done)
     | (simp only [bad] at hk;cases hk;done)
     | (revert hk;generalize yt _ _=bb;intro hk;cases bb<;>simp [bad] at hk)
   ·simp only [bad] at hk;cases hk
  | binOp op t x' y ty=>
   cases op<;>simp only [aS,ho,nA,oA] at hk
   case eql=>
         repeat' split at hk
         all_goals first
          | (cases hk;done)
          | (simp only [bad] at hk;cases hk;done)
          | (cases bQ:(P.stoodInHeld t||P.eqGuardType P.depth t)<;>rw [bQ] at hk<;>simp [bad] at hk)
   case neq=>
         repeat' split at hk
         all_goals first
          | (cases hk;done)
          | (simp only [bad] at hk;cases hk;done)
          | (cases bQ:(P.stoodInHeld t||P.eqGuardType P.depth t)<;>rw [bQ] at hk<;>simp [bad] at hk)
   all_goals cases hk
  | buildSlice t n parts=>
   simp only [aS,ho] at hk
   repeat' split at hk
   all_goals first
    | (cases hk;done)
    | (simp only [bad] at hk;cases hk;done)
    | (revert hk;generalize yG _ _=bb;intro hk;cases bb<;>simp [bad] at hk)
  | makeMap t r=>
   cases r<;>simp only [aS,ho] at hk
   ·repeat' split at hk
    all_goals first
     | (cases hk;done)
     | (simp only [bad] at hk;cases hk;done)
   ·simp only [bad] at hk;cases hk
  | next x' b=>
   cases b<;>simp only [aS,ho] at hk
   ·simp only [bad] at hk;cases hk
   ·cases hk
  | _=>
   simp only [aS,ho] at hk
   (repeat' split at hk)
   all_goals first
    | contradiction
    | (cases hk;done)
    | (simp only [bad] at hk;cases hk;done)
 ·simp only [Op.ia.injEq] at h3;exact ⟨c,f,h1,h2,h3.2.1,h3.2.2⟩
 ·cases h3
 ·cases h3
 ·cases h3
def ahH {P:y7} {H:Hint} {o:yZ} {k:Nat} {rs:List (Nat×Bool×Nat)} {sz:Nat} {x y:X} (hk:Op.kC rs sz x y=aS P H k o):False:=by
 cases ho:o.op with
 | call c=>
  obtain ⟨callee,args,ts⟩:=c;simp only [aS,ho] at hk
  split at hk
  ·grind
  ·repeat' split at hk
   all_goals first
    | (cases hk;done)
    | (simp only [bad] at hk;cases hk;done)
    | (revert hk;generalize yt _ _=bb;intro hk;cases bb<;>simp [bad] at hk)
  ·simp only [bad] at hk;cases hk
 | binOp op t x' y ty=>
  cases op<;>simp only [aS,ho,nA,oA] at hk
  case eql=>
        repeat' split at hk
        all_goals first
         | (cases hk;done)
         | (simp only [bad] at hk;cases hk;done)
         | (cases bQ:(P.stoodInHeld t||P.eqGuardType P.depth t)<;>rw [bQ] at hk<;>simp [bad] at hk)
  case neq=>
        repeat' split at hk
        all_goals first
         | (cases hk;done)
         | (simp only [bad] at hk;cases hk;done)
         | (cases bQ:(P.stoodInHeld t||P.eqGuardType P.depth t)<;>rw [bQ] at hk<;>simp [bad] at hk)
  all_goals cases hk
 | buildSlice t n parts=>
  simp only [aS,ho] at hk
  repeat' split at hk
  all_goals first
   | (cases hk;done)
   | (simp only [bad] at hk;cases hk;done)
   | (revert hk;generalize yG _ _=bb;intro hk;cases bb<;>simp [bad] at hk)
 | makeMap t r=>
  cases r<;>simp only [aS,ho] at hk
  ·repeat' split at hk
   all_goals first
    | (cases hk;done)
    | (simp only [bad] at hk;cases hk;done)
  ·simp only [bad] at hk;cases hk
 | next x' b=>
  cases b<;>simp only [aS,ho] at hk
  ·simp only [bad] at hk;cases hk
  ·cases hk
 | _=>
  simp only [aS,ho] at hk
  (repeat' split at hk)
  all_goals first
   | contradiction
   | (cases hk;done)
   | (simp only [bad] at hk;cases hk;done)
def ahI {P:y7} {H:Hint} {o:yZ} {k:Nat} {rs:List (Nat×Bool×Nat)} {sz b:Nat} {x y:X} (hk:Op.kV rs sz b x y=aS P H k o):False:=by
 cases ho:o.op with
 | call c=>
  obtain ⟨callee,args,ts⟩:=c;simp only [aS,ho] at hk
  split at hk
  ·rename_i f;cases hm:H.mode k<;>simp only [hm,reduceCtorEq] at hk
  ·repeat' split at hk
   all_goals first
    | (cases hk;done)
    | (simp only [bad] at hk;cases hk;done)
    | (revert hk;generalize yt _ _=bb;intro hk;cases bb<;>simp [bad] at hk)
  ·simp only [bad] at hk;cases hk
 | binOp op t x' y ty=>
  cases op<;>simp only [aS,ho,nA,oA] at hk
  case eql=>
        repeat' split at hk
        all_goals first
         | (cases hk;done)
         | (simp only [bad] at hk;cases hk;done)
         | (cases bQ:(P.stoodInHeld t||P.eqGuardType P.depth t)<;>rw [bQ] at hk<;>simp [bad] at hk)
  case neq=>
        repeat' split at hk
        all_goals first
         | (cases hk;done)
         | (simp only [bad] at hk;cases hk;done)
         | (cases bQ:(P.stoodInHeld t||P.eqGuardType P.depth t)<;>rw [bQ] at hk<;>simp [bad] at hk)
  all_goals cases hk
 | buildSlice t n parts=>
  simp only [aS,ho] at hk
  repeat' split at hk
  all_goals first
   | (cases hk;done)
   | (simp only [bad] at hk;cases hk;done)
   | (revert hk;generalize yG _ _=bb;intro hk;cases bb<;>simp [bad] at hk)
 | makeMap t r=>
  cases r<;>simp only [aS,ho] at hk
  ·repeat' split at hk
   all_goals first
    | (cases hk;done)
    | (simp only [bad] at hk;cases hk;done)
  ·simp only [bad] at hk;cases hk
 | next x' b=>
  cases b<;>simp only [aS,ho] at hk
  ·simp only [bad] at hk;cases hk
  ·cases hk
 | _=>
  simp only [aS,ho] at hk
  (repeat' split at hk)
  all_goals first
   | contradiction
   | (cases hk;done)
   | (simp only [bad] at hk;cases hk;done)
def ast {P:y7} {H:Hint} {o:yZ} {sz:Nat} {x y:X} (hq:oQ P H (.st sz x y) o):∃t x' y',o.op= .store t x' y'/\cz P t=some sz/\x=aK H x'/\y=aK H y':=by
 obtain ⟨k,hk⟩:∃k,Op.st sz x y=aS P H k o:=by
  rcases hq with h | ⟨_,_,_,_,_,h⟩ | ⟨_,_,_,_,_,_,_,h⟩ | ⟨_,_,_,_,_,_,_,h⟩ | ⟨_,_,_,_,_,_,h⟩
  ·exact h
  ·cases h
  ·cases h
  ·cases h
  ·cases h
 cases ho:o.op with
 | call c=>
  obtain ⟨callee,args,ts⟩:=c;simp only [aS,ho] at hk
  split at hk
  ·rename_i f;cases hm:H.mode k<;>simp only [hm,reduceCtorEq] at hk
  ·repeat' split at hk
   all_goals first
    | (cases hk;done)
    | (simp only [bad] at hk;cases hk;done)
    | (revert hk;generalize yt _ _=bb;intro hk;cases bb<;>simp [bad] at hk)
  ·simp only [bad] at hk;cases hk
 | binOp op t x' y ty=>
  cases op<;>simp only [aS,ho,nA,oA] at hk
  case eql=>
        repeat' split at hk
        all_goals first
         | (cases hk;done)
         | (simp only [bad] at hk;cases hk;done)
         | (cases bQ:(P.stoodInHeld t||P.eqGuardType P.depth t)<;>rw [bQ] at hk<;>simp [bad] at hk)
  case neq=>
        repeat' split at hk
        all_goals first
         | (cases hk;done)
         | (simp only [bad] at hk;cases hk;done)
         | (cases bQ:(P.stoodInHeld t||P.eqGuardType P.depth t)<;>rw [bQ] at hk<;>simp [bad] at hk)
  all_goals cases hk
 | buildSlice t n parts=>
  simp only [aS,ho] at hk
  repeat' split at hk
  all_goals first
   | (cases hk;done)
   | (simp only [bad] at hk;cases hk;done)
   | (revert hk;generalize yG _ _=bb;intro hk;cases bb<;>simp [bad] at hk)
 | makeMap t r=>
  cases r<;>simp only [aS,ho] at hk
  ·repeat' split at hk
   all_goals first
    | (cases hk;done)
    | (simp only [bad] at hk;cases hk;done)
  ·simp only [bad] at hk;cases hk
 | next x' b=>
  cases b<;>simp only [aS,ho] at hk
  ·simp only [bad] at hk;cases hk
  ·cases hk
 | store t x' y'=>
  simp only [aS,ho] at hk
  split at hk
  ·rename_i s hs;simp only [Op.st.injEq] at hk;obtain ⟨rfl,rfl,rfl⟩:=hk;exact ⟨t,x',y',rfl,hs,rfl,rfl⟩
  ·simp only [bad] at hk;cases hk
 | _=>
  simp only [aS,ho] at hk
  (repeat' split at hk)
  all_goals first
   | contradiction
   | (cases hk;done)
   | (simp only [bad] at hk;cases hk;done)
def aaJ {P:y7} {H:Hint} {o:yZ} {rs:List (Nat×Bool×Nat)} {sz:Nat} {x y:X} (hq:oQ P H (.kC rs sz x y) o):∃t x' y',o.op= .store t x' y'/\cz P t=some sz/\x=aK H x'/\y=aK H y':=by
 rcases hq with ⟨k,hk⟩ | ⟨_,_,_,_,_,h3⟩ | ⟨t,x',y',Di,rs',h1,h2,h3⟩ | ⟨_,_,_,_,_,_,_,h3⟩ | ⟨_,_,_,_,_,_,h3⟩
 ·exact (ahH hk).elim
 ·cases h3
 ·simp only [Op.kC.injEq] at h3;obtain ⟨_,rfl,rfl,rfl⟩:=h3;exact ⟨t,x',y',h1,h2,rfl,rfl⟩
 ·cases h3
 ·cases h3
def aaK {P:y7} {H:Hint} {o:yZ} {rs:List (Nat×Bool×Nat)} {sz b:Nat} {x y:X} (hq:oQ P H (.kV rs sz b x y) o):∃k,Op.cR sz b x y=aS P H k o:=by
 rcases hq with ⟨k,hk⟩ | ⟨_,_,_,_,_,h3⟩ | ⟨_,_,_,_,_,_,_,h3⟩ | ⟨k,rs',Di,b',x',y',h1,h3⟩ | ⟨_,_,_,_,_,_,h3⟩
 ·exact (ahI hk).elim
 ·cases h3
 ·cases h3
 ·simp only [Op.kV.injEq] at h3;obtain ⟨_,rfl,rfl,rfl,rfl⟩:=h3;exact ⟨k,h1⟩
 ·cases h3
def aaL {P:y7} {H:Hint} {o:yZ} {sz b:Nat} {x y:X} (hq:oQ P H (.cR sz b x y) o):∃k,Op.cR sz b x y=aS P H k o:=by
 rcases hq with h | ⟨_,_,_,_,_,h3⟩ | ⟨_,_,_,_,_,_,_,h3⟩ | ⟨_,_,_,_,_,_,_,h3⟩ | ⟨_,_,_,_,_,_,h3⟩
 ·exact h
 ·cases h3
 ·cases h3
 ·cases h3
 ·cases h3
def ahJ {P:y7} {H:Hint} {q:Op} {o:yZ} (hq:oQ P H q o):oQ P H (iY q) o:=by
 cases h:q with
 | ia rs f xs=>
  subst h;obtain ⟨c,f',g1,g2,g3,g4⟩:=Qw hq;exact .inr (.inl ⟨c,f',[],g1,g2,by rw [g3,g4];rfl⟩)
 | kC rs sz x y=>
  subst h;obtain ⟨t,x',y',g1,g2,g3,g4⟩:=aaJ hq;refine .inl ⟨0,?_⟩;simp only [iY,aS,g1,g2,g3,g4]
 | kV rs sz b x y=>
  subst h;exact .inl (aaK hq)
 | _=>subst h;exact hq
def YZ (hC:nt O self) (hH:fj O H) {o:yZ} {q:Op} {v:AV} (hq:oQ O.P H q o) (hd:∀c,o.op≠.defer c) (hv:a7 O.prog O.aX self tm hp ct q=some (v,ao,aW))
  (ht:bT O m S w tm a.tmps) (hh:aR O m S w hp ct)
  (hn:∀u m' S' w',aR O m' S' w' ao aW->ct<=aW->ah O.ae m' S' w' v u->bZ m S w hp m' S' w' ao ct->next (a.put o.dst u) w'):o.wpIn (WF ro) 0 O.P a w next Q:=by
 have quiet:bm q<=1->o.wpIn (WF ro) 0 O.P a w next Q:=by
  intro hk;have hg:=WS hk hv hh.aP;obtain ⟨S1,g1,g2,g3,g4⟩:=LO hh hg;refine quiet_step hC hH hk hq hd hv cQ.refl (yz _) hh.aP (fun id h1 h2=>?_) (Ai (fun _ _ h=>h) g2 (fun _ _=>rfl) ht) g1 (fun u m' S' w' k1 k2 k3 k4 k5=>hn u m' S' w' k1 hg.pq k4 ((g4 ct).trans (k5.ru hg.pq)))
  cases hm:m id with
  | none=>rfl
  | some p=>have:=hh.lt id p hm;omega
 have RB:∀{q':Op},(∃k,q'=aS O.P H k o)->cJ tm hp ct q'=some (v,ao,aW)->o.wpIn (WF ro) 0 O.P a w next Q:=by
  intro q' jg hw;obtain ⟨k,rfl⟩:=jg;obtain ⟨n,u,w',m',S',h1,h2,h3,h4,h5,h6⟩:=anf hH ht hh hw;exact HW hd h1 h2 (hn u m' S' w' h3 (akT hw) h4 h6)
 have write:cJ tm hp ct q=some (v,ao,aW)->o.wpIn (WF ro) 0 O.P a w next Q:=by
  intro hw;refine RB ?_ hw;rcases hq with h | ⟨c,f,rs,_,_,rfl⟩ | ⟨_,_,_,_,_,_,_,rfl⟩ | ⟨_,_,_,_,_,_,_,rfl⟩ | ⟨_,_,_,_,_,_,rfl⟩
  ·exact h
  ·simp [cJ] at hw
  ·simp [cJ] at hw
  ·simp [cJ] at hw
  ·simp [cJ] at hw
 have heap:∀{c:tH} {f:xy} {g:Nat} {first cap:List AV},o.op= .call c->c.callee= .value f->az tm (aK H f)= .fn (.f g) first cap->
   iC O.prog O.aX self hp ct g (first++(di tm (gO H c.args.toList)++cap))=some (v,ao,aW)->o.wpIn (WF ro) 0 O.P a w next Q:=by
  intro c f g first cap ho iS hx he;obtain ⟨fi,ca,h1,h2⟩:=LM hH ht (args:=c.args) hx;refine K9 ho iS h1 (hC.heap _ _ _ _ _ _ _ he m S w _ hh h2) ?_;rintro e w' ⟨u,m',S',rfl,k1,k2,k3,k4⟩;exact ⟨u,rfl,hn u m' S' w' k1 k2 k3 k4⟩
 have round:∀{c:tH} {f:xy} {l:Nat} {x y:List AV},o.op= .call c->c.callee= .value f->az tm (aK H f)= .fn (.y l) x y->
   kJ self hp ct l (di tm (gO H c.args.toList))=some (v,ao,aW)->o.wpIn (WF ro) 0 O.P a w next Q:=by
  intro c f l x y ho iS hx he;have rf:=ck hH ht f;rw [hx] at rf;simp only [ah] at rf;obtain ⟨p,hm,hf⟩:=rf;have fQ:=Cg hH ht c.args.toList;obtain ⟨g,tmps,as_,body,h1,h2⟩:=hC.round _ _ _ _ _ _ _ he m S w (c.args.map a.eval) p hh hm (by simpa using fQ);refine akO ho iS hf h1 h2 ?_;rintro e w' ⟨u,m',S',rfl,k1,k2,k3,k4⟩;exact ⟨u,rfl,hn u m' S' w' k1 k2 k3 k4⟩
 have dyn:∀{c:tH} {f:xy},o.op= .call c->c.callee= .value f->dA O.prog O.aX self hp ct .dyn (az tm (aK H f)) (di tm (gO H c.args.toList))=some (v,ao,aW)->o.wpIn (WF ro) 0 O.P a w next Q:=by
  intro c f ho iS he;unfold dA at he
  split at he
  ·rename_i g first cap hx
   (try simp only at he)
   cases hp0:aF (first++(di tm (gO H c.args.toList)++cap)) with
   | true=>
    rw [hp0] at he;simp only [yx] at he
    cases hr:bF O.prog O.aX self g (first++(di tm (gO H c.args.toList)++cap)) with
    | none=>simp [hr] at he
    | some r=>
     simp only [hr,yd,yo] at he;obtain ⟨rfl,rfl,rfl⟩:=he;obtain ⟨fi,ca,h1,h2⟩:=LM hH ht (args:=c.args) hx;refine K9 ho iS h1 (hC.pure g _ r hr w S _ (QY hh) hh.slt (sI (fun _ h=>h) (fun _ _=>rfl) _ _ hp0 h2) hp0) ?_;rintro e w' ⟨u,S',rfl,hw,g1,g2,g3,g4⟩;obtain ⟨S2,k1,k2,k3⟩:=X3 g4 m;have hS:∀b,S b->S2 b:=fun b hb=>k1 b (g1 b hb)
     have Ka:∀b,S2 b->S b\/w.heap.size<=b:=fun b hb=>(k2 b hb).elim (g2 b) (fun h=> .inr h.1)
     have hl:∀b,S2 b->b<w'.heap.size:=fun b hb=>(k2 b hb).elim (g3 b) (fun h=>h.2)
     exact ⟨u,rfl,hn u m S2 w' (B1 hh hw hS Ka hl) (yz _) k3 (Al hh hw hS Ka)⟩
   | false=>
    rw [hp0] at he;simp only [yH] at he;exact heap ho iS hx he
  ·rename_i l x y hx;exact round ho iS hx he
  ·cases he
 cases bJ:q with
 | ia rs x xs=>
  subst bJ;simp only [a7] at hv;have key:=Qw hq;obtain ⟨c,f,ho,iS,rfl,rfl⟩:=key
  cases hc:dA O.prog O.aX self hp ct .dyn (az tm (aK H f)) (di tm (gO H c.args.toList)) with
  | none=>simp [hc] at hv
  | some r=>
   obtain ⟨v1,bj,n7⟩:=r;simp only [hc] at hv
   cases hs:lZ tm hp bj rs with
   | false=>rw [hs] at hv;cases hv
   | true=>
    rw [hs] at hv;simp only [yx,yd,yo] at hv;obtain ⟨rfl,rfl,rfl⟩:=hv;exact dyn ho iS hc
 | call md x xs=>
  subst bJ;have jg:∃k,Op.call md x xs=aS O.P H k o:=by
   rcases hq with h | ⟨c,f,rs,_,_,h⟩ | ⟨_,_,_,_,_,_,_,h⟩ | ⟨_,_,_,_,_,_,_,h⟩ | ⟨_,_,_,_,_,_,h⟩
   ·exact h
   ·cases h
   ·cases h
   ·cases h
   ·cases h
  obtain ⟨k,hk⟩:=jg
  cases md with
  | pure=>exact quiet (by simp [bm])
  | own=>exact quiet (by simp [bm])
  | heap=>
   simp only [a7] at hv;obtain ⟨c,f,ho,iS,rfl,rfl⟩:=Mc hk.symm (by rintro rfl;simp [az,dA] at hv);unfold dA at hv
   split at hv
   ·rename_i g first cap hx;exact heap ho iS hx hv
   ·rename_i l x y hx;exact round ho iS hx hv
   ·cases hv
  | dyn=>
   simp only [a7] at hv;obtain ⟨c,f,ho,iS,rfl,rfl⟩:=Mc hk.symm (by rintro rfl;simp [az,dA] at hv);exact dyn ho iS hv
 | kC rs s x y=>
  subst bJ;obtain ⟨t,x',y',g1,g2,g3,g4⟩:=aaJ hq;simp only [a7] at hv
  split at hv
  ·rename_i id off hx
   cases hf:nv tm id rs with
   | false=>rw [hf] at hv;cases hv
   | true=>
    rw [hf] at hv;simp only [yx] at hv
    exact RB (q':= .st s x y) ⟨0,by simp only [aS,g1,g2,g3,g4]⟩ hv
  ·cases hv
 | kV rs s b x y=>
  subst bJ;simp only [a7] at hv
  cases hc:cJ tm hp ct (.cR s b x y) with
  | none=>simp [hc] at hv
  | some r=>
   obtain ⟨v1,bj,n7⟩:=r;simp only [hc] at hv
   cases hs:lZ tm hp bj rs with
   | false=>rw [hs] at hv;cases hv
   | true=>
    rw [hs] at hv;simp only [yx,yd,yo] at hv;obtain ⟨rfl,rfl,rfl⟩:=hv
    exact RB (q':= .cR s b x y) (aaK hq) hc
 | st s x y=>subst bJ;exact write (by simpa only [a7] using hv)
 | oZ kk x y z=>subst bJ;exact write (by simpa only [a7] using hv)
 | pg x=>subst bJ;exact write (by simpa only [a7] using hv)
 | cR s b x y=>subst bJ;exact write (by simpa only [a7] using hv)
 | pk s x y=>subst bJ;exact write (by simpa only [a7] using hv)
 | oY k x lo hi=>subst bJ;exact quiet (by cases k<;>simp [bm])
 | len k x=>subst bJ;exact quiet (by rcases k with _ | _ | k<;>simp [bm])
 | _=>subst bJ;exact quiet (by simp [bm])
end
end
section
open Go
def oK (tm:Env) (g:Option (Nat×Bool)):Option Bool:=
 match g with
 | none=>some true
 | some (t,b)=>match aj tm t with | .bool c=>some (c==b) | .ap []=>some false | _=>none
def eP (P:aG) (L:Lib) (self:cw) (tm:Env) (hp:Hp) (ct:Nat) (r:aY):fS:=
 match oK tm r.guard with
 | some true=>a7 P L self tm hp ct r.op
 | some false=>some (.ap [],hp,ct)
 | none=>none
def Xj {P:aG} {L:Lib} {self:cw} {r:aY} {rs:List aY} {s:St}:
  dB P L self (r::rs) s=match eP P L self s.tm s.hp s.ct r with | some (v,hp,ct)=>dB P L self rs {s with tm:=put r.dst v s.tm,hp:=hp,ct:=ct} | none=>none:=by
 obtain ⟨d,g,o⟩:=r;simp only [dB,eP]
 cases g with
 | none=>rfl
 | some q=>
  obtain ⟨t,b⟩:=q;simp only [oK];generalize aj s.tm t=x
  cases x with
  | bool c=>
   simp only;cases (c==b)<;>rfl
  | ap vs=>cases vs<;>rfl
  | _=>rfl
def Z7 (ops:Array yZ) (g:Option (Nat×Bool)) (g':Option (Nat×Bool)):Prop:=
 (g=none/\g'=none)\/∃t b j,g=some (t,b)/\g'=some (j,b)/\(ops[j]?).bind (·.dst)=some t
structure ML (P:y7) (H:Hint) (ops:Array yZ) (r:aY) (o:yZ):Prop where
 op:oQ P H r.op o
 dst:r.dst=o.dst
 ok:IJ H o.dst=true
 guard:Z7 ops r.guard o.guard
def gh (P:y7) (H:Hint) (ops:Array yZ):List aY->List yZ->Prop
 | [],[]=>True
 | r::rs,o::l=>(ML P H ops r o\/(r.guard=none/\r.op=bad))/\gh P H ops rs l
 | _,_=>False
def Xk {P:y7} {H:Hint} {ops:Array yZ}:∀(l:List yZ) (k:Nat),gh P H ops (B7 P H ops l k).1 l
 | [],k=>by simp [B7,gh]
 | o::l,k=>by
  have ih:=Xk (P:=P) (H:=H) (ops:=ops) l (k+(bif Rw o then 1 else 0));simp only [B7];generalize hq:B7 P H ops l (k+(bif Rw o then 1 else 0))=q at ih;obtain ⟨l',k'⟩:=q;simp only;have zm:gh P H ops (⟨o.dst,none,bad⟩::l') (o::l):=⟨.inr ⟨rfl,rfl⟩,ih⟩
  cases hg:o.guard with
  | none=>
   simp only
   cases hd:IJ H o.dst with
   | false=>exact zm
   | true=>exact ⟨.inl ⟨.inl ⟨k,rfl⟩,rfl,hd,.inl ⟨rfl,hg⟩⟩,ih⟩
  | some p=>
   obtain ⟨j,b⟩:=p;simp only
   cases ht:(ops[j]?).bind (·.dst) with
   | none=>exact zm
   | some t=>
    simp only
    cases hd:IJ H o.dst with
    | false=>exact zm
    | true=>exact ⟨.inl ⟨.inl ⟨k,rfl⟩,rfl,hd,.inr ⟨t,b,j,rfl,hg,ht⟩⟩,ih⟩
section
variable {O:br} {H:Hint} {m:Mp} {S:Nat->Prop} {w:yi} {tm:Env} {a:Act} {hp ao:Hp} {ct aW:Nat} {self:cw} {ro:Option Nat} {Q:vW->Act->yi->Prop} {ops:Array yZ}
def Qx {d:Option Nat} {v:AV} {tm:Env} {t:Nat}:aj (put d v tm) t=if d=some t then v else aj tm t:=by
 cases d with
 | none=>simp [put]
 | some i=>
  simp only [put,aj];by_cases h:i=t
  ·subst h;simp
  ·have:yt i t=false:=by
    cases hq:yt i t with
    | false=>rfl
    | true=>exact absurd (yk hq) h
   simp [this,h]
def LP (a:Act) (d:Option Nat) (u:yh):(a.put d u).tmps.size=a.tmps.size:=by
 cases d with
 | none=>rfl
 | some i=>simp [Act.put]
def PU (a:Act) (d:Option Nat) (u:yh):(a.put d u).defers=a.defers:=by
 cases d with
 | none=>rfl
 | some i=>rfl
def Qy {a:Act} {d:Option Nat} {u:yh} {t:Nat} (hd:∀i,d=some i->i<a.tmps.size):(a.put d u).tmps.getD t undef=if d=some t then u else a.tmps.getD t undef:=by
 cases d with
 | none=>simp [Act.put]
 | some i=>
  have hi:=hd i rfl;by_cases h:i=t
  ·subst h;simp [Act.put,hi]
  ·simp only [Act.put,yd,h,xk];simp [Array.getElem?_setIfInBounds_ne h]
def Y0 {n:Nat} {d:Option Nat} (h:IJ H d=true) (hn:H.n<=n):∀i,d=some i->i<n:=by
 rintro i rfl
 have:=sR.1 h
 omega
def Qz {d:Option Nat} {v:AV} {u:yh} (ht:bT O m S w tm a.tmps) (hd:∀i,d=some i->i<a.tmps.size) (hv:ah O.ae m S w v u):bT O m S w (put d v tm) (a.put d u).tmps:=fun t=>by
 rw [Qx,Qy hd]
 split
 ·exact hv
 ·exact ht t
def X9 {o:yZ} {g:Option (Nat×Bool)} {b:Bool} (hg:Z7 ops g o.guard) (ht:∀t,t∈R7 g->ah O.ae m S w (aj tm t) (a.tmps.getD t undef)) (hw:oK tm g=some b):Region.wanted o (yielded ops a.tmps)=b:=by
 rcases hg with ⟨rfl,h2⟩ | ⟨t,c,j,rfl,h2,h3⟩
 ·simp only [oK,yd] at hw;subst hw;simp [Region.wanted,h2]
 ·simp only [oK] at hw;have h4:=ht t (by simp [R7]);simp only [Region.wanted,h2]
  split at hw
  ·rename_i d hd;rw [hd] at h4;simp only [ah] at h4;simp only [yd] at hw
   have:yielded ops a.tmps j=some d:=by
    simp only [yielded,h3,xY];have h5:a.tmps[t]? =some (.bool d):=by
     simp only [wO] at h4
     cases hq:a.tmps[t]? with
     | none=>rw [hq] at h4;simp [undef] at h4
     | some x=>rw [hq] at h4;simp at h4;rw [h4]
    rw [h5]
   rw [this,<-hw];cases d<;>cases c<;>rfl
  ·rename_i hd;rw [hd] at h4;simp only [ah,av] at h4;obtain ⟨xs,h4,h5⟩:=h4;simp only [yd] at hw;subst hw
   have:yielded ops a.tmps j=none:=by
    simp only [yielded,h3,xY];simp only [wO] at h4
    cases hq:a.tmps[t]? with
    | none=>rfl
    | some x=>rw [hq] at h4;simp at h4;rw [h4]
   rw [this];rfl
  ·cases hw
def WT {o:yZ} {q:Op} (hq:oQ O.P H q o) {r:AV×Hp×Nat} (hv:a7 O.prog O.aX self tm hp ct q=some r):∀c,o.op≠.defer c:=by
 rcases hq with ⟨k,rfl⟩ | ⟨c,f,rs,h1,_,_⟩ | ⟨_,_,_,_,_,h1,_,_⟩ | ⟨k,rs,sz,b,x,y,h1,rfl⟩ | ⟨k,sz,b,x,y,h1,rfl⟩
 ·exact ahD hv
 ·intro c' h;rw [h1] at h;cases h
 ·intro c' h;rw [h1] at h;cases h
 ·intro c' h;simp only [aS,h] at h1;simp [bad] at h1
 ·intro c' h;simp only [aS,h] at h1;simp [bad] at h1
def anh (hC:nt O self) (hH:fj O H) {i:Nat} {r:aY} {o:yZ} {v:AV} (hi:ops[i]? =some o) (hr:ML O.P H ops r o\/(r.guard=none/\r.op=bad)) (hv:eP O.prog O.aX self tm hp ct r=some (v,ao,aW))
  (ht:bT O m S w tm a.tmps) (hh:aR O m S w hp ct) (hn:H.n<=a.tmps.size) {K:Act->yi->Prop}
  (hK:∀u m' S' w',aR O m' S' w' ao aW->ct<=aW->bT O m' S' w' (put r.dst v tm) (a.put o.dst u).tmps->bZ m S w hp m' S' w' ao ct->K (a.put o.dst u) w'):wpOpIn (WF ro) 0 O.P ops Q i K a w:=by
 rcases hr with hr | ⟨h1,h2⟩
 case inr=>
  simp only [eP,h1,oK,h2,bad,a7,dA,az] at hv;cases hv
 unfold wpOpIn;simp only [hi];unfold eP at hv
 cases hw:oK tm r.guard with
 | none=>simp [hw] at hv
 | some b=>
  have UK:=X9 hr.guard (fun t _=>ht t) hw;have hd:=Y0 hr.ok hn;rw [UK]
  cases b with
  | true=>
   simp only [hw] at hv;simp only [xB];refine YZ hC hH hr.op (WT hr.op hv) hv ht hh (fun u m' S' w' k1 k2 k3 k4=>hK u m' S' w' k1 k2 ?_ k4);rw [hr.dst];exact Qz (Ai (fun id p h=>k4.old id p (hh.lt id p h) h) k4.sub (fun b hb=>k4.still b hb) ht) hd k3
  | false=>
   simp only [hw,yd,yo] at hv;obtain ⟨rfl,rfl,rfl⟩:=hv;simp only [yD,xk];refine ⟨fun _ _=>trivial,hK undef m S w hh (yz _) ?_ bZ.refl⟩;rw [hr.dst];exact Qz ht hd (by simp [ah,av,undef])
def Z8 (hC:nt O self) (hH:fj O H):∀(l:List yZ) (rs:List aY) (i:Nat) (s s':St) (a:Act) (m:Mp) (S:Nat->Prop) (w:yi),(∀j,l[j]? =ops[i+j]?)->gh O.P H ops rs l->
  dB O.prog O.aX self rs s=some s'->bT O m S w s.tm a.tmps->aR O m S w s.hp s.ct->H.n<=a.tmps.size->
  (∀a' m' S' w',aR O m' S' w' s'.hp s'.ct->s.ct<=s'.ct->bT O m' S' w' s'.tm a'.tmps->bZ m S w s.hp m' S' w' s'.hp s.ct->a'.tmps.size=a.tmps.size->a'.defers=a.defers->s'.base=s.base->Q .normal a' w')->
  wpOpsIn (WF ro) 0 O.P ops Q (List.range' i l.length) a w
 | [],rs,i,s,s',a,m,S,w,hl,hr,hv,ht,hh,hn,hQ=>by
  cases rs with
  | cons _ _=>simp [gh] at hr
  | nil=>
   simp only [dB,yd] at hv;subst hv;simp only [yI,List.range'_zero,wpOpsIn];exact hQ a m S w hh (yz _) ht bZ.refl rfl rfl rfl
 | o::l,rs,i,s,s',a,m,S,w,hl,hr,hv,ht,hh,hn,hQ=>by
  cases rs with
  | nil=>simp [gh] at hr
  | cons r rs=>
   simp only [gh] at hr;rw [Xj] at hv
   cases h1:eP O.prog O.aX self s.tm s.hp s.ct r with
   | none=>simp [h1] at hv
   | some q=>
    obtain ⟨v,bj,n7⟩:=q;simp only [h1] at hv;have hi:ops[i]? =some o:=by have:=hl 0;simpa using this.symm
    rw [yv,List.range'_succ,wpOpsIn_cons];refine anh hC hH hi hr.1 h1 ht hh hn (fun u m1 S1 w1 k1 k2 k3 k4=>?_)
    refine Z8 hC hH l rs (i+1) {s with tm:=put r.dst v s.tm,hp:=bj,ct:=n7} s' _ m1 S1 w1 (fun j=>?_) hr.2 hv k3 k1 (by rw [LP];exact hn) (fun a' m' S' w' g1 g2 g3 g4 g5 g6 g7=>?_)
    ·have:=hl (j+1)
     rw [List.getElem?_cons_succ] at this;rw [this];congr 1;omega
    ·exact hQ a' m' S' w' g1 (xg k2 g2) g3 (k4.trans (g4.ru k2)) (by rw [g5,LP]) (by rw [g6,PU]) g7
end
end
section
open Go
section
variable {ops:Array yZ}
def PF {acc:List Nat} {i:Nat}:∀{es:List Edge},uU (Ay acc es) i=true->∃e,e∈es/\Region.binds .any e=true/\(i=e.on\/uU (acc.getD e.on 0) i=true)
 | [],h=>by simp [Ay] at h
 | e::r,h=>by
  simp only [Ay] at h
  cases hb:Region.binds .any e with
  | false=>
   rw [hb] at h;obtain ⟨e',h1,h2⟩:=PF h
   grind
  | true=>
   rw [hb] at h;simp only [yx,Nat.testBit_or,tS] at h;rcases h with (h | h) | h
   ·grind
   ·grind
   ·obtain ⟨e',h1,h2⟩:=PF h
    grind
def Ya {l:List yZ} {acc:List Nat} {j:Nat} (hj:j<acc.length):(kM acc l)[j]? =acc[j]? :=by
 induction l generalizing acc with
 | nil=>rfl
 | cons o l ih=>
  simp only [kM]
  grind
def ahK {l:List yZ} {acc:List Nat} {j:Nat} {o:yZ} (h:l[j]? =some o):∃CO:List Nat,(kM acc l)[acc.length+j]? =some (Ay CO o.after.toList)/\CO.length=acc.length+j/\∀k,k<CO.length->CO[k]? =(kM acc l)[k]? :=by
 induction l generalizing acc j with
 | nil=>simp at h
 | cons x l ih=>
  cases j with
  | zero=>
   simp only [vP,yd] at h;subst h;refine ⟨acc,?_,by simp,fun k hk=>?_⟩
   ·simp only [kM];rw [Ya (by simp)]
    simp
   ·simp only [kM];rw [Ya (by rw [yR];omega),List.getElem?_append_left hk]
  | succ j=>
   obtain ⟨CO,h1,h2,h3⟩:=ih (acc:=acc++[Ay acc x.after.toList]) h;simp only [yR,yv,yI] at h1 h2;refine ⟨CO,?_,by omega,fun k hk=>?_⟩
   ·simp only [kM]
    grind
   ·simp only [kM];exact h3 k hk
def Ord (ops:Array yZ) (i j:Nat):Prop:=uU ((kM [] ops.toList).getD j 0) i=true
def RC (ops:Array yZ) (D:Nat->Prop):Prop:=∀j o,ops[j]? =some o->D j->∀e,e∈o.after->Region.binds .any e=true->D e.on
def Yb {D:Nat->Prop} (hc:RC ops D):∀(j:Nat) (o:yZ),ops[j]? =some o->(∀e,e∈o.after->Region.binds .any e=true->D e.on)->∀i,Ord ops i j->D i:=by
 intro j
 induction j using vB with
 | _ j ih=>
  intro o ho hr i hi;have iM:ops.toList[j]? =some o:=by simp_all
  obtain ⟨CO,h1,h2,h3⟩:=ahK (acc:=[]) iM;simp only [yI,yf] at h1 h2;unfold Ord at hi;rw [xz,h1,ui] at hi;obtain ⟨e,g1,g2,g3⟩:=PF hi;have he:D e.on:=hr e (by simpa using g1) g2;rcases g3 with rfl | g3
  ·grind
  ·rcases vD e.on j with aP | ji
   ·have h4:=h3 e.on (by omega);have hol:e.on<ops.size:=by
     grind
    have UG:ops[e.on]? =some ops[e.on]:=by simp_all
    refine ih e.on aP _ UG (fun e' he' bQ=>hc e.on _ UG he e' he' bQ) i ?_;unfold Ord
    grind
   ·grind
def akU {D:Nat->Prop} (hc:RC ops D) {i j:Nat} {o:yZ} (ho:ops[j]? =some o) (hj:D j) (hi:Ord ops i j):D i:=
 Yb hc j o ho (fun e he hb=>hc j o ho hj e he hb) i hi
def Wx:∀{l:List yZ} {k j:Nat} {o:yZ},Ah l k=true->l[j]? =some o->∀e,e∈o.after->Region.binds .any e=true->e.on<k+j
 | [],k,j,o,_,h=>by simp at h
 | x::l,k,j,o,hb,h=>by
  simp only [Ah,yg] at hb
  cases j with
  | zero=>
   simp only [vP,yd] at h;subst h;intro e he rX
   have:=List.all_eq_true.1 hb.1 e (by simpa using he)
   simp_all
  | succ j=>
   intro e he rX
   have:=Wx hb.2 h e he rX
   omega
end
def Ng (a b:aY) (r:List aY):Prop:=LH a b=false/\(Hg a b=false\/HG a b r=true)
def Wz {m:Nat} {b:aY}:∀{l:List aY} {k i:Nat} {a:aY},LI m b l k=true->l[i]? =some a->uU m (k+i)=true\/Ng a b (l.drop (i+1))
 | [],k,i,a,_,h=>by simp at h
 | x::l,k,i,a,hp,h=>by
  simp only [LI,yg] at hp
  cases i with
  | zero=>
   simp only [vP,yd] at h;subst h;have h1:=hp.1;simp only [tS,uL,yaC,Bool.and_eq_false_iff,Bool.not_eq_false'] at h1;rcases h1 with h1 | ⟨h1,h2⟩
   ·grind
   ·exact .inr ⟨h1,by simpa using h2⟩
  | succ i=>
   rcases Wz hp.2 h with h1 | h1
   ·grind
   ·grind
def WG:∀{l done:List aY} {ms:List Nat} {i j:Nat} {a b:aY},sP done l ms=true->(done++l)[i]? =some a->l[j]? =some b->i<done.length+j->
  ∃m,ms[j]? =some m/\(uU m i=true\/Ng a b (((done++l).take (done.length+j)).drop (i+1)))
 | [],done,ms,i,j,a,b,_,_,h,_=>by simp at h
 | x::l,done,[],i,j,a,b,hp,_,h,_=>by simp [sP] at hp
 | x::l,done,m::ms,i,j,a,b,hp,ha,h,UL=>by
  simp only [sP,yg] at hp
  cases j with
  | zero=>
   have Dj:done[i]? =some a:=by grind
   have:=Wz hp.1 Dj
   grind
  | succ j=>
   have e:done++x::l=(done++[x])++l:=by simp
   obtain ⟨m',h1,h2⟩:=WG (i:=i) (a:=a) hp.2 (by rw [<-e];exact ha) h (by simp;omega)
   grind
def KS {a b:aY} (h:LH a b=false):(∀d,a.dst=some d->d∉Cf b/\b.dst≠some d)/\(∀d,b.dst=some d->d∉Cf a):=by
 have mem:∀{i:Nat} {l:List Nat},lF i l=false->i∉l:=by
  intro i l
  induction l with
  | nil=>intro _ h;cases h
  | cons j r ih=>
   intro h hm;simp only [lF] at h
   cases hb:yt j i with
   | true=>rw [hb] at h;cases h
   | false=>
    simp_all
 simp only [LH,yaC] at h;obtain ⟨⟨h1,h2⟩,h3⟩:=h;refine ⟨fun d hd=>⟨mem (by simpa [hd,EL] using h1),fun hb=>?_⟩,fun d hd=>mem (by simpa [hd,EL] using h2)⟩;rw [hd,hb] at h3;simp [abu] at h3
def Xl {t:Nat}:∀{l:List aY},Cx t l=true->∀r,r∈l->r.dst≠some t
 | [],_,r,h=>by cases h
 | x::l,h,r,hr=>by
  simp only [Cx,yg,uL] at h;rcases wA.1 hr with rfl | hr
  ·intro hd;rw [hd] at h;simp [EL,lF] at h
  ·exact Xl h.2 r hr
def Lt {sz t:Nat} {ag:Bool}:∀{l:List (Nat×Bool×Nat)},CL sz ag t l=true->(sz,ag,t)∈l
 | [],h=>by simp [CL] at h
 | (s,g,u)::r,h=>by
  simp only [CL,tS,yg] at h;rcases h with ⟨h1,h2,h3⟩ | h
  ·simp_all
  ·exact vl _ (Lt h)
def QA:∀{a b:List Nat},cP a b=true->a=b
 | [],[],_=>rfl
 | [],_::_,h=>by simp [cP] at h
 | _::_,[],h=>by simp [cP] at h
 | x::a,y::b,h=>by
  simp only [cP,yg] at h;rw [yk h.1,QA h.2]
def aiS {a b:AV} (h:M9 a b=true):a=b:=by
 unfold M9 at h
 split at h
 ·grind
 ·grind
 ·rw [QA h]
 ·rfl
 ·rfl
 ·simp_all
 ·simp_all
 ·simp_all
 ·cases h
def PA {tm:Env} {hp ao:Hp} {sz t:Nat} {ag:Bool} {v:AV}:∀{l:List (Nat×Bool×Nat)},lZ tm hp ao l=true->(sz,ag,t)∈l->jb hp sz ag (aj tm t)=some v->jb ao sz ag (aj tm t)=some v
 | [],_,h,_=>by cases h
 | (s,g,u)::r,h,hm,hv=>by
  simp only [lZ] at h
  cases h1:jb hp s g (aj tm u) with
  | none=>simp [h1] at h
  | some x=>
   cases h2:jb ao s g (aj tm u) with
   | none=>simp [h1,h2] at h
   | some y=>
    simp only [h1,h2,yg] at h;rcases wA.1 hm with e | hm
    ·simp only [yo] at e;obtain ⟨rfl,rfl,rfl⟩:=e;rw [h1] at hv;rw [h2,<-aiS h.1,hv]
    ·exact PA h.2 hm hv
structure Nh (P:aG) (L:Lib) (run:cw) (rs:List aY) (bR:Nat->Env) (bE:Nat->Hp) (bA:Nat->Nat) (vF:Nat->AV):Prop where
 step:∀i r,rs[i]? =some r->eP P L run (bR i) (bE i) (bA i) r=some (vF i,bE (i+1),bA (i+1))
 tm:∀i r,rs[i]? =some r->bR (i+1)=put r.dst (vF i) (bR i)
def Z9 {P:aG} {L:Lib} {self:cw}:∀{rs:List aY} {s s':St},dB P L self rs s=some s'->
  ∃bR bE bA vF,Nh P L self rs bR bE bA vF/\bR 0=s.tm/\bE 0=s.hp/\bA 0=s.ct/\bR rs.length=s'.tm/\bE rs.length=s'.hp/\bA rs.length=s'.ct/\s'.base=s.base
 | [],s,s',h=>by
  simp only [dB,yd] at h;subst h;exact ⟨fun _=>s.tm,fun _=>s.hp,fun _=>s.ct,fun _=> .undef,⟨fun i r h=>by simp at h,fun i r h=>by simp at h⟩,rfl,rfl,rfl,rfl,rfl,rfl,rfl⟩
 | r::rs,s,s',h=>by
  rw [Xj] at h
  cases h1:eP P L self s.tm s.hp s.ct r with
  | none=>simp [h1] at h
  | some q=>
   obtain ⟨v,bj,n7⟩:=q;simp only [h1] at h;obtain ⟨bR,bE,bA,vF,g1,g2,g3,g4,g5,g6,g7,g8⟩:=Z9 h;refine ⟨fun i=>match i with | 0=>s.tm | i+1=>bR i,fun i=>match i with | 0=>s.hp | i+1=>bE i,fun i=>match i with | 0=>s.ct | i+1=>bA i,fun i=>match i with | 0=>v | i+1=>vF i,⟨?_,?_⟩,rfl,rfl,rfl,by simpa using g5,by simpa using g6,by simpa using g7,g8⟩
   ·intro i r' hi
    cases i with
    | zero=>
     grind
    | succ i=>exact g1.step i r' (by simpa using hi)
   ·intro i r' hi
    cases i with
    | zero=>
     grind
    | succ i=>exact g1.tm i r' (by simpa using hi)
section
variable {P:aG} {L:Lib} {self:cw} {rs:List aY} {bR:Nat->Env} {bE:Nat->Hp} {bA:Nat->Nat} {vF:Nat->AV}
def Hj (hR:Nh P L self rs bR bE bA vF) {t i:Nat}:∀(k:Nat),i+k<=rs.length->(∀j r,i<=j->j<i+k->rs[j]? =some r->r.dst≠some t)->aj (bR (i+k)) t=aj (bR i) t
 | 0,_,_=>rfl
 | k+1,hk,h=>by
  have hr:rs[i+k]? =some rs[i+k]:=by simp_all
  rw [show i+(k+1)=i+k+1 by omega,hR.tm _ _ hr,Qx,yB (h (i+k) _ (by omega) (by omega) hr)];exact Hj hR k (by omega) (fun j r h1 h2=>h j r h1 (by omega))
def Yc {r:aY} {tm:Env} {hp ao:Hp} {ct aW:Nat} {v:AV} (hk:bm r.op<=1) (hv:eP P L self tm hp ct r=some (v,ao,aW)) (aP:∀id o,an hp id=some o->id<ct):iD hp ct ao aW:=by
 unfold eP at hv
 cases hw:oK tm r.guard with
 | none=>simp [hw] at hv
 | some b=>
  cases b with
  | true=>simp only [hw] at hv;exact WS hk hv aP
  | false=>
   simp only [hw,yd,yo] at hv;obtain ⟨rfl,rfl,rfl⟩:=hv;exact iD.refl aP
def Lu (hR:Nh P L self rs bR bE bA vF) {i:Nat} (aP:∀id o,an (bE i) id=some o->id<bA i):∀(k:Nat),i+k<=rs.length->(∀j r,i<=j->j<i+k->rs[j]? =some r->bm r.op<=1)->iD (bE i) (bA i) (bE (i+k)) (bA (i+k))
 | 0,_,_=>iD.refl aP
 | k+1,hk,h=>by
  have ih:=Lu hR aP k (by omega) (fun j r h1 h2=>h j r h1 (by omega));have hr:rs[i+k]? =some rs[i+k]:=by simp_all
  exact ih.trans (Yc (h (i+k) _ (by omega) (by omega) hr) (hR.step _ _ hr) ih.lt)
end
end
section
open Go
def LQ {tm:Env} {t:Nat}:∀{l:List Nat},t∈l->aj (cK tm l) t=aj tm t
 | [],h=>by cases h
 | i::r,h=>by
  simp only [cK,aj]
  cases hb:yt i t with
  | true=>rw [yk hb];rfl
  | false=>
   rcases wA.1 h with e | h
   ·simp_all
   ·exact LQ h
def aiT {P:aG} {L:Lib} {self:cw} {tm tm':Env} {hp:Hp} {ct:Nat} {o:Op} {r:AV×Hp×Nat} (h:∀t,t∈j0 o->aj tm' t=aj tm t) (hv:a7 P L self tm hp ct o=some r):a7 P L self tm' hp ct (iY o)=some r:=by
 cases o with
 | ia rs f xs=>
  simp only [j0,wx] at h;simp only [iY,a7] at hv ⊢
  rw [dF (x:=f) fun t ht=>h t (.inl ht),BY (xs:=xs) fun t ht=>h t (.inr ht)]
  cases hc:dA P L self hp ct .dyn (az tm f) (di tm xs) with
  | none=>simp [hc] at hv
  | some q=>
   obtain ⟨v1,bj,n7⟩:=q;simp only [hc] at hv
   cases hs:lZ tm hp bj rs with
   | false=>rw [hs] at hv;cases hv
   | true=>
    rw [hs] at hv;simpa only [lZ,yx] using hv
 | kC rs sz x v=>
  simp only [iY,a7] at hv ⊢
  rw [BW (o:= .st sz x v) (tm:=tm) h]
  split at hv
  ·rename_i id off hx
   cases hf:nv tm id rs with
   | false=>rw [hf] at hv;cases hv
   | true=>rw [hf] at hv;exact hv
  ·cases hv
 | kV rs sz b x v=>
  simp only [iY,a7] at hv ⊢
  rw [BW (o:= .cR sz b x v) (tm:=tm) h]
  cases hc:cJ tm hp ct (.cR sz b x v) with
  | none=>simp [hc] at hv
  | some q=>
   obtain ⟨v1,bj,n7⟩:=q;simp only [hc] at hv
   cases hs:lZ tm hp bj rs with
   | false=>rw [hs] at hv;cases hv
   | true=>rw [hs] at hv;exact hv
 | ph sz b x v=>
  rw [<-hv];simp only [j0,wx] at h;simp only [iY,a7]
  rw [dF (x:=x) fun t ht=>h t (.inl ht),dF (x:=v) fun t ht=>h t (.inr ht)]
 | call md f xs=>
  rw [<-hv];simp only [j0,wx] at h;simp only [iY,a7]
  rw [dF (x:=f) fun t ht=>h t (.inl ht),BY (xs:=xs) fun t ht=>h t (.inr ht)]
 | st s x y=>rw [<-hv];simp only [iY,a7];exact BW h
 | oZ kk x y z=>rw [<-hv];simp only [iY,a7];exact BW h
 | pg x=>rw [<-hv];simp only [iY,a7];exact BW h
 | cR s b x y=>rw [<-hv];simp only [iY,a7];exact BW h
 | pk s x y=>rw [<-hv];simp only [iY,a7];exact BW h
 | box s x=>rw [<-hv];simp only [iY,a7];rw [G7 (hp:=hp) h]
 | mT n s z ps=>rw [<-hv];simp only [iY,a7];rw [G7 (hp:=hp) h]
 | nU s b z x y=>rw [<-hv];simp only [iY,a7];rw [G7 (hp:=hp) h]
 | zG=>exact hv
 | pc x=>rw [<-hv];simp only [iY,a7];rw [G7 (hp:=hp) h]
 | _=>rw [<-hv];simp only [iY,a7];rw [ag4 h]
def Y1 {P:aG} {L:Lib} {self:cw} {tm:Env} {hp ao:Hp} {ct aW:Nat} {q:Op} {v:AV} (hk:bm q=0\/∃sz ag x,q= .ld sz ag x) (hv:a7 P L self tm hp ct q=some (v,ao,aW)):bl tm hp q=some v/\ao=hp/\aW=ct:=by
 have fU:∀{q:Op},(match bl tm hp q with | some v=>some (v,hp,ct) | none=>(none:fS))=some (v,ao,aW)->bl tm hp q=some v/\ao=hp/\aW=ct:=by
  intro q h
  cases hm:bl tm hp q with
  | none=>simp [hm] at h
  | some r=>
   simp only [hm,yd,yo] at h;obtain ⟨rfl,rfl,rfl⟩:=h;exact ⟨rfl,rfl,rfl⟩
 rcases hk with hk | ⟨sz,ag,x,rfl⟩
 ·cases bJ:q with
  | call md f xs=>subst bJ;cases md<;>simp [bm] at hk
  | ia rs f xs=>subst bJ;simp [bm] at hk
  | kC rs s x y=>subst bJ;simp [bm] at hk
  | kV rs s b x y=>subst bJ;simp [bm] at hk
  | ph s b x y=>subst bJ;simp [bm] at hk
  | st s x y=>subst bJ;simp [bm] at hk
  | oZ kk x y z=>subst bJ;simp [bm] at hk
  | pg x=>subst bJ;simp [bm] at hk
  | cR s b x y=>subst bJ;simp [bm] at hk
  | pk s x y=>subst bJ;simp [bm] at hk
  | box s x=>subst bJ;simp [bm] at hk
  | mT n s z ps=>subst bJ;simp [bm] at hk
  | nU s b z x y=>subst bJ;simp [bm] at hk
  | zG=>subst bJ;simp [bm] at hk
  | pc x=>subst bJ;simp [bm] at hk
  | _=>exact bJ▸fU (q:=q) (by rw [bJ] at hv ⊢;simp only [a7] at hv;exact hv)
 ·exact fU (q:= .ld sz ag x) (by simp only [a7] at hv;exact hv)
section
variable {O:br} {H:Hint} {ops:Array yZ} {rs:List aY} {bR:Nat->Env} {bE:Nat->Hp} {bA:Nat->Nat} {vF:Nat->AV} {self:cw} {ro:Option Nat} {Q:vW->Act->yi->Prop}
structure re (O:br) (H:Hint) (slf:cw) (ops:Array yZ) (rs:List aY) (bR:Nat->Env) (bE:Nat->Hp) (bA:Nat->Nat) (vF:Nat->AV):Prop where
 run:Nh O.prog O.aX slf rs bR bE bA vF
 len:rs.length=ops.size
 of:∀(i:Nat) (r:aY) (o:yZ),rs[i]? =some r->ops[i]? =some o->ML O.P H ops r o
 pair:∀(i j:Nat) (a b:aY),i<j->rs[i]? =some a->rs[j]? =some b->Ord ops i j\/Ng a b ((rs.take j).drop (i+1))
 back:∀(i:Nat) (o:yZ),ops[i]? =some o->∀e,e∈o.after->Region.binds .any e=true->e.on<i
def jT (rs:List aY) (i:Nat):Prop:=∃r,rs[i]? =some r/\bm r.op=2
def RD (rs:List aY):∀(k i:Nat),i+k=rs.length->∃c,i<=c/\c<=rs.length/\(∀j,i<=j->j<c->¬jT rs j)/\(c=rs.length\/jT rs c)
 | 0,i,h=>⟨i,yz _,by omega,fun j h1 h2=>by omega,.inl (by omega)⟩
 | k+1,i,h=>by
  rcases uy (jT rs i) with hw | hw
  ·grind
  ·obtain ⟨c,h1,h2,h3,h4⟩:=RD rs k (i+1) (by omega)
   grind
def HJ {rs:List aY} {i:Nat} {r:aY} (hr:rs[i]? =some r) (hw:¬jT rs i):bm r.op<=1:=by
 have h:bm r.op≠2:=fun e=>hw ⟨r,hr,e⟩
 have:bm r.op<=2:=by
  cases r.op with
  | oY k x lo hi=>cases k<;>simp [bm]
  | len k x=>rcases k with _ | _ | k<;>simp [bm]
  | call md f xs=>cases md<;>simp [bm]
  | _=>simp [bm]
 omega
def OD (O:br) (rs:List aY) (bR:Nat->Env) (D:Nat->Prop) (m:Mp) (S:Nat->Prop) (w:yi) (a:Act):Prop:=
 ∀t,∃j,j<=rs.length/\(∀(i:Nat) (r:aY),rs[i]? =some r->r.dst=some t->(D i↔i<j))/\ah O.ae m S w (aj (bR j) t) (a.tmps.getD t undef)
def ani {D:Nat->Prop} {m:Mp} {S:Nat->Prop} {w:yi} {a:Act} {i:Nat} {r:aY} (hG:re O H self ops rs bR bE bA vF) (hT:OD O rs bR D m S w a) (hr:rs[i]? =some r) (hi:¬D i)
  (eU:∀j,Ord ops j i->D j) (gi:∀j,Ord ops i j->¬D j):∀t,t∈Cf r->ah O.ae m S w (aj (bR i) t) (a.tmps.getD t undef):=by
 intro t ht;obtain ⟨j,h1,h2,h3⟩:=hT t;have Fq:i<rs.length:=(wq.1 hr).1;have e:aj (bR j) t=aj (bR i) t:=by
  rcases Nat.le_total j i with hji | UL
  ·obtain ⟨k,rfl⟩:∃k,i=j+k:=⟨i-j,by omega⟩;refine (Hj hG.run k (by omega) (fun l rl g1 g2 hl hd=>?_)).symm;rcases hG.pair l (j+k) rl r (by omega) hl hr with ho | hf
   ·grind
   ·exact ((KS hf.1).1 t hd).1 ht
  ·obtain ⟨k,rfl⟩:∃k,j=i+k:=⟨j-i,by omega⟩;refine Hj hG.run k h1 (fun l rl g1 g2 hl hd=>?_);rcases vh g1 with rfl | g1
   ·grind
   ·rcases hG.pair i l r rl g1 hr hl with ho | hf
    ·grind
    ·exact (KS hf.1).2 t hd ht
 grind
def aaa {D D':Nat->Prop} {m m':Mp} {S S':Nat->Prop} {w w':yi} {a:Act} {i:Nat} {r:aY} {u:yh} (hG:re O H self ops rs bR bE bA vF) (hT:OD O rs bR D m S w a) (hr:rs[i]? =some r) (hi:¬D i)
  (eU:∀j,Ord ops j i->D j) (gi:∀j,Ord ops i j->¬D j) (hD:∀j,D' j↔D j\/j=i) (hm:de m m') (hS:∀b,S b->S' b) (hw:fG S w w') (hd:∀d,r.dst=some d->d<a.tmps.size)
  (hv:ah O.ae m' S' w' (vF i) u):OD O rs bR D' m' S' w' (a.put r.dst u):=by
 intro t;have Fq:i<rs.length:=(wq.1 hr).1;by_cases Kb:r.dst=some t
 ·refine ⟨i+1,Fq,fun l rl hl UM=>?_,?_⟩
  ·rw [hD];constructor
   ·rintro (h | h)
    ·rcases vD l (i+1) with g | g
     ·grind
     ·rcases hG.pair i l r rl (by omega) hr hl with ho | hf
      ·grind
      ·exact (((KS hf.1).1 t Kb).2 UM).elim
    ·omega
   ·intro h;rcases vh (yah h) with h | h
    ·grind
    ·rcases hG.pair l i rl r h hl hr with ho | hf
     ·grind
     ·exact (((KS hf.1).1 t UM).2 Kb).elim
  ·rw [hG.run.tm i r hr,Qx,Qy hd,yM Kb,yM Kb];exact hv
 ·obtain ⟨j,h1,h2,h3⟩:=hT t;refine ⟨j,h1,fun l rl hl UM=>?_,?_⟩
  ·grind
  ·rw [Qy hd,yB Kb];exact lj hm hS hw _ _ h3
def WU {tm:Env} {hp ao:Hp} {ct aW id off sz Di t:Nat} {ag:Bool} {x y:X} {v v':AV}:∀{l:List (Nat×Bool×Nat)},nv tm id l=true->(sz,ag,t)∈l->az tm x= .ptr id off->
  cJ tm hp ct (.st Di x y)=some (v',ao,aW)->jb hp sz ag (aj tm t)=some v->jb ao sz ag (aj tm t)=some v
 | [],_,h,_,_,_=>by cases h
 | (s,g,u)::r,h,hm,hx,hw,hv=>by
  simp only [nv,yg] at h;rcases wA.1 hm with e | hm
  ·simp only [yo] at e;obtain ⟨rfl,rfl,rfl⟩:=e;have h1:=h.1
   split at h1
   ·rename_i j o hj;have fM:j≠id:=by
     intro e
     simp_all
    rw [hj] at hv ⊢;simp only [cJ,hx] at hw;have key:∀ob,an (aU hp id ob) j=an hp j:=fun ob=>by rw [qM,yB (ycG fM)]
    split at hw
    ·rename_i pu ex z cs Fs;generalize (yt _ _&&yG _ _&&bK _)=bb at hw
     cases bb with
     | false=>cases hw
     | true=>
      obtain ⟨_,rfl,_⟩:=hw;simp only [jb,key] at hv ⊢;exact hv
    ·cases hw
   ·rename_i cs hj;rw [hj] at hv ⊢;simpa only [jb] using hv
   ·cases h1
  ·exact WU h.2 hm hx hw hv
def WH {D:Nat->Prop} {i c:Nat} {r:aY} {sz t:Nat} {ag:Bool} (hG:re O H self ops rs bR bE bA vF) (hr:rs[i]? =some r) (hi:¬D i) (Bu:r.guard=none/\r.op= .ld sz ag (.t t)) (hc:c<=rs.length)
  (hW:∀j,j<c->jT rs j->D j) (gi:∀j,Ord ops i j->¬D j) (aP:∀j,j<=c->∀id o,an (bE j) id=some o->id<bA j):∀k,i+1+k<=c->jb (bE (i+1+k)) sz ag (aj (bR i) t)=some (vF i)
 | 0,hk=>by
  have h1:=hG.run.step i r hr;simp only [eP,Bu.1,oK,Bu.2] at h1;obtain ⟨h2,h3,h4⟩:=Y1 (.inr ⟨_,_,_,rfl⟩) h1;simp only [bl,az] at h2;rw [Nat.add_zero,h3];exact h2
 | k+1,hk=>by
  have ih:=WH hG hr hi Bu hc hW gi aP k (by omega);have hl:i+1+k<rs.length:=by omega
  have hj:rs[i+1+k]? =some rs[i+1+k]:=by simp [hl]
  have aQ:=hG.run.step _ _ hj;rw [show i+1+(k+1)=i+1+k+1 by omega];rcases uy (jT rs (i+1+k)) with hw | hw
  ·have hD:=hW _ (by omega) hw;rcases hG.pair i (i+1+k) r _ (by omega) hr hj with ho | hf
   ·exact (gi _ ho hD).elim
   ·obtain ⟨Fp,im⟩:=hf;obtain ⟨et,h5,h6⟩:=hw;rw [hj] at h5;injection h5 with h5
    subst h5;rcases im with im | im
    ·have h1k:bm r.op=1:=by rw [Bu.2];rfl
     simp only [Hg,h1k,h6] at im;cases im
    ·unfold HG at im;simp only [Bu.1,Bu.2] at im;generalize jg:(rs[i+1+k]).op=q at im;have Sb:Cx t (r::(rs.take (i+1+k)).drop (i+1))=true->aj (bR (i+1+k)) t=aj (bR i) t:=by
      intro aue;have lR:=Xl aue;rw [show i+1+k=i+(1+k) by omega];refine Hj hG.run (1+k) (by omega) (fun l rl g1 g2 zM=>lR rl ?_);rcases vh g1 with rfl | g1
      ·rw [hr] at zM;injection zM with zM;subst zM;exact ub
      ·refine vl _ ?_
       have:((rs.take (i+1+k)).drop (i+1))[l-(i+1)]? =some rl:=by
        rw [List.getElem?_drop,List.getElem?_take_of_lt (by omega),show i+1+(l-(i+1))=l by omega];exact zM
       exact List.mem_of_getElem? this
     unfold eP at aQ
     cases hg:oK (bR (i+1+k)) (rs[i+1+k]).guard with
     | none=>simp [hg] at aQ
     | some b=>
      cases b with
      | false=>
       simp only [hg,yd,yo] at aQ;rw [<-aQ.2.1];exact ih
      | true=>
       simp only [hg,jg] at aQ;cases q<;>simp only [yD] at im
       case ia Dk fx xs=>
        simp only [yg] at im;have I5:=Lt im.1;have Bv:=Sb im.2;simp only [a7] at aQ
        cases eZ:dA O.prog O.aX self (bE (i+1+k)) (bA (i+1+k)) .dyn (az (bR (i+1+k)) fx) (di (bR (i+1+k)) xs) with
        | none=>simp [eZ] at aQ
        | some z=>
         obtain ⟨v1,bj,n7⟩:=z;simp only [eZ] at aQ
         cases hs:lZ (bR (i+1+k)) (bE (i+1+k)) bj Dk with
         | false=>rw [hs] at aQ;cases aQ
         | true=>
          rw [hs] at aQ;simp only [yx,yd,yo] at aQ;obtain ⟨_,h8,_⟩:=aQ;rw [<-h8,<-Bv];exact PA hs I5 (by rw [Bv];exact ih)
       case kC Dk Di x v=>
        simp only [yg] at im;have I5:=Lt im.1;have Bv:=Sb im.2;simp only [a7] at aQ
        split at aQ
        ·rename_i id off hx
         cases hs:nv (bR (i+1+k)) id Dk with
         | false=>rw [hs] at aQ;cases aQ
         | true=>
          rw [hs] at aQ;simp only [yx] at aQ;rw [<-Bv];exact WU hs I5 hx aQ (by rw [Bv];exact ih)
        ·cases aQ
       case kV Dk Di b x v=>
        simp only [yg] at im;have I5:=Lt im.1;have Bv:=Sb im.2;simp only [a7] at aQ
        cases eZ:cJ (bR (i+1+k)) (bE (i+1+k)) (bA (i+1+k)) (.cR Di b x v) with
        | none=>simp [eZ] at aQ
        | some z=>
         obtain ⟨v1,bj,n7⟩:=z;simp only [eZ] at aQ
         cases hs:lZ (bR (i+1+k)) (bE (i+1+k)) bj Dk with
         | false=>rw [hs] at aQ;cases aQ
         | true=>
          rw [hs] at aQ;simp only [yx,yd,yo] at aQ;obtain ⟨_,h8,_⟩:=aQ;rw [<-h8,<-Bv];exact PA hs I5 (by rw [Bv];exact ih)
  ·exact Z2 (Yc (HJ hj hw) aQ (aP _ (by omega))).le ih
structure Inv (O:br) (ops:Array yZ) (rs:List aY) (bR:Nat->Env) (bE:Nat->Hp) (bA:Nat->Nat) (D:Nat->Prop) (m0:Mp) (S0:Nat->Prop) (w0:yi) (n0:Nat) (d0:List tT) (st c:Nat) (m:Mp) (S:Nat->Prop) (w:yi) (a:Act):Prop where
 UN:st<=c
 cn:c<=rs.length
 before:∀i,i<st->jT rs i->D i
 Ft:∀i,st<=i->i<c->¬jT rs i
 cut:c=rs.length\/(jT rs c/\¬D c)
 behind:∀(i:Nat) (r:aY),c<=i->rs[i]? =some r->1<=bm r.op->¬D i
 hp:aR O m S w (bE c) (bA c)
 UO:∀id p,m id=some p->id<bA st\/∃i,st<=i/\i<c/\D i/\bA i<=id/\id<bA (i+1)
 tm:OD O rs bR D m S w a
 OE:bZ m0 S0 w0 (bE 0) m S w (bE c) (bA 0)
 ge:bA 0<=bA c
 size:a.tmps.size=n0
 defers:a.defers=d0
 Fu:st=0\/jT rs (st-1)
 Fv:∀j,j<=c->∀id o,an (bE j) id=some o->id<bA j
end
end
section
open Go
section
variable {O:br} {H:Hint} {ops:Array yZ} {rs:List aY} {bR:Nat->Env} {bE:Nat->Hp} {bA:Nat->Nat} {vF:Nat->AV} {self:cw} {ro:Option Nat} {Q:vW->Act->yi->Prop}
variable {D D':Nat->Prop} {m0:Mp} {S0:Nat->Prop} {w0:yi} {n0:Nat} {d0:List tT} {st c i:Nat} {m:Mp} {S:Nat->Prop} {w:yi} {a:Act} {r:aY} {o:yZ}
def Lv (hG:re O H self ops rs bR bE bA vF) (hI:Inv O ops rs bR bE bA D m0 S0 w0 n0 d0 st c m S w a) {x y:Nat} (hx:st<=x) (hxy:x<=y) (hy:y<=c):iD (bE x) (bA x) (bE y) (bA y):=by
 obtain ⟨k,rfl⟩:∃k,y=x+k:=⟨y-x,by omega⟩
 have:=hI.cn
 exact Lu hG.run (hI.Fv x (by omega)) k (by omega) (fun j r h1 h2 hr=>HJ hr (hI.Ft j (by omega) (by omega)))
def QB (hG:re O H self ops rs bR bE bA vF) (hI:Inv O ops rs bR bE bA D m0 S0 w0 n0 d0 st c m S w a) (hr:rs[i]? =some r) (hi:¬D i) (eU:∀j,Ord ops j i->D j) (gi:∀j,Ord ops i j->¬D j) (hD:∀j,D' j↔D j\/j=i)
  (hd:∀d,r.dst=some d->d<a.tmps.size) (hw:¬jT rs i) (zK:bm r.op=0\/i<c) {m':Mp} {S':Nat->Prop} {w':yi} {u:yh} (k1:aR O m' S' w' (bE c) (bA c)) (k2:de m m')
  (k3:∀id p,m' id=some p->m id=some p\/(st<=i/\i<c/\bA i<=id/\id<bA (i+1))) (k4:ah O.ae m' S' w' (vF i) u) (k5:bZ m S w (bE c) m' S' w' (bE c) (bA c)):
  Inv O ops rs bR bE bA D' m0 S0 w0 n0 d0 st c m' S' w' (a.put r.dst u) where
 UN:=hI.UN
 cn:=hI.cn
 before j hj Dl:=(hD j).2 (.inl (hI.before j hj Dl))
 Ft:=hI.Ft
 cut:=hI.cut.imp (fun h=>h) (fun h=>⟨h.1,fun hc=>((hD c).1 hc).elim h.2 (fun e=>hw (e▸h.1))⟩)
 behind j rj hj Dm hk Kc:=((hD j).1 Kc).elim (hI.behind j rj hj Dm hk) (fun e=>by
  subst e;rw [hr] at Dm;injection Dm with Dm
  subst Dm
  rcases zK with h | h<;>omega)
 hp:=k1
 UO id p hp:=by
  rcases k3 id p hp with h | ⟨h1,h2,h3,h4⟩
  ·rcases hI.UO id p h with h | ⟨j,g1,g2,g3,g4,g5⟩
   ·exact .inl h
   ·exact .inr ⟨j,g1,g2,(hD j).2 (.inl g3),g4,g5⟩
  ·exact .inr ⟨i,h1,h2,(hD i).2 (.inr rfl),h3,h4⟩
 tm:=aaa hG hI.tm hr hi eU gi hD k2 k5.sub (fun b hb=>k5.still b hb) hd k4
 OE:=hI.OE.trans (k5.ru hI.ge)
 ge:=hI.ge
 size:=by rw [LP];exact hI.size
 defers:=by rw [PU];exact hI.defers
 Fu:=hI.Fu
 Fv:=hI.Fv
def aab (hG:re O H self ops rs bR bE bA vF) (hI:Inv O ops rs bR bE bA D m0 S0 w0 n0 d0 st c m S w a) (hr:rs[c]? =some r) (hi:¬D c) (eU:∀j,Ord ops j c->D j) (gi:∀j,Ord ops c j->¬D j) (hD:∀j,D' j↔D j\/j=c)
  (hd:∀d,r.dst=some d->d<a.tmps.size) (hw:jT rs c) {m':Mp} {S':Nat->Prop} {w':yi} {u:yh} (k1:aR O m' S' w' (bE (c+1)) (bA (c+1))) (k2:bA c<=bA (c+1))
  (k4:ah O.ae m' S' w' (vF c) u) (k5:bZ m S w (bE c) m' S' w' (bE (c+1)) (bA c)):
  ∃c' Bp,Inv O ops rs bR bE bA D' m0 S0 w0 n0 d0 (c+1) c' m' Bp w' (a.put r.dst u):=by
 have eZ:c<rs.length:=(wq.1 hr).1;obtain ⟨c',h1,h2,h3,h4⟩:=RD rs (rs.length-(c+1)) (c+1) (by omega);obtain ⟨k,rfl⟩:∃k,c'=c+1+k:=⟨c'-(c+1),by omega⟩;have hg:∀k',k'<=k->iD (bE (c+1)) (bA (c+1)) (bE (c+1+k')) (bA (c+1+k')):=fun k' rT=>
  Lu hG.run k1.aP k' (by omega) (fun j r g1 g2 hr=>HJ hr (h3 j g1 (by omega)))
 obtain ⟨Bp,g1,g2,g3,g4⟩:=LO k1 (hg k (yz _));have hml:de m m':=fun id p h=>k5.old id p (hI.hp.lt id p h) h
 refine ⟨c+1+k,Bp,⟨by omega,h2,?_,h3,?_,?_,g1,fun id p h=> .inl (k1.lt id p h),?_,?_,?_,by rw [LP];exact hI.size,by rw [PU];exact hI.defers,.inr (by simpa using hw),?_⟩⟩
 ·intro j hj Dl;rcases vh (yah hj) with e | hj
  ·exact (hD j).2 (.inr e)
  ·rcases vD j st with g | g
   ·exact (hD j).2 (.inl (hI.before j g Dl))
   ·exact (hI.Ft j g hj Dl).elim
 ·refine h4.imp (fun h=>h) (fun h=>⟨h,fun hc=>?_⟩);obtain ⟨rc,UP,zK⟩:=h;rcases (hD _).1 hc with g | g
  ·exact hI.behind _ rc (by omega) UP (by omega) g
  ·omega
 ·intro j rj hj Dm hk Kc;rcases (hD j).1 Kc with g | g
  ·exact hI.behind j rj (by omega) Dm hk g
  ·omega
 ·exact aaa hG hI.tm hr hi eU gi hD hml (fun b hb=>g2 b (k5.sub b hb)) (fun b hb=>k5.still b hb) hd (lj (fun _ _ h=>h) g2 (fun _ _=>rfl) _ _ k4)
 ·exact (hI.OE.trans (k5.ru hI.ge)).trans (g4 (bA 0))
 ·have:=(hg k (yz _)).pq
  have:=hI.ge
  omega
 ·intro j hj;rcases vD c j with g | g
  ·obtain ⟨k',rfl⟩:∃k',j=c+1+k':=⟨j-(c+1),by omega⟩;exact (hg k' (by omega)).lt
  ·exact hI.Fv j g
def akV {q:Op} (h:bm q≠2):iY q=q:=by
 cases q<;>first
  | rfl
  | exact absurd rfl h
def Xm {x y:aY} {l:List aY} (h:Ng x y l):¬(bm x.op=2/\1<=bm y.op)/\(1<=bm x.op->bm y.op=2->x.guard=none/\∃sz ag t,x.op= .ld sz ag (.t t)):=by
 obtain ⟨_,h⟩:=h;have ex:HG x y l=true->x.guard=none/\∃sz ag t,x.op= .ld sz ag (.t t):=by
  intro he;unfold HG at he
  split at he
  ·rename_i sz ag t Dk fx xs h1 h2 h3;exact ⟨h1,sz,ag,t,h2⟩
  ·rename_i h1 h2 h3;exact ⟨h1,_,_,_,h2⟩
  ·rename_i h1 h2 h3;exact ⟨h1,_,_,_,h2⟩
  ·cases he
 have k2:∀q:Op,bm q<=2:=fun q=>by
  cases q with
  | oY k x lo hi=>cases k<;>simp [bm]
  | len k x=>rcases k with _ | _ | k<;>simp [bm]
  | call md f xs=>cases md<;>simp [bm]
  | _=>simp [bm]
 constructor
 ·rintro ⟨h1,h2⟩;rcases h with h | h
  ·have:bm y.op=1\/bm y.op=2:=by have:=k2 y.op;omega
   rcases this with e | e<;>(simp only [Hg,h1,e] at h;cases h)
  ·obtain ⟨_,sz,ag,t,e⟩:=ex h;rw [e] at h1;cases h1
 ·intro h1 h2;rcases h with h | h
  ·have:bm x.op=1\/bm x.op=2:=by have:=k2 x.op;omega
   rcases this with e | e<;>(simp only [Hg,h2,e] at h;cases h)
  ·exact ex h
def akW (hC:nt O self) (hH:fj O H) (hG:re O H self ops rs bR bE bA vF) (hn:H.n<=n0) (hI:Inv O ops rs bR bE bA D m0 S0 w0 n0 d0 st c m S w a) (hr:rs[i]? =some r) (ho:ops[i]? =some o) (hi:¬D i)
  (eU:∀j,Ord ops j i->D j) (gi:∀j,Ord ops i j->¬D j) (hD:∀j,D' j↔D j\/j=i) {K:Act->yi->Prop}
  (hK:∀st' c' m' S' w' a',Inv O ops rs bR bE bA D' m0 S0 w0 n0 d0 st' c' m' S' w' a'->K a' w'):wpOpIn (WF ro) 0 O.P ops Q i K a w:=by
 have cS:=hG.of i r o hr ho;have SO:=ani hG hI.tm hr hi eU gi;have aQ:=hG.run.step i r hr;have hd:∀d,r.dst=some d->d<a.tmps.size:=by
  rw [cS.dst];exact Y0 cS.ok (by rw [hI.size];exact hn)
 have kW:=hI.UN;have ji:1<=bm r.op->i<=c:=by
  intro hk;rcases vD c i with UQ | UQ
  ·have Fq:i<rs.length:=(wq.1 hr).1;rcases hI.cut with h | ⟨⟨rc,UP,zK⟩,JZ⟩
   ·omega
   ·rcases hG.pair c i rc r UQ UP hr with h | h
    ·exact (JZ (eU c h)).elim
    ·exact ((Xm h).1 ⟨zK,hk⟩).elim
  ·exact UQ
 have hwc:jT rs i->i=c:=by
  intro hw;obtain ⟨et,h1,h2⟩:=hw;rw [hr] at h1;injection h1 with h1
  subst h1;have h3:=ji (by omega);rcases vh h3 with e | h3
  ·exact e
  ·rcases vD i st with g | g
   ·exact (hi (hI.before i g ⟨r,hr,h2⟩)).elim
   ·exact (hI.Ft i g h3 ⟨r,hr,h2⟩).elim
 have aP:1<=bm r.op->¬jT rs i->i<c:=by
  intro hk hw;rcases vh (ji hk) with e | h
  ·subst e;rcases hI.cut with h | h
   ·have Fq:i<rs.length:=(wq.1 hr).1;omega
   ·exact (hw h.1).elim
  ·exact h
 have zK:¬jT rs i->bm r.op=0\/i<c:=fun hw=>by
  rcases xn (bm r.op) with h | h
  ·exact .inl h
  ·exact .inr (aP h hw)
 unfold wpOpIn;simp only [ho];unfold eP at aQ
 cases OF:oK (bR i) r.guard with
 | none=>simp [OF] at aQ
 | some b=>
  have UK:=X9 cS.guard (fun t ht=>SO t (by simp [Cf,ht])) OF;rw [UK]
  cases b with
  | false=>
   simp only [OF,yd,yo] at aQ;obtain ⟨hv,hh,hc⟩:=aQ;simp only [yD,xk];refine ⟨fun _ _=>trivial,?_⟩;have dU:∀m S w,ah O.ae m S w (vF i) undef:=fun m S w=>by rw [<-hv];simp [ah,av,undef]
   rw [<-cS.dst];rcases uy (jT rs i) with hw | hw
   ·have e:=hwc hw;subst e;obtain ⟨c',Bp,h⟩:=aab hG hI hr hi eU gi hD hd hw (m':=m) (S':=S) (w':=w) (u:=undef) (by rw [<-hh,<-hc];exact hI.hp) (by omega) (dU _ _ _) (by rw [<-hh];exact bZ.refl)
    exact hK _ _ _ _ _ _ h
   ·exact hK _ _ _ _ _ _ (QB hG hI hr hi eU gi hD hd hw (zK hw) (m':=m) (S':=S) (w':=w) (u:=undef) hI.hp de.refl (fun _ _ h=> .inl h) (dU _ _ _) bZ.refl)
  | true=>
   simp only [OF] at aQ;simp only [xB];have lR:=WT cS.op aQ;have OG:bT O m S w (cK (bR i) (j0 r.op)) a.tmps:=fun t=>by
    rcases uy (t∈j0 r.op) with h | h
    ·rw [LQ h];exact SO t (by simp [Cf,h])
    ·have:aj (cK (bR i) (j0 r.op)) t= .undef:=by
      clear SO aQ;revert h;generalize j0 r.op=l;intro h
      induction l with
      | nil=>rfl
      | cons x l ih=>
       simp only [cK,aj];have hx:yt x t=false:=by
        cases hq:yt x t with
        | false=>rfl
        | true=>exact absurd (by rw [yk hq];exact ub) h
       rw [hx];exact ih (fun h'=>h (vl _ h'))
     rw [this];simp only [ah]
   have Dp:a7 O.prog O.aX self (cK (bR i) (j0 r.op)) (bE i) (bA i) (iY r.op)=some (vF i,bE (i+1),bA (i+1)):=
    aiT (fun t ht=>LQ ht) aQ
   have aaM:¬jT rs i->iY r.op=r.op:=fun hw=>akV (fun h=>hw ⟨r,hr,h⟩)
   have now:¬jT rs i->bl (cK (bR i) (j0 r.op)) (bE c) r.op=some (vF i)->Oper.wpIn (WF ro) 0 O.P o a w K Q:=by
    intro hw fU;have jg:∃k,r.op=aS O.P H k o:=by
     rcases cS.op with h | ⟨cc,f,rr,_,_,h⟩ | ⟨_,_,_,_,_,_,_,h⟩ | ⟨_,_,_,_,_,_,_,h⟩ | ⟨_,_,_,_,_,_,h⟩
     ·exact h
     ·rw [h] at fU;simp [bl] at fU
     ·rw [h] at fU;simp [bl] at fU
     ·rw [h] at fU;simp [bl] at fU
     ·rw [h] at fU;simp [bl] at fU
    obtain ⟨k,hk⟩:=jg;rw [hk] at fU;rw [hk] at OG;obtain ⟨u,h1,h2⟩:=ZV hH OG hI.hp fU;refine HW lR h1 (.inl rfl) ?_;rw [<-cS.dst];exact hK _ _ _ _ _ _ (QB hG hI hr hi eU gi hD hd hw (zK hw) hI.hp de.refl (fun _ _ h=> .inl h) h2 bZ.refl)
   rcases uy (jT rs i) with hw | hw
   ·have e:=hwc hw;subst e;refine YZ hC hH (ahJ cS.op) lR Dp OG hI.hp (fun u m' S' w' k1 k2 k3 k4=>?_);rw [<-cS.dst];obtain ⟨c',Bp,h⟩:=aab hG hI hr hi eU gi hD hd hw k1 k2 k3 k4;exact hK _ _ _ _ _ _ h
   ·rcases xn (bm r.op) with hk | hk
    ·have Dp:=aaM hw▸Dp;obtain ⟨h1,_,_⟩:=Y1 (.inl hk) Dp;exact now hw (by rw [aiK hk (bE c) (bE i)];exact h1)
    ·have Fj:=aP hk hw;rcases vD i st with SP | SP
     ·
      rcases hI.Fu with h0 | h0
      ·omega
      ·have bj:D (st-1):=hI.before _ (by omega) h0;have fM:i≠st-1:=fun e=>hi (e▸bj)
       obtain ⟨rp,hrp,hkp⟩:=h0;rcases hG.pair i (st-1) r rp (by omega) hr hrp with h | h
       ·exact (gi _ h bj).elim
       ·obtain ⟨hg,sz,ag,t,jg⟩:=(Xm h).2 hk hkp;have hl:=WH (c:=c) hG hr hi ⟨hg,jg⟩ hI.cn (fun j hj Dl=>by
         rcases vD j st with g | g
         ·exact hI.before j g Dl
         ·exact (hI.Ft j g hj Dl).elim) gi hI.Fv (c-(i+1)) (by omega)
        rw [show i+1+(c-(i+1))=c by omega] at hl;refine now hw ?_;rw [jg];simp only [bl,az];rw [LQ (by simp [j0,iX])];exact hl
     ·have ik:=Lv hG hI (x:=i+1) (y:=c) (by omega) Fj (yz _);have Kd:=Lv hG hI (x:=st) (y:=i) (yz _) SP (by omega)
      refine quiet_step (Hq:=bE c) (cH:=bA c) hC hH (HJ hr hw) cS.op lR (aaM hw▸Dp) ik.le ik.pq (hI.Fv i (by omega)) ?_ OG hI.hp (fun u m' S' w' k1 k2 k3 k4 k5=>?_)
      ·intro id h1 h2
       cases hm:m id with
       | none=>rfl
       | some p=>
        rcases hI.UO id p hm with h | ⟨j,q1,q2,q3,q4,q5⟩
        ·have:=Kd.pq;omega
        ·rcases Nat.lt_trichotomy j i with g | g | g
         ·have:=(Lv hG hI (x:=j+1) (y:=i) (by omega) g (by omega)).pq;omega
         ·subst g;exact (hi q3).elim
         ·have:=(Lv hG hI (x:=i+1) (y:=j) (by omega) g (by omega)).pq;omega
      ·rw [<-cS.dst];exact hK _ _ _ _ _ _ (QB hG hI hr hi eU gi hD hd hw (.inr Fj) k1 k2 (fun id p h=>(k3 id p h).imp (fun h=>h) (fun h=>⟨SP,Fj,h.1,h.2⟩)) k4 k5)
def left (n:Nat) (listed:Array Bool):Nat:=(List.range n).countP fun i=> !listed.getD i false
def akX {n:Nat} {listed:Array Bool} {i:Nat} (hi:i<n) (hs:listed.size=n) (hl:listed.getD i true=false):left n (listed.setIfInBounds i true)+1=left n listed:=by
 have key:∀(l:List Nat),l.Nodup->(i∈l->(l.countP fun j=> !(listed.setIfInBounds i true).getD j false)+1=l.countP fun j=> !listed.getD j false)/\(i∉l->(l.countP fun j=> !(listed.setIfInBounds i true).getD j false)=l.countP fun j=> !listed.getD j false):=by
  intro l
  induction l with
  | nil=>intro _;exact ⟨fun h=>(by cases h),fun _=>rfl⟩
  | cons x l ih=>
   intro lR;have hx:x≠i->(listed.setIfInBounds i true).getD x false=listed.getD x false:=fun h=>getD_set_ne false (ycG h)
   refine ⟨fun hm=>?_,fun hm=>?_⟩
   ·rw [ybr,ybr];by_cases e:x=i
    ·simp_all
    ·grind
   ·grind
 exact (key _ List.nodup_range).1 (List.mem_range.2 hi)
def aiU {n:Nat} {listed:Array Bool} (h:left n listed=0):∀i,i<n->listed.getD i false=true:=by
 unfold left at h
 simp_all
def aiV {listed:Array Bool} (hs:listed.size=ops.size) (hb:∀(i:Nat) (o:yZ),ops[i]? =some o->∀e,e∈o.after->Region.binds .any e=true->e.on<i) (h:Region.ready .any ops listed=[]):∀i,i<ops.size->listed.getD i false=true:=by
 intro i
 induction i using vB with
 | _ i ih=>
  intro hi
  cases hq:listed.getD i false with
  | true=>rfl
  | false=>
   have:i∈Region.ready .any ops listed:=by
    refine mem_ready.2 ⟨?_,ops[i],by simp [hi],fun e he rX=>?_⟩
    ·have aP:i<listed.size:=by omega
     simp only [wO,aP,Array.getElem?_eq_getElem,ui] at hq ⊢;exact hq
    ·have:=hb i ops[i] (by simp [hi]) e he rX
     exact ih e.on this (by omega)
   rw [h] at this;cases this
def anj (hG:re O H self ops rs bR bE bA vF) (hI:Inv O ops rs bR bE bA D m0 S0 w0 n0 d0 st c m S w a) (jA:∀i,i<rs.length->D i):
  aR O m S w (bE rs.length) (bA rs.length)/\bT O m S w (bR rs.length) a.tmps/\bZ m0 S0 w0 (bE 0) m S w (bE rs.length) (bA 0)/\bA 0<=bA rs.length:=by
 have hc:c=rs.length:=by
  rcases hI.cut with h | ⟨⟨r,h1,_⟩,h2⟩
  ·grind
  ·grind
 subst hc;refine ⟨hI.hp,fun t=>?_,hI.OE,hI.ge⟩;obtain ⟨j,h1,h2,h3⟩:=hI.tm t;obtain ⟨k,hk⟩:∃k,rs.length=j+k:=⟨rs.length-j,by omega⟩
 have:=Hj (t:=t) (i:=j) hG.run k (by omega) (fun l r g1 g2 hl hd=>by
  have:=(h2 l r hl hd).1 (jA l (wq.1 hl).1)
  omega)
 grind
def apC (hC:nt O self) (hH:fj O H) (hG:re O H self ops rs bR bE bA vF) (hn:H.n<=n0)
  (hQ:∀a' m' S' w',aR O m' S' w' (bE rs.length) (bA rs.length)->bA 0<=bA rs.length->bT O m' S' w' (bR rs.length) a'.tmps->bZ m0 S0 w0 (bE 0) m' S' w' (bE rs.length) (bA 0)->a'.tmps.size=n0->a'.defers=d0->Q .normal a' w'):
  ∀(bi:Nat) (listed:Array Bool) (st c:Nat) (m:Mp) (S:Nat->Prop) (w:yi) (a:Act),listed.size=ops.size->left ops.size listed=bi->RC ops (fun i=>listed.getD i false=true)->
   Inv O ops rs bR bE bA (fun i=>listed.getD i false=true) m0 S0 w0 n0 d0 st c m S w a->wpAnyIn (WF ro) 0 O.P .any ops Q bi listed a w:=by
 have fin:∀(listed:Array Bool) (st c:Nat) (m:Mp) (S:Nat->Prop) (w:yi) (a:Act),Inv O ops rs bR bE bA (fun i=>listed.getD i false=true) m0 S0 w0 n0 d0 st c m S w a->(∀i,i<ops.size->listed.getD i false=true)->Q .normal a w:=by
  intro listed st c m S w a hI jA;obtain ⟨h1,h2,h3,h4⟩:=anj hG hI (fun i hi=>jA i (by rw [<-hG.len];exact hi))
  exact hQ a m S w h1 h4 h2 h3 hI.size hI.defers
 intro bi
 induction bi with
 | zero=>
  intro listed st c m S w a hs hl hc hI;have jA:=aiU hl;refine ⟨?_,fin listed st c m S w a hI jA⟩;rw [List.eq_nil_iff_forall_not_mem];intro i hm;obtain ⟨h1,o,ho,_⟩:=mem_ready.1 hm
  grind
 | succ bi ih=>
  intro listed st c m S w a hs hl hc hI;refine ⟨fun h=>fin listed st c m S w a hI (aiV hs hG.back h),fun i hm=>?_⟩;obtain ⟨h1,o,ho,h2⟩:=mem_ready.1 hm;have hi:i<ops.size:=(xv.1 ho).1;have hr:rs[i]? =some (rs[i]'(by rw [hG.len];exact hi)):=by simp [hG.len,hi]
  have aP:i<listed.size:=by omega
  have hni:¬listed.getD i false=true:=by
   grind
  have hD:∀j,(listed.setIfInBounds i true).getD j false=true↔listed.getD j false=true\/j=i:=by
   intro j;by_cases e:j=i
   ·simp_all
   ·rw [getD_set_ne false (ycG e)];simp [e]
  refine akW hC hH hG hn hI hr ho hni (Yb hc i o ho h2) (fun j hj Kc=>?_) hD (fun st' c' m' S' w' a' UR=>ih (listed.setIfInBounds i true) st' c' m' S' w' a' (by simp [hs]) ?_ ?_ UR)
  ·have hjl:j<ops.size:=by
    grind
   exact hni (akU hc (show ops[j]? =some ops[j] by simp [hjl]) Kc hj)
  ·have:=akX hi hs h1
   omega
  ·intro j oj hoj hj e he hb;rw [hD];rcases (hD j).1 hj with g | g
   ·exact .inl (hc j oj hoj g e he hb)
   ·grind
end
end
section
open Go
def ahL {F:Fence} {n:Nat} {P:y7} {Q:vW->Act->yi->Prop} {a:Act} {w:yi} {c:wS} (h:c.wpIn F n P Q a w) (hg:∀l a w,¬Q (.goto l) a w):(Code.scope c).wpIn F n P Q a w:=by
 intro b k cs cS hb hr;have h0:(lone (b.atR a (.code (.scope c)::k)) cs w).fenced P F:=fenced_calm hb hr rfl;have s0:step P (lone (b.atR a (.code (.scope c)::k)) cs w)= .next (lone (b.atR a (.code c:: .inScope c::k)) cs w):=step_lone_go (by simp [stepG,stepG.exec,Frame.atR]);obtain ⟨e,a₁,w₁,hq,CM⟩:=h b (.inScope c::k) cs cS hb hr;have hx:∀id,exitTo id (.inScope c::k)=exitTo id k:=fun id=>by simp [exitTo]
 cases e with
 | normal=>
  have s1:step P (lone (b.atR a₁ (.inScope c::k)) cs w₁)= .next (lone (b.atR a₁ k) cs w₁):=step_lone_go (by simp [stepG,stepG.exec,Frame.atR]);exact ⟨.normal,a₁,w₁,hq,.head h0 s0 (StepsIn.trans CM (.one (fenced_calm hb hr rfl) s1))⟩
 | exit id=>
  exact ⟨.exit id,a₁,w₁,hq,fun k' hk=> .head h0 s0 (CM.1 k' (by rw [hx];exact hk)),fun bC hk=>let ⟨k₁,h1,h2⟩:=CM.2 bC (by rw [hx];exact hk);⟨k₁,h1,.head h0 s0 h2⟩⟩
 | goto l=>exact (hg _ _ _ hq).elim
 | ret=>exact ⟨_,a₁,w₁,hq,.of_steps (.one h0 s0) CM⟩
 | panic ch=>exact ⟨_,a₁,w₁,hq,.of_steps (.one h0 s0) CM⟩
 | outgrown=>exact ⟨_,a₁,w₁,hq,.of_steps (.one h0 s0) CM⟩
def p7:Ex->vW
 | .normal=> .normal
 | .ret=> .ret
 | .exit id=> .exit id
def Marks (lo:Nat) (S:Nat->Prop) (w:yi) (ds:List tT):Prop:=∃rs:List Nat,ds=rs.map (fun r=>{target:= .collected r,args:=#[]})/\rs.Nodup/\
 ∀r,r∈rs->w.heap[r]? =some (.deferred (some []))/\¬S r/\lo<=r
def sX (ro:Option Nat) (w:yi):Prop:=∀l,ro=some l->∃r:uv,w.heap[l]? =some (.loop r)
section
variable {O:br} {m:Mp} {S:Nat->Prop} {w:yi} {hp:Hp} {ct:Nat}
def Y2 (hh:aR O m S w hp ct) {b:Nat} (h:dX m hp b):∀x,w.heap[b]?≠some (.deferred x):=by
 intro x hx;obtain ⟨id,o,p,h1,h2,rfl⟩:=h;have h3:=hh.obj id o p h1 h2
 cases o with
 | cells rw pu ex sz cs=>obtain ⟨q,arr,t,g1,g2,_⟩:=h3;rw [h2] at g1;injection g1 with g1;subst g1;rw [hx] at g2;cases g2
 | mp rw ks vs=>obtain ⟨q,es,clock,g1,g2,_⟩:=h3;rw [h2] at g1;injection g1 with g1;subst g1;rw [hx] at g2;cases g2
 | si s pos=>obtain ⟨q,t,g1,g2,_⟩:=h3;rw [h2] at g1;injection g1 with g1;subst g1;rw [hx] at g2;cases g2
 | lp tm ps as_ body st pe=>obtain ⟨q,l,hi,g1,g2,_⟩:=h3;rw [h2] at g1;injection g1 with g1;subst g1;rw [hx] at g2;cases g2
def Aj (hh:aR O m S w hp ct) {m':Mp} {S':Nat->Prop} {w':yi} {ao:Hp} {base lo:Nat} (hf:bZ m S w hp m' S' w' ao base) {ds:List tT} (h:Marks lo S w ds):Marks lo S' w' ds:=by
 obtain ⟨rs,h1,h2,h3⟩:=h;refine ⟨rs,h1,h2,fun r hr=>?_⟩;obtain ⟨this,h4,h5⟩:=h3 r hr;have aP:=(xv.1 this).1;have n5:¬dX m hp r:=fun ho=>Y2 hh ho _ this
 refine ⟨(hf.same r aP n5).trans this,fun hs=>?_,h5⟩;rcases hf.new r hs with h | h | h
 ·grind
 ·grind
 ·omega
def Lw {m':Mp} {S':Nat->Prop} {w':yi} {ao:Hp} {base:Nat} {ro:Option Nat} (hf:bZ m S w hp m' S' w' ao base) (h:sX ro w):sX ro w':=fun l hl=>
 let ⟨r,hr⟩:=h l hl
 hf.loops l r hr
def eG (O:br) (m:Mp) (S:Nat->Prop) (w:yi) (s:St) (ex:Ex) (s':St) (n lo:Nat) (e:vW) (a':Act) (w':yi):Prop:=
 e=p7 ex/\∃m' S',bT O m' S' w' s'.tm a'.tmps/\aR O m' S' w' s'.hp s'.ct/\s'.base=s.base/\s.base<=s'.ct/\bZ m S w s.hp m' S' w' s'.hp s.base/\a'.tmps.size=n/\Marks lo S' w' a'.defers
def AQ (O:br) (h:Nat) (c:wS) (s:St) (ex:Ex) (s':St):Prop:=
 ∀(ro:Option Nat) (lo:Nat) (m:Mp) (S:Nat->Prop) (w:yi) (a:Act),sX ro w->bT O m S w s.tm a.tmps->aR O m S w s.hp s.ct->s.base<=s.ct->(O.hint h).n<=a.tmps.size->O.w0.heap.size<=lo->lo<=w.heap.size->Marks lo S w a.defers->
  c.wpIn (WF ro) 0 O.P (eG O m S w s ex s' a.tmps.size lo) a w
structure gN (O:br):Prop where
 hint:∀h,fj O (O.hint h)
 mixed:O.P.follows .mixedOrders=true
 prog:∀n F,O.prog n=some F->∃fn,O.P.funcs[O.ae n]? =some fn/\Ec O.P (O.hint n) fn=some F/\fn.name≠ "runtime.NumGoroutine"
 aX:∀n sp vals r,O.aX.pure n=some sp->sp vals=some r->ep O n vals r
 EM:∀n sp hp ct vals v ao aW,O.aX.heap n=some sp->sp hp ct vals=some (v,ao,aW)->AP O n hp ct vals v ao aW
def Hw {P:y7} {H:Hint} {ops:Array yZ}:∀(rs:List aY) (l:List yZ) (done:List aY) (ms:List Nat),gh P H ops rs l->gh P H ops (mQ done rs ms) l
 | [],l,done,ms,h=>by
  cases ms<;>simpa only [mQ] using h
 | r::rs,[],done,ms,h=>by simp [gh] at h
 | r::rs,o::l,done,[],h=>by
  obtain ⟨d,g,op⟩:=r;cases op<;>simpa only [mQ] using h
 | r::rs,o::l,done,m::ms,h=>by
  simp only [gh] at h;obtain ⟨h1,h2⟩:=h;obtain ⟨d,g,op⟩:=r
  cases op with
  | ia Dk f xs=>
   simp only [mQ,gh];refine ⟨?_,Hw rs l _ ms h2⟩;rcases h1 with h1 | ⟨_,h1⟩
   ·refine .inl ⟨?_,h1.dst,h1.ok,h1.guard⟩;obtain ⟨c,f',g1,g2,g3,g4⟩:=Qw h1.op;rw [g3,g4];exact .inr (.inl ⟨c,f',_,g1,g2,rfl⟩)
   ·simp [bad] at h1
  | st sz x y=>
   simp only [mQ,gh];refine ⟨?_,Hw rs l _ ms h2⟩;rcases h1 with h1 | ⟨_,h1⟩
   ·refine .inl ⟨?_,h1.dst,h1.ok,h1.guard⟩;unfold stOp
    split
    ·exact h1.op
    ·obtain ⟨t,x',y',g1,g2,g3,g4⟩:=ast h1.op;exact .inr (.inr (.inl ⟨t,x',y',sz,_,g1,g2,by rw [g3,g4]⟩))
   ·simp [bad] at h1
  | cR sz b x y=>
   simp only [mQ,gh];refine ⟨?_,Hw rs l _ ms h2⟩;rcases h1 with h1 | ⟨_,h1⟩
   ·refine .inl ⟨?_,h1.dst,h1.ok,h1.guard⟩;unfold acT
    split
    ·exact h1.op
    ·obtain ⟨k,hk⟩:=aaL h1.op;exact .inr (.inr (.inr (.inl ⟨k,_,sz,b,x,y,hk,rfl⟩)))
   ·simp [bad] at h1
  | _=>
   simp only [mQ,gh];exact ⟨h1,Hw rs l _ ms h2⟩
def Y3 {P:y7} {H:Hint} {ops:Array yZ}:∀(rs:List aY) (l:List yZ) (done:List aY),gh P H ops rs l->gh P H ops (EC done rs) l
 | [],[],_,h=>h
 | [],_::_,_,h=>by simp [gh] at h
 | r::rs,[],done,h=>by simp [gh] at h
 | r::rs,o::l,done,h=>by
  simp only [gh] at h;obtain ⟨h1,h2⟩:=h;simp only [EC,gh];refine ⟨?_,Y3 rs l _ h2⟩;obtain ⟨d,g,op⟩:=r
  cases op with
  | cR sz b x y=>
   simp only
   cases aaH done x with
   | false=>exact h1
   | true=>
    simp only [yx];rcases h1 with h1 | ⟨_,h1⟩
    ·refine .inl ⟨?_,h1.dst,h1.ok,h1.guard⟩;obtain ⟨k,hk⟩:=aaL h1.op;exact .inr (.inr (.inr (.inr ⟨k,sz,b,x,y,hk,rfl⟩)))
    ·simp [bad] at h1
  | _=>exact h1
end
section
variable {O:br} {self:cw}
def Y4 {P:y7} {H:Hint} {ops:Array yZ}:∀{rs:List aY} {l:List yZ},gh P H ops rs l->rs.length=l.length/\∀(i:Nat) (r:aY) (o:yZ),rs[i]? =some r->l[i]? =some o->ML P H ops r o\/(r.guard=none/\r.op=bad)
 | [],[],_=>⟨rfl,fun i r o h=>by simp at h⟩
 | [],_::_,h=>by simp [gh] at h
 | _::_,[],h=>by simp [gh] at h
 | r::rs,o::l,h=>by
  obtain ⟨h1,h2⟩:=Y4 h.2;refine ⟨by simp [h1],fun i r' o' hr ho=>?_⟩
  cases i with
  | zero=>simp at hr ho;subst hr;subst ho;exact h.1
  | succ i=>exact h2 i r' o' (by simpa using hr) (by simpa using ho)
def aiW {m:Mp} {S:Nat->Prop} {w:yi} {hp:Hp} {ct:Nat} (hh:aR O m S w hp ct):Calm w {w with drawn:=w.drawn+1}:=⟨rfl,rfl,rfl,yz _,fun _ _=>rfl⟩
def apD (hO:gN O) (hC:nt O self) (h:Nat) (id:Nat) (ops:Array yZ) (draw:Bool) (k:Nat) {s s':St} (hv:dB O.prog O.aX self (L5 O.P (O.hint h) ops draw k).1 s=some s'):AQ O h (.region id ops draw) s .normal s':=by
 intro ro lo m S w a cS ht hh hb hn aZ fb cI;unfold L5 at hv;have OH:=Xk (P:=O.P) (H:=O.hint h) (ops:=ops) ops.toList k;generalize hq:B7 O.P (O.hint h) ops ops.toList k=q at hv OH;obtain ⟨l,k'⟩:=q;simp only at hv OH;have post:∀{a':Act} {m':Mp} {S':Nat->Prop} {w':yi},aR O m' S' w' s'.hp s'.ct->s.ct<=s'.ct->bT O m' S' w' s'.tm a'.tmps->bZ m S w s.hp m' S' w' s'.hp s.ct->a'.tmps.size=a.tmps.size->a'.defers=a.defers->s'.base=s.base->eG O m S w s .normal s' a.tmps.size lo .normal a' w':=by
  intro a' m' S' w' h1 h2 h3 h4 h5 h6 h7;exact ⟨rfl,m',S',h3,h1,h7,by omega,h4.ru hb,h5,by rw [h6];exact Aj hh h4 cI⟩
 cases draw with
 | false=>
  simp only [yH] at hv;refine wpIn_region ?_;rw [List.range_eq_range'];have hl:ops.size=ops.toList.length:=by simp
  rw [hl];exact Z8 hC (hO.hint h) ops.toList l 0 s s' a m S w (fun j=>by simp) OH hv ht hh hn (fun a' m' S' w' h1 h2 h3 h4 h5 h6 h7=>post h1 h2 h3 h4 h5 h6 h7)
 | true=>
  simp only [yx] at hv;have Bw:∃rs,(Ah ops.toList 0&&sP [] rs (kM [] ops.toList))=true/\gh O.P (O.hint h) ops rs ops.toList/\dB O.prog O.aX self rs s=some s':=by
   have Ni:=Hw l ops.toList [] (kM [] ops.toList) OH
   cases nc:(Ah ops.toList 0&&sP [] (mQ [] l (kM [] ops.toList)) (kM [] ops.toList)) with
   | true=>
    rw [nc] at hv;exact ⟨_,nc,Ni,hv⟩
   | false=>
    rw [nc] at hv;simp only [yH] at hv
    cases SQ:(Ah ops.toList 0&&sP [] (EC [] (mQ [] l (kM [] ops.toList))) (kM [] ops.toList)) with
    | true=>
     rw [SQ] at hv;exact ⟨_,SQ,Y3 _ _ _ Ni,hv⟩
    | false=>
     rw [SQ] at hv;simp [dB,bad,a7,dA,az] at hv
  clear hv;obtain ⟨rs,nc,Ni,hv⟩:=Bw
  ·simp only [yg] at nc;obtain ⟨hlen,an⟩:=Y4 Ni;obtain ⟨bR,bE,bA,vF,hR,e1,e2,e3,e4,e5,e6,e7⟩:=Z9 hv;have hG:re O (O.hint h) self ops rs bR bE bA vF:=by
    refine ⟨hR,by rw [hlen];simp,fun i r o hr ho=>?_,fun i j x y UL hx hy=>?_,fun i o ho e he hbd=>?_⟩
    ·rcases an i r o hr (by simpa using ho) with g | ⟨g1,g2⟩
     ·exact g
     ·have:=hR.step i r hr
      simp [eP,g1,oK,g2,bad,a7,dA,az] at this
    ·obtain ⟨mm,g1,g2⟩:=WG (done:=[]) (i:=i) (j:=j) (a:=x) (b:=y) nc.2 (by simpa using hx) hy (by simpa using UL);refine g2.imp (fun g=>?_) (fun g=>by simpa using g);unfold Ord;rw [xz,g1];exact g
    ·have:=Wx nc.1 (j:=i) (o:=o) (by simpa using ho) e he hbd
     omega
   refine wpIn_region_any hO.mixed ?_;have IM:=aiW hh;have gV:=B1 hh IM (S':=S) (fun _ h=>h) (fun _ h=> .inl h) hh.slt
   have Fp:bZ m S w s.hp m S {w with drawn:=w.drawn+1} s.hp (bA 0):=Al hh IM (fun _ h=>h) (fun _ h=> .inl h);obtain ⟨c,c1,c2,c3,c4⟩:=RD rs rs.length 0 (by omega);have hg:∀k',k'<=c->iD (bE 0) (bA 0) (bE (0+k')) (bA (0+k')):=fun k' rT=>
    Lu hR (by rw [e2,e3];exact hh.aP) k' (by omega) (fun j r g1 g2 hr=>HJ hr (c3 j g1 (by omega)))
   have ik:=hg c (yz _);rw [yf] at ik;obtain ⟨S1,g1,g2,g3,g4⟩:=LO (by rw [e2,e3];exact gV:aR O m S {w with drawn:=w.drawn+1} (bE 0) (bA 0)) ik
   have rb:∀i,(vX ops.size false).getD i false=true->False:=fun i hi=>by
    simp only [wO] at hi;by_cases aP:i<ops.size
    ·simp [aP] at hi
    ·rw [Array.getElem?_eq_none (by simpa using aP)] at hi;simp at hi
   refine apC (m0:=m) (S0:=S) (w0:=w) (n0:=a.tmps.size) (d0:=a.defers) hC (hO.hint h) hG hn (fun a' m' S' w' h1 h2 h3 h4 h5 h6=>?_) ops.size _ 0 c m S1 _ a (by simp) ?_ (fun j o _ hj=>(rb j hj).elim) ?_
   ·rw [e5,e6] at h1;rw [e3,e6] at h2;rw [e4] at h3;rw [e2,e3,e5] at h4;exact post h1 h2 h3 h4 h5 h6 e7
   ·unfold left;rw [List.countP_eq_length.2]
    ·simp
    ·intro i hi;simp only [uL]
     cases hq:(vX ops.size false).getD i false with
     | false=>rfl
     | true=>exact (rb i hq).elim
   ·refine ⟨tu _,c2,fun i hi=>by omega,c3,c4.imp (fun h=>h) (fun h=>⟨h,fun hd=>rb c hd⟩),fun i r _ _ _ hd=>rb i hd,g1,fun id p hp=> .inl (by rw [e3];exact hh.lt id p hp),fun t=>⟨0,tu _,fun i r _ _=>⟨fun hd=>(rb i hd).elim,fun h=>by omega⟩,?_⟩,?_,ik.pq,rfl,rfl,.inl rfl,fun j hj=>?_⟩
    ·rw [e1];exact lj (fun _ _ h=>h) (fun b hb=>g2 b hb) (fun b hb=>IM.same b (hh.slt b hb)) _ _ (ht t)
    ·rw [e2];have g5:=g4 (bA 0);rw [e2] at g5;exact Fp.trans g5
    ·have:=(hg j hj).lt
     rw [yf] at this;exact this
end
end
section
open Go
section
variable {O:br} {m:Mp} {S:Nat->Prop} {w:yi} {hp:Hp} {ct:Nat}
def Xn (hh:aR O m S w hp ct) {g:Nat} {w':yi} (hw:One w w' g) (hg:¬S g) (ho:¬dX m hp g) (aZ:O.w0.heap.size<=g):aR O m S w' hp ct:=by
 have aQ:fG S w w':=fun b hb=>hw.other b (fun e=>hg (e▸hb))
 refine ⟨fun id o p h1 h2=>?_,hh.lt,hh.inj,fun b hb=>by rw [hw.size];exact hh.slt b hb,fun id p h=>by rw [hw.size];exact hh.blt id p h,hh.low,fun b hb=>?_,by rw [hw.size];exact hh.fP,hh.aP⟩
 ·exact qK (fun _ _ h=>h) (fun _ h=>h) aQ (fun q hq=>hw.other _ (fun e=>ho ⟨id,o,q,h1,hq,e⟩)) (fun _ _ h=>h) (hh.obj id o p h1 h2)
 ·rw [hw.other b (by omega)];exact hh.lG b hb
def Xo {P:y7} {b:Nat} {o:tR} (h:w.heap[b]? =some o) (hc:∀c t f,o≠.cells c t f):(getObj b).run P w= .ok o w:=by
 simp only [getObj,Sem.run,h]
def La {P:y7} {b:Nat} {o x:tR} (h:w.heap[b]? =some o) (hc:∀c t f,o≠.cells c t f):(setObj b x).run P w= .ok () {w with heap:=w.heap.setIfInBounds b x}:=by
 simp only [setObj,Sem.run,h]
def G8 {P:y7} {b:Nat} {r:uv} (h:w.heap[b]? =some (.loop r)):(Instr.getLoop b).run P w= .ok r w:=by
 simp only [Instr.getLoop,Sem.run_bind,Xo (P:=P) h (fun _ _ _=>by simp),Result.andThen_ok,Sem.run_pure]
def HK (hh:aR O m S w hp ct) {l:Nat} {tm:Env} {ps:List Nat} {as_ body:VC} {st:Nat} {pe:rq} {p:Pl} (hg:an hp l=some (.lp tm ps as_ body st pe)) (hm:m l=some p):
  ∃(r:uv) (h:Nat),w.heap[p.b]? =some (.loop r)/\¬S p.b/\r.state=AY st/\st<=2/\r.pending=sW pe/\bT O m S w tm r.tmps/\r.params.toList=ps/\Bo O.P (O.hint h) as_ r.assign/\Bo O.P (O.hint h) body r.body/\
   (O.hint h).n<=r.tmps.size/\zb (O.hint h).n ps=true:=by
 obtain ⟨q,r,h,g1,g2,g3⟩:=hh.obj l _ p hg hm
 grind
def Yd (hh:aR O m S w hp ct) {l:Nat} {tm:Env} {ps:List Nat} {as_ body:VC} {st:Nat} {pe:rq} {p:Pl} (hg:an hp l=some (.lp tm ps as_ body st pe)) (hm:m l=some p) {r:uv} (hr:w.heap[p.b]? =some (.loop r))
  {st':Nat} {pe':rq} (h2:st'<=2):
  aR O m S {w with heap:=w.heap.setIfInBounds p.b (.loop {r with state:=AY st',pending:=sW pe'})} (aU hp l (.lp tm ps as_ body st' pe')) ct/\
  bZ m S w hp m S {w with heap:=w.heap.setIfInBounds p.b (.loop {r with state:=AY st',pending:=sW pe'})} (aU hp l (.lp tm ps as_ body st' pe')) ct:=by
 obtain ⟨r',h,g1,g2,g3,g4,g5,g6,g7,g8,g9,g10,g11⟩:=HK hh hg hm;rw [hr] at g1;injection g1 with g1
 injection g1 with g1
 subst g1;have fm:=DS w p.b (.loop {r with state:=AY st',pending:=sW pe'})
 refine Hu hh hg hm g2 fm ⟨p,{r with state:=AY st',pending:=sW pe'},h,hm,K6 hr,g2,rfl,h2,rfl,?_,g7,g8,g9,g10,g11⟩ (fun _ _=>⟨_,K6 hr⟩);exact Ai (fun _ _ h=>h) (fun _ h=>h) (fun b hb=>fm.other b (fun e=>g2 (e▸hb))) g6
def Ye {n:Nat}:∀{ps:List Nat} {vs:List AV} {us:List yh} {tm tm':Env} {tmps:Array yh},pV tm ps vs=some tm'->av O.ae m S w vs us->bT O m S w tm tmps->n<=tmps.size->zb n ps=true->
  ps.length=us.length/\bT O m S w tm' ((ps.zip us).foldl (fun t (x:Nat×yh)=>t.setIfInBounds x.1 x.2) tmps)/\((ps.zip us).foldl (fun t (x:Nat×yh)=>t.setIfInBounds x.1 x.2) tmps).size=tmps.size
 | [],[],us,tm,tm',tmps,h,hr,ht,hn,ha=>by
  simp only [pV,yd] at h;simp only [av] at hr
  simp_all
 | [],_::_,us,tm,tm',tmps,h,hr,ht,hn,ha=>by simp [pV] at h
 | _::_,[],us,tm,tm',tmps,h,hr,ht,hn,ha=>by simp [pV] at h
 | p::ps,v::vs,us,tm,tm',tmps,h,hr,ht,hn,ha=>by
  simp only [pV] at h;obtain ⟨u,t,rfl,h1,h2⟩:=hr;simp only [zb,yg] at ha;have hp:=sR.1 ha.1;have ht1:bT O m S w ((p,v)::tm) (tmps.setIfInBounds p u):=Qz (a:=⟨tmps,[]⟩) (d:=some p) ht (fun i hi=>by injection hi with hi;show i<tmps.size;omega) h1
  obtain ⟨g1,g2,g3⟩:=Ye (n:=n) h h2 ht1 (by simpa using hn) ha.2
  simp_all
def akY (ps:Array Tmp) (args:Array yh) (tmps:Array yh):(ps.zip args).foldl (fun tmps (x:Tmp×yh)=>tmps.setIfInBounds x.1 x.2) tmps=(ps.toList.zip args.toList).foldl (fun t (x:Nat×yh)=>t.setIfInBounds x.1 x.2) tmps:=by
 rw [<-Array.foldl_toList,Array.toList_zip]
def agM {P:y7} {b:Nat} {r:uv} (h:w.heap[b]? =some (.loop r)) (jump:Option wS):
  (Instr.endRound b jump).run P w= .ok (.bool jump.isNone) {w with heap:=w.heap.setIfInBounds b (.loop {r with state:=if jump.isNone then .ready else .done,pending:=jump})}:=by
 simp only [Instr.endRound,Sem.run_bind,G8 h,Result.andThen_ok,La (P:=P) h (fun _ _ _=>by simp),Sem.run_pure]
def agz {P:y7} {b:Nat} {r:uv} (h:w.heap[b]? =some (.loop r)) (hs:r.state= .ready):
  (Instr.beginRound b).run P w= .ok () {w with heap:=w.heap.setIfInBounds b (.loop {r with state:= .busy})}:=by
 simp only [Instr.beginRound,Sem.run_bind,G8 h,Result.andThen_ok,La (P:=P) h (fun _ _ _=>by simp),hs,Sem.run_pure]
def akZ {self:cw} (hS:∀v s ex s',self v s=some (ex,s')->∀c h l k,(comp O.P (O.hint h) c l k).1=v->AQ O h c s ex s') {l:Nat} {xs:List AV} {v:AV} {ao:Hp} {aW:Nat}
  (hv:kJ self hp ct l xs=some (v,ao,aW)):aaI O hp ct l xs v ao aW:=by
 intro m S w args p hh hm fQ;unfold kJ at hv
 split at hv
 case h_2=>cases hv
 rename_i tm ps as_ body pe hg;obtain ⟨r,h,g1,g2,g3,g4,g5,g6,g7,⟨ca,ka,g8⟩,⟨cb,kb,g9⟩,g10,g11⟩:=HK hh hg hm
 cases hb:pV tm ps xs with
 | none=>simp [hb] at hv
 | some tm'=>
  simp only [hb] at hv;obtain ⟨b1,b2,b3⟩:=Ye hb fQ g6 g10 g11;rw [<-g7] at b1 b2 b3;have eH:args.size=r.params.size:=by
   grind
  let tmps:Array yh:=(r.params.zip args).foldl (fun tmps (x:Tmp×yh)=>tmps.setIfInBounds x.1 x.2) r.tmps
  have ac1:tmps=(r.params.toList.zip args.toList).foldl (fun t (x:Nat×yh)=>t.setIfInBounds x.1 x.2) r.tmps:=akY _ _ _;refine ⟨r.fn,tmps,r.assign,r.body,?_,?_⟩
  ·simp only [Instr.yield,Sem.run_bind,G8 g1,Result.andThen_ok,eH,ybY,uX,xk,Sem.run_pure];rfl
  refine roundIn_of_wpIn (F:=Fence.wide) trivial ?_
  cases h1:self as_ ⟨tm',hp,ct,ct⟩ with
  | none=>simp [h1] at hv
  | some q=>
   obtain ⟨ex1,s1⟩:=q
   cases ex1 with
   | ret=>simp [h1] at hv
   | exit id=>simp [h1] at hv
   | normal=>
    simp only [h1] at hv;have ef:=hS _ _ _ _ h1 r.assign h ca ka g8;have cS:∀w',bZ m S w hp m S w' hp ct->sX (some p.b) w':=fun w' hf=>Lw hf (fun l hl=>⟨r,by injection hl with hl;subst hl;exact g1⟩)
    refine wpIn_mono (ef (some p.b) w.heap.size m S w ⟨tmps,[]⟩ (cS w bZ.refl) (by rw [ac1];exact b2) hh (yz _) (by show _<=tmps.size;rw [ac1,b3];exact g10) hh.fP (yz _) ⟨[],rfl,by simp,by simp⟩) ?_
    rintro e a1 w1 ⟨rfl,m1,S1,k1,k2,k3,k4,k5,k6,k7⟩;simp only [p7,Exit.then];have pv:m1 l=some p:=k5.old l p (hh.lt l p hm) hm
    split at hv
    case h_2=>cases hv
    rename_i iL rO Bm Cy pn ik;obtain ⟨r1,gV,f1,f2,f3,f4,f5,f6,f7,f8,f9,f10,f11⟩:=HK k2 ik pv;have US:=agz (P:=O.P) f1 f3;obtain ⟨q1,q2⟩:=Yd k2 ik pv f1 (st':=1) (pe':=pn) (by omega)
    have bW:({r1 with state:=AY 1,pending:=sW pn}:uv)={r1 with state:= .busy}:=by rw [<-f5];rfl
    rw [bW] at q1 q2;refine ⟨_,US,?_⟩
    cases h2:self body ⟨s1.tm,aU s1.hp l (.lp iL rO Bm Cy 1 pn),s1.ct,s1.ct⟩ with
    | none=>simp [h2] at hv
    | some q=>
     obtain ⟨ex,s2⟩:=q;simp only [h2] at hv;have r5:=hS _ _ _ _ h2 r.body h cb kb g9
     have auf:sX (some p.b) {w1 with heap:=w1.heap.setIfInBounds p.b (.loop {r1 with state:= .busy})}:=fun l hl=>by
      grind
     have UT:bT O m1 S1 {w1 with heap:=w1.heap.setIfInBounds p.b (.loop {r1 with state:= .busy})} s1.tm a1.tmps:=
      Ai (fun _ _ h=>h) (fun _ h=>h) (fun b hb=>q2.still b hb) k1
     have aug:(O.hint h).n<=a1.tmps.size:=by
      grind
     refine wpIn_mono (r5 (some p.b) w.heap.size m1 S1 _ a1 auf UT q1 (yz _) aug hh.fP (xg k5.size q2.size) (Aj k2 q2 k7)) ?_;rintro e a2 w2 ⟨rfl,m2,S2,j1,j2,j3,j4,j5,j6,j7⟩;have Ke:m2 l=some p:=j5.old l p (k2.lt l p pv) pv
     split at hv
     case h_2=>cases hv
     rename_i nV Bn JX II pe2 r8;obtain ⟨r2,Kf,d1,d2,d3,d4,d5,d6,d7,d8,d9,d10,d11⟩:=HK j2 r8 Ke;have auh:bZ m S w hp m2 S2 w2 s2.hp ct:=(k5.trans (q2.ru k4)).trans (j5.ru k4);have ac2:ct<=s2.ct:=xg k4 j4;have fin:∀(jump:Option wS) (st':Nat) (pe':rq),sW pe'=jump->AY st'=(if jump.isNone then .ready else .done)->st'<=2->
       ∃v' w',(Instr.endRound p.b jump).run O.P w2= .ok v' w'/\sL O m S w hp ct (.bool jump.isNone) (aU s2.hp l (.lp nV Bn JX II st' pe')) s2.ct (.returned v') w':=by
      intro jump st' pe' e1 e2 e3;obtain ⟨z1,z2⟩:=Yd j2 r8 Ke d1 (st':=st') (pe':=pe') e3;rw [e1,e2] at z1 z2;exact ⟨_,_,agM d1 jump,_,m2,S2,rfl,z1,ac2,by simp [ah],auh.trans (z2.ru ac2)⟩
     cases ex with
     | normal=>
      simp only [yd,yo] at hv;obtain ⟨rfl,rfl,rfl⟩:=hv;simp only [p7,roundPost];exact fin none 0 .none rfl rfl (by omega)
     | ret=>
      simp only [Rv,yd,yo] at hv;obtain ⟨rfl,rfl,rfl⟩:=hv;simp only [p7,roundPost];exact fin (some .ret) 2 .ret rfl rfl (by omega)
     | exit id=>
      simp only [Rv,yd,yo] at hv;obtain ⟨rfl,rfl,rfl⟩:=hv;simp only [p7,roundPost];exact fin (some (.exit id)) 2 (.exit id) rfl rfl (by omega)
end
end
section
open Go
section
variable {O:br} {self:cw}
def LR {P:y7} {f:tq} {fn:yaq} {args:Array yh} {w:yi} (hf:P.funcs[f]? =some fn) (hb:fn.body.isSome=true) (hn:fn.name≠ "runtime.NumGoroutine"):(callFunc f args).run P w= .ok (.enter f args) w:=by
 have h1:fn.body≠none:=fun e=>by rw [e] at hb;cases hb
 simp [callFunc,program,Sem.run,hf,h1,hn]
def PG {P:y7} {H:Hint} {fn:yaq} {F:au} (h:Ec P H fn=some F):∃c,fn.body=some c/\F.body=(comp P H c 0 0).1/\oB P fn.results.toList=some F.dd/\H.n<=fn.ntmps:=by
 unfold Ec at h
 split at h
 ·rename_i c rs h1 h2
  cases hb:yG H.n fn.ntmps with
  | false=>rw [hb] at h;cases h
  | true=>
   rw [hb] at h;simp only [yx,yd] at h;subst h
   simp_all
 ·cases h
def ak0 {m:Mp} {S:Nat->Prop} {w:yi} {hp:Hp} {ct:Nat} {tm:Env} {a:Act} {ro:Option Nat} (fn:tq) (ps:Array Tmp) (assign body:wS) {as_ b':VC} {h:Nat} (hh:aR O m S w hp ct) (ht:bT O m S w tm a.tmps) (cS:sX ro w)
  (UU:Bo O.P (O.hint h) as_ assign) (UW:Bo O.P (O.hint h) b' body) (hn:(O.hint h).n<=a.tmps.size) (fa:zb (O.hint h).n ps.toList=true) {lo:Nat} (fb:lo<=w.heap.size) (cI:Marks lo S w a.defers):
  ∃l mark w1,(Instr.enterLoop fn a.tmps ps assign body ro).run O.P w= .ok (l,mark) w1/\aR O (fC m ct ⟨l,0,0,0⟩) S w1 ((ct,.lp tm ps.toList as_ b' 0 .none)::hp) (ct+1)/\
   bZ m S w hp (fC m ct ⟨l,0,0,0⟩) S w1 ((ct,.lp tm ps.toList as_ b' 0 .none)::hp) ct/\m ct=none/\Marks lo S w1 (mark++a.defers)/\w.heap.size<=l:=by
 have bD:m ct=none:=by
  cases hq:m ct with
  | none=>rfl
  | some p=>have:=hh.lt ct p hq;omega
 have lay:∀(w':yi) (d:Nat),Calm w w'->Marks lo S w' a.defers->
   aR O (fC m ct ⟨w'.heap.size,0,0,0⟩) S (w'.alloc (.loop {state:= .ready,pending:=none,fn:=fn,tmps:=a.tmps,params:=ps,assign:=assign,body:=body,defers:=d})) ((ct,.lp tm ps.toList as_ b' 0 .none)::hp) (ct+1)/\
   bZ m S w hp (fC m ct ⟨w'.heap.size,0,0,0⟩) S (w'.alloc (.loop {state:= .ready,pending:=none,fn:=fn,tmps:=a.tmps,params:=ps,assign:=assign,body:=body,defers:=d})) ((ct,.lp tm ps.toList as_ b' 0 .none)::hp) ct:=by
  intro w' d hw ac3;have gV:aR O m S w' hp ct:=B1 hh hw (fun _ h=>h) (fun _ h=> .inl h) (fun b hb=>yA (hh.slt b hb) hw.size);have Fp:bZ m S w hp m S w' hp ct:=Al hh hw (fun _ h=>h) (fun _ h=> .inl h);have hg:iD hp ct ((ct,.lp tm ps.toList as_ b' 0 .none)::hp) (ct+1):=by
   refine ⟨fun id o ho=>⟨o,?_,jh.refl o⟩,by omega,fun id o ho=>?_,fun id o ho hi=>?_⟩
   ·rw [fE,yB (by have:=hh.aP id o ho;omega)];exact ho
   ·rw [fE] at ho;by_cases hc:ct=id
    ·omega
    ·simp only [hc,xk] at ho;have:=hh.aP id o ho;omega
   ·rw [fE,yB (by omega)] at ho;exact ⟨o,ho⟩
  have il:∀i q,an ((ct,Obj.lp tm ps.toList as_ b' 0 .none)::hp) i=some q->i≠ct->an hp i=some q:=fun i q h hi=>by
   rw [fE,yB (fun e=>hi e.symm)] at h;exact h
  have Kf:aR O m S w' ((ct,.lp tm ps.toList as_ b' 0 .none)::hp) (ct+1):=by
   have fM:∀id p,m id=some p->id≠ct:=fun id p hm e=>by have:=hh.lt id p hm;omega
   exact ⟨fun id o p ho hm=>gV.obj id o p (il id o ho (fM id p hm)) hm,fun id p hm=>by have:=hh.lt id p hm;omega,
    fun i j oi oj pi pj hi hj bD gA e=>gV.inj i j oi oj pi pj (il i oi hi (fM i pi bD)) (il j oj hj (fM j pj gA)) bD gA e,gV.slt,gV.blt,gV.low,gV.lG,gV.fP,hg.lt⟩
  have nZ:eX O (fC m ct ⟨w'.heap.size,0,0,0⟩) S (w'.alloc (.loop {state:= .ready,pending:=none,fn:=fn,tmps:=a.tmps,params:=ps,assign:=assign,body:=body,defers:=d})) ct (.lp tm ps.toList as_ b' 0 .none):=by
   refine ⟨⟨w'.heap.size,0,0,0⟩,_,h,dN,heap_alloc_new w' _,?_,rfl,by omega,rfl,?_,rfl,UU,UW,hn,fa⟩
   ·intro hS
    have:=gV.slt _ hS
    simp at this
   ·exact Ai (jr bD) (fun _ h=>h) (fun b hb=>(Hb gV _ b hb).trans (hw.same b (hh.slt b hb))) ht
  obtain ⟨S',k1,k2,k3⟩:=Qt (i:=ct) (p:=⟨w'.heap.size,0,0,0⟩) Kf bD (by omega) rfl (fun o ho=>by
   rw [fE] at ho;simp only [xB,yd] at ho;subst ho
   exact .inl ⟨nZ,by simp [iB]⟩)
  have k1':aR O (fC m ct ⟨w'.heap.size,0,0,0⟩) S (w'.alloc (.loop {state:= .ready,pending:=none,fn:=fn,tmps:=a.tmps,params:=ps,assign:=assign,body:=body,defers:=d})) ((ct,.lp tm ps.toList as_ b' 0 .none)::hp) (ct+1):=by
   have J5:∀id q,m id=some q->q.b≠w'.heap.size:=fun id q hq=>by have:=gV.blt id q hq;omega
   refine ⟨?_,k1.lt,k1.inj,fun b hb=>k1.slt b (k2 b hb),k1.blt,k1.low,k1.lG,k1.fP,k1.aP⟩;intro id o q ho hm;by_cases hc:id=ct
   ·subst hc;rw [fE] at ho
    grind
   ·rw [dZ hc] at hm;exact qK (jr bD) (fun _ h=>h) (Hb gV _) (fun q' bJ=>alloc_old (gV.blt id q' bJ)) (fun _ _ h=>h) (gV.obj id o q (il id o ho hc) hm)
  refine ⟨k1',Fp.trans ⟨rfl,rfl,rfl,by simp,fun b hb _=>alloc_old hb,fun _ h=>h,fun b hb=>Hb gV _ b hb,fun b hb=> .inl hb,?_,fun i q _ hq=>jr bD i q hq,fun b r hb=>⟨r,(alloc_old (xv.1 hb).1).trans hb⟩⟩⟩;rintro b ⟨i,o,q,g1,g2,g3⟩;by_cases hc:i=ct
  ·subst hc;rw [dN] at g2
   grind
  ·rw [dZ hc] at g2;exact .inl ⟨i,o,q,il i o g1 hc,g2,g3⟩
 cases ro with
 | none=>
  have IM:Calm w (w.alloc (.deferred (some []))):=⟨rfl,rfl,rfl,by simp,fun b hb=>alloc_old hb⟩;obtain ⟨rs,r1,r2,r3⟩:=cI;have aui:Marks lo S (w.alloc (.deferred (some []))) a.defers:=⟨rs,r1,r2,fun r hr=>⟨(alloc_old (xv.1 (r3 r hr).1).1).trans (r3 r hr).1,(r3 r hr).2⟩⟩;obtain ⟨k1,k2⟩:=lay (w.alloc (.deferred (some []))) w.heap.size IM aui
  refine ⟨(w.alloc (.deferred (some []))).heap.size,[{target:= .collected w.heap.size,args:=#[]}],_,?_,k1,k2,bD,?_,by simp⟩
  ·simp [Instr.enterLoop,newObj,Sem.run]
  ·have hold:∀(b:Nat) (x:tR),(w.alloc (.deferred (some []))).heap[b]? =some x->((w.alloc (.deferred (some []))).alloc (.loop {state:= .ready,pending:=none,fn:=fn,tmps:=a.tmps,params:=ps,assign:=assign,body:=body,defers:=w.heap.size})).heap[b]? =some x:=fun b x hb=>
    (alloc_old (xv.1 hb).1).trans hb
   refine ⟨w.heap.size::rs,by rw [r1];rfl,?_,?_⟩
   ·grind
   ·intro r hr;rcases wA.1 hr with rfl | hr
    ·exact ⟨hold _ _ (heap_alloc_new w _),fun hs=>by have:=hh.slt _ hs;omega,fb⟩
    ·exact ⟨hold _ _ ((alloc_old (xv.1 (r3 r hr).1).1).trans (r3 r hr).1),(r3 r hr).2⟩
 | some l0=>
  obtain ⟨r0,lS⟩:=cS l0 rfl;obtain ⟨k1,k2⟩:=lay w r0.defers Calm.refl cI;refine ⟨w.heap.size,[],_,?_,k1,k2,bD,?_,yz _⟩
  ·simp [Instr.enterLoop,G8 lS,newObj,Sem.run]
  ·exact Aj hh k2 cI
def asu (hO:gN O) (hC:nt O self) {h:Nat} {f:xy} {ps:Array Tmp} {assign body:wS} {as_ b':VC} (UU:Bo O.P (O.hint h) as_ assign) (UW:Bo O.P (O.hint h) b' body) (fa:zb (O.hint h).n ps.toList=true)
  {s:St} {ex:Ex} {s':St} (hv:bt O.prog O.aX self (.rf (aK (O.hint h) f) ps.toList as_ b') s=some (ex,s')):AQ O h (.rangeFunc f ps assign body) s ex s':=by
 intro ro lo m S w a cS ht hh hb hn aZ fb cI;simp only [bt] at hv
 split at hv
 case h_2=>cases hv
 rename_i n first cap hx
 split at hv
 case h_1=>cases hv
 rename_i hL
 cases he:iC O.prog O.aX self ((s.ct,.lp s.tm ps.toList as_ b' 0 .none)::s.hp) (s.ct+1) n (first++(.fn (.y s.ct) [] []::cap)) with
 | none=>simp [he] at hv
 | some q=>
  obtain ⟨v,bj,n7⟩:=q;simp only [he] at hv
  split at hv
  case h_2=>cases hv
  rename_i nV Bn JX II st pe r8
  cases aQ:yt st 1 with
  | true=>rw [aQ] at hv;cases hv
  | false=>
   rw [aQ] at hv;simp only [yH] at hv;refine wpIn_rangeFunc (fun fn _=>?_);obtain ⟨l,mark,w1,e1,e2,e3,e4,e5,e6⟩:=ak0 (ro:=ro) fn ps assign body hh ht cS UU UW hn fa fb cI;have rf:=ck (hO.hint h) ht f;rw [hx] at rf;simp only [ah] at rf;obtain ⟨fi,ca,hf,r2,r3⟩:=rf;have hle:=jr e4 (p:=⟨l,0,0,0⟩);have EN:fG S w w1:=fun b hb=>e3.still b hb
   have fQ:av O.ae (fC m s.ct ⟨l,0,0,0⟩) S w1 (first++(.fn (.y s.ct) [] []::cap)) (fi++#[Value.func (.yield l) #[] #[]]++ca).toList:=by
    have:=lh (gK hle (fun _ h=>h) EN _ _ r2) (lh (a:=[.fn (.y s.ct) [] []]) (x:=[Value.func (.yield l) #[] #[]]) (by
     simp only [av]
     exact ⟨_,[],rfl,by simp only [ah];exact ⟨_,dN,rfl⟩,rfl⟩) (gK hle (fun _ h=>h) EN _ _ r3))
    grind
   have rh:=hC.heap _ _ _ _ _ _ _ he _ S w1 _ e2 fQ;have hP:∃F,O.prog n=some F:=by
    unfold iC at he;rw [hL] at he
    cases hq:O.prog n with
    | none=>simp [hq] at he
    | some F=>exact ⟨F,rfl⟩
   obtain ⟨F,hF⟩:=hP;obtain ⟨fn',q1,q2,q3⟩:=hO.prog n F hF;obtain ⟨cb,q4,_⟩:=PG q2;have fK:(callFunc (O.ae n) (fi++#[Value.func (.yield l) #[] #[]]++ca)).run O.P w1= .ok (.enter (O.ae n) (fi++#[Value.func (.yield l) #[] #[]]++ca)) w1:=LR q1 (by rw [q4];rfl) q3
   refine ⟨l,mark,w1,{target:= .fn (.func (O.ae n)) ca,args:=fi++#[Value.func (.yield l) #[] #[]]},w1,O.ae n,fi++#[Value.func (.yield l) #[] #[]]++ca,w1,e1,?_,fun _ _=>trivial,?_,fun hd=>by simp [WF,Fence.wide] at hd,?_⟩
   ·show Sem.run O.P (Deferred.ofValue (a.eval f) _) w1=_
    rw [hf];simp [Deferred.ofValue,Act.eval]
   ·simp only [invoke];exact fK
   ·rcases rh with ⟨_,rh⟩ | ⟨u,w',h1,_⟩
    case inr=>rw [fK] at h1;cases h1
    have apE:CallsIn (WF ro) 0 O.P (O.ae n) (fi++#[Value.func (.yield l) #[] #[]]++ca) w1 (sL O (fC m s.ct ⟨l,0,0,0⟩) S w1 ((s.ct,.lp s.tm ps.toList as_ b' 0 .none)::s.hp) (s.ct+1) v bj n7):=rh;refine CallsIn.mono apE ?_;rintro e w3 ⟨u,m',S',rfl,k1,k2,k3,k4⟩;have gm:m' s.ct=some ⟨l,0,0,0⟩:=k4.old s.ct _ (tK _) dN;obtain ⟨r,Kf,d1,d2,d3,d4,d5,d6,_⟩:=HK k1 r8 gm;have px:(r.state==LoopState.busy)=false:=by
     rw [d3];rcases st with _ | _ | st
     ·rfl
     ·simp_all
     ·have:st=0:=by omega
      subst this;rfl
    have fm:=DS w3 l (.loop {r with state:= .exhausted});have UX:=YY k1 s.ct;have n5:¬dX m' (da bj s.ct) l:=WQ k1 r8 gm
    have z1:aR O m' S' {w3 with heap:=w3.heap.setIfInBounds l (.loop {r with state:= .exhausted})} (VE.da bj s.ct) n7:=Xn UX fm d2 n5 (by have:=hh.fP;omega)
    have z2:bZ m' S' w3 bj m' S' {w3 with heap:=w3.heap.setIfInBounds l (.loop {r with state:= .exhausted})} (VE.da bj s.ct) s.base:=by
     refine ⟨rfl,rfl,rfl,by rw [fm.size];exact yz _,fun b _ hb=>fm.other b (fun e=>hb (e▸HV r8 gm)),fun _ h=>h,fun b hb=>fm.other b (fun e=>d2 (e▸hb)),fun b hb=> .inl hb,fun b hb=> .inl (Z6 hb),fun _ _ _ h=>h,fun b x hb=>?_⟩
     grind
    have SR:bZ m S w s.hp m' S' {w3 with heap:=w3.heap.setIfInBounds l (.loop {r with state:= .exhausted})} (VE.da bj s.ct) s.base:=
     ((e3.ru hb).trans (k4.ru (by omega))).trans z2
    have Nj:(Instr.endLoop l).run O.P w3= .ok (sW pe) {w3 with heap:=w3.heap.setIfInBounds l (.loop {r with state:= .exhausted})}:=by
     simp only [Instr.endLoop,Sem.run_bind,G8 d1,Result.andThen_ok,px,yD,xk,Sem.run_pure,La (P:=O.P) d1 (fun _ _ _=>by simp),d5]
    have ac3:Marks lo S' {w3 with heap:=w3.heap.setIfInBounds l (.loop {r with state:= .exhausted})} (mark++a.defers):=Aj k1 z2 (Aj e2 k4 e5)
    have zN:bT O m' S' {w3 with heap:=w3.heap.setIfInBounds l (.loop {r with state:= .exhausted})} s.tm a.tmps:=by
     refine Ai (fun id p hp=>?_) SR.sub (fun b hb=>SR.still b hb) ht;have h1:=hh.lt id p hp;exact k4.old id p (by omega) (hle id p hp)
    have post:∀UY,s'={s with hp:=VE.da bj s.ct,ct:=n7}->ex=UY->eG O m S w s ex s' a.tmps.size lo (p7 UY) {a with defers:=mark++a.defers} {w3 with heap:=w3.heap.setIfInBounds l (.loop {r with state:= .exhausted})}:=by
     rintro UY rfl rfl;exact ⟨rfl,m',S',zN,z1,rfl,by show s.base<=n7;omega,SR,rfl,ac3⟩
    refine ⟨_,_,Nj,?_⟩
    cases pe with
    | none=>
     simp only [yd,yo] at hv;exact post .normal hv.2.symm hv.1.symm
    | ret=>
     simp only [yd,yo] at hv;exact wpIn_ret (post .ret hv.2.symm hv.1.symm)
    | exit id=>
     simp only [yd,yo] at hv;exact wpIn_exit (post (.exit id) hv.2.symm hv.1.symm)
end
end
def Le (f g:cw):Prop:=∀c s r,f c s=some r->g c s=some r
section
variable {P:aG} {L:Lib} {f g:cw}
def Py (h:Le f g) (n:Nat) (vals:List AV) (r:AV) (hr:bF P L f n vals=some r):bF P L g n vals=some r:=by
 unfold bF at hr ⊢
 cases hL:L.pure n with
 | some sp=>simpa only [hL] using hr
 | none=>
  simp only [hL] at hr ⊢
  cases hP:P n with
  | none=>simp [hP] at hr
  | some F=>
   simp only [hP] at hr ⊢
   cases hf:f F.body ⟨eh 0 vals,[],0,0⟩ with
   | none=>simp [hf] at hr
   | some q=>rw [h _ _ _ hf];simpa only [hf] using hr
def PH (h:Le f g) (hp:Hp) (ct:Nat) (n:Nat) (vals:List AV) (r:AV×Hp×Nat) (hr:iC P L f hp ct n vals=some r):iC P L g hp ct n vals=some r:=by
 unfold iC at hr ⊢
 cases hL:L.heap n with
 | some sp=>simpa only [hL] using hr
 | none=>
  simp only [hL] at hr ⊢
  cases hP:P n with
  | none=>simp [hP] at hr
  | some F=>
   simp only [hP] at hr ⊢
   cases hf:f F.body ⟨eh 0 vals,hp,ct,ct⟩ with
   | none=>simp [hf] at hr
   | some q=>rw [h _ _ _ hf];simpa only [hf] using hr
def WI (h:Le f g) (hp:Hp) (ct:Nat) (l:Nat) (xs:List AV) (r:AV×Hp×Nat) (hr:kJ f hp ct l xs=some r):kJ g hp ct l xs=some r:=by
 unfold kJ at hr ⊢
 cases hl:an hp l with
 | none=>simp [hl] at hr
 | some o=>
  simp only [hl] at hr ⊢
  split at hr
  ·rename_i tm ps as_ body pe n8;simp only [yd] at n8;subst n8
   (try simp only at hr ⊢)
   cases hb:pV tm ps xs with
   | none=>simp [hb] at hr
   | some tm'=>
    simp only [hb] at hr ⊢
    cases h1:f as_ ⟨tm',hp,ct,ct⟩ with
    | none=>simp [h1] at hr
    | some q=>
     rw [h _ _ _ h1];simp only [h1] at hr ⊢
     split at hr
     ·rename_i s1 SS;simp only [yd] at SS;subst SS
      (try simp only at hr ⊢)
      split at hr
      ·rename_i iL rO Bm Cy pn ac4
       (try simp only [ac4])
       cases h2:f body ⟨s1.tm,aU s1.hp l (.lp iL rO Bm Cy 1 pn),s1.ct,s1.ct⟩ with
       | none=>simp [h2] at hr
       | some q2=>rw [h _ _ _ h2];simpa only [h2] using hr
      ·simp at hr
     ·simp at hr
  ·simp at hr
def WV (h:Le f g) (hp:Hp) (ct:Nat) (m:Md) (fv:AV) (xs:List AV) (r:AV×Hp×Nat) (hr:dA P L f hp ct m fv xs=some r):dA P L g hp ct m fv xs=some r:=by
 unfold dA at hr ⊢
 split at hr
 ·rename_i n first cap
  cases m with
  | pure=>
   simp only at hr ⊢
   cases hz:cB deep hp (first++(xs++cap)) with
   | none=>simp [hz] at hr
   | some q=>
    simp only [hz] at hr ⊢
    cases hc:bF P L f n q.1 with
    | none=>simp [hc] at hr
    | some u=>rw [Py h n q.1 u hc];simpa only [hc] using hr
  | own=>
   simp only at hr ⊢
   cases hz:cB deep hp (first++(xs++cap)) with
   | none=>simp [hz] at hr
   | some q=>
    simp only [hz] at hr ⊢
    cases hc:bF P L f n q.1 with
    | none=>simp [hc] at hr
    | some u=>rw [Py h n q.1 u hc];simpa only [hc] using hr
  | heap=>exact PH h _ _ _ _ _ hr
  | dyn=>
   simp only at hr ⊢
   cases hz:aF (first++(xs++cap)) with
   | true=>
    simp only [hz,yx] at hr ⊢
    cases hc:bF P L f n (first++(xs++cap)) with
    | none=>simp [hc] at hr
    | some u=>rw [Py h n _ u hc];simpa only [hc] using hr
   | false=>
    simp only [hz,yH] at hr ⊢;exact PH h _ _ _ _ _ hr
 ·split at hr
  ·exact WI h _ _ _ _ _ hr
  ·exact WI h _ _ _ _ _ hr
  ·simp at hr
 ·simp at hr
def Yf (h:Le f g) (tm:Env) (hp:Hp) (ct:Nat) (o:Op) (r:AV×Hp×Nat) (hr:a7 P L f tm hp ct o=some r):a7 P L g tm hp ct o=some r:=by
 unfold a7 at hr ⊢
 split at hr
 ·exact WV h _ _ _ _ _ _ hr
 ·rename_i rs fv xs
  (try simp only at hr ⊢)
  cases hc:dA P L f hp ct .dyn (az tm fv) (di tm xs) with
  | none=>simp [hc] at hr
  | some q=>rw [WV h _ _ _ _ _ _ hc];simpa only [hc] using hr
 all_goals simpa only using hr
def Lb (h:Le f g):∀(ops:List aY) (s s':St),dB P L f ops s=some s'->dB P L g ops s=some s'
 | [],s,s',hr=>by simpa only [dB] using hr
 | ⟨d,gd,o⟩::r,s,s',hr=>by
  simp only [dB] at hr ⊢
  split at hr
  ·rename_i hw
   try simp only [hw]
   cases ho:a7 P L f s.tm s.hp s.ct o with
   | none=>simp [ho] at hr
   | some q=>rw [Yf h _ _ _ _ _ ho];simp only [ho] at hr ⊢;exact Lb h r _ _ hr
  ·rename_i hw
   (try simp only [hw]);exact Lb h r _ _ hr
  ·simp at hr
def pJ (h:Le f g):∀(c:VC) (s:St) (r:Ex×St),bt P L f c s=some r->bt P L g c s=some r
 | .skip,s,r,hr=>by simpa only [bt] using hr
 | .jB ops,s,r,hr=>by
  simp only [bt] at hr ⊢
  cases ho:dB P L f ops s with
  | none=>simp [ho] at hr
  | some s'=>rw [Lb h _ _ _ ho];simpa only [ho] using hr
 | .seq a b,s,r,hr=>by
  simp only [bt] at hr ⊢
  cases ha:bt P L f a s with
  | none=>simp [ha] at hr
  | some q=>
   rw [pJ h a s q ha];obtain ⟨ex,s1⟩:=q
   cases ex with
   | normal=>simp only [ha] at hr ⊢;exact pJ h b s1 r hr
   | ret=>simpa only [ha] using hr
   | exit id=>simpa only [ha] using hr
 | .cond x a b,s,r,hr=>by
  simp only [bt] at hr ⊢
  split at hr
  ·rename_i t ht
   try simp only [ht]
   cases t with
   | true=>simp only [yx] at hr ⊢;exact pJ h a s r hr
   | false=>simp only [yH] at hr ⊢;exact pJ h b s r hr
  ·simp at hr
 | .dD id a,s,r,hr=>by
  simp only [bt] at hr ⊢
  cases ha:bt P L f a s with
  | none=>simp [ha] at hr
  | some q=>rw [pJ h a s q ha];simpa only [ha] using hr
 | .kp live,s,r,hr=>by simpa only [bt] using hr
 | .fz ts,s,r,hr=>by simpa only [bt] using hr
 | .loop live a,s,r,hr=>by
  simp only [bt] at hr ⊢
  cases ha:bt P L f a (aM live s) with
  | none=>simp [ha] at hr
  | some q=>
   rw [pJ h a _ q ha];obtain ⟨ex,s1⟩:=q
   cases ex with
   | normal=>simp only [ha] at hr ⊢;exact h _ _ _ hr
   | ret=>simpa only [ha] using hr
   | exit id=>simpa only [ha] using hr
 | .rf fv ps as_ body,s,r,hr=>by
  simp only [bt] at hr ⊢
  split at hr
  ·rename_i n first cap hx
   try simp only [hx]
   split at hr
   ·simp at hr
   ·rename_i hL
    try simp only [hL]
    cases hc:iC P L f ((s.ct,.lp s.tm ps as_ body 0 .none)::s.hp) (s.ct+1) n (first++(.fn (.y s.ct) [] []::cap)) with
    | none=>simp [hc] at hr
    | some q=>rw [PH h _ _ _ _ _ hc];simpa only [hc] using hr
  ·simp at hr
 | .exit id,s,r,hr=>by simpa only [bt] using hr
 | .ret,s,r,hr=>by simpa only [bt] using hr
end
def HL (P:aG) (L:Lib) (c:VC) (s:St):ev P L 0 c s=none:=rfl
def HM (P:aG) (L:Lib) (n:Nat):ev P L (n+1)=bt P L (ev P L n):=rfl
def abz (P:aG) (L:Lib):∀n,Le (ev P L n) (ev P L (n+1))
 | 0=>fun c s r h=>by rw [HL] at h;cases h
 | n+1=>fun c s r h=>by
  rw [HM] at h ⊢;exact pJ (abz P L n) c s r h
def QZ (P:aG) (L:Lib) {n m:Nat} (h:n<=m):Le (ev P L n) (ev P L m):=by
 induction h with
 | refl=>exact fun _ _ _ h=>h
 | step _ ih=>exact fun c s r hr=>abz P L _ c s r (ih c s r hr)
section
open Go
section
variable {O:br} {self:cw}
def eG.none {m:Mp} {S:Nat->Prop} {w:yi} {s s':St} {ex:Ex} {n lo:Nat} {a:Act} {w':yi} (l:Nat):¬eG O m S w s ex s' n lo (.goto l) a w':=by
 rintro ⟨h,_⟩;cases ex<;>cases h
def eG.then {m m1:Mp} {S S1:Nat->Prop} {w w1:yi} {s s1 s2:St} {ex:Ex} {n lo:Nat} {a':Act} {w':yi} {e:vW} {ex1:Ex} (h1:s1.base=s.base)
  (hf:bZ m S w s.hp m1 S1 w1 s1.hp s.base) (h:eG O m1 S1 w1 s1 ex s2 n lo e a' w'):eG O m S w s ex s2 n lo e a' w':=by
 obtain ⟨h2,m',S',k1,k2,k3,k4,k5,k6,k7⟩:=h;rw [h1] at k3 k4 k5;exact ⟨h2,m',S',k1,k2,k3,k4,hf.trans k5,k6,k7⟩
def eG.cK {m:Mp} {S:Nat->Prop} {w:yi} {s s1:St} {n lo:Nat} {a':Act} {w':yi} {e:vW} {ex:Ex} (live:List Nat) (h:eG O m S w s ex s1 n lo e a' w'):eG O m S w s ex (aM live s1) n lo e a' w':=by
 obtain ⟨h2,m',S',k1,k2,k3,k4,k5,k6,k7⟩:=h;obtain ⟨m2,g1,g2,g3,g4,g5⟩:=PT (live:=live) k1 k2 (by rw [k3];exact k4)
 rw [k3] at g3 g4 g5;exact ⟨h2,m2,S',g1,g2,g3,g4,k5.trans g5,k6,Aj k2 g5 k7⟩
def abA {m:Mp} {w:yi} {tmps:Array yh}:∀{ts:List Nat} {s s1:St} {S:Nat->Prop},bT O m S w s.tm tmps->aR O m S w s.hp s.ct->oJ ts s=some s1->
  ∃S1,bT O m S1 w s1.tm tmps/\aR O m S1 w s1.hp s1.ct/\s1.base=s.base/\s1.ct=s.ct/\∀base,bZ m S w s.hp m S1 w s1.hp base
 | [],s,s1,S,ht,hh,h=>by
  simp only [oJ,yd] at h;subst h;exact ⟨S,ht,hh,rfl,rfl,fun _=>bZ.refl⟩
 | t::r,s,s1,S,ht,hh,h=>by
  simp only [oJ] at h
  cases hz:freeze deep s.hp (aj s.tm t) with
  | none=>simp [hz] at h
  | some q=>
   obtain ⟨v,hp⟩:=q;simp only [hz] at h;obtain ⟨h1,h2,h3⟩:=P7 (O:=O) hz;have hg:iD s.hp s.ct hp s.ct:=⟨h1,yz _,fun id o ho=>(by
     have:=h2 id
     rw [ho] at this
     cases hq:an s.hp id with
     | none=>rw [hq] at this;simp at this
     | some o'=>exact hh.aP id o' hq),fun id o ho _=>(by
     have:=h2 id
     rw [ho] at this
     cases hq:an s.hp id with
     | none=>rw [hq] at this;simp at this
     | some o'=>exact ⟨o',rfl⟩)⟩
   obtain ⟨S',k1,k2,k3,k4⟩:=LO hh hg;have zN:bT O m S' w ((t,v)::s.tm) tmps:=by
    intro i;simp only [aj]
    cases hb:yt t i with
    | true=>
     have:=yk hb
     subst this;exact (h3 hp m S' w s.ct cQ.refl k1).1 _ (lj (fun _ _ h=>h) k2 (fun _ _=>rfl) _ _ (ht t))
    | false=>
     exact lj (fun _ _ h=>h) k2 (fun _ _=>rfl) _ _ (ht i)
   obtain ⟨S1,g1,g2,g3,g4,g5⟩:=abA (s:={s with tm:=(t,v)::s.tm,hp:=hp}) zN k1 h;exact ⟨S1,g1,g2,g3,g4,fun base=>(k4 base).trans (g5 base)⟩
def aac (hO:gN O) (n:Nat) (hC:∀k,k<=n->nt O (ev O.prog O.aX k)) (h:Nat):∀(c:wS) (l k:Nat) (j:Nat),j<=n->∀(s:St) (ex:Ex) (s':St),
  bt O.prog O.aX (ev O.prog O.aX j) (comp O.P (O.hint h) c l k).1 s=some (ex,s')->AQ O h c s ex s':=by
 have refl:∀{s:St} {ex:Ex} {m:Mp} {S:Nat->Prop} {w:yi} {a:Act} {lo:Nat},bT O m S w s.tm a.tmps->aR O m S w s.hp s.ct->s.base<=s.ct->Marks lo S w a.defers->eG O m S w s ex s a.tmps.size lo (p7 ex) a w:=
  fun h1 h2 h3 h4=>⟨rfl,_,_,h1,h2,rfl,h3,bZ.refl,rfl,h4⟩
 have SU:∀{self:cw} {s:St} {r:Ex×St},bt O.prog O.aX self (.jB [⟨none,none,bad⟩]) s=some r->False:=by
  intro self s r hv;simp [bt,dB,bad,a7,dA,az] at hv
 intro c
 induction c with
 | skip=>
  intro l k j hj s ex s' hv ro lo m S w a cS ht hh hb hn aZ fb cI;simp only [comp,bt,yd,yo] at hv;obtain ⟨rfl,rfl⟩:=hv;exact wpIn_skip (refl ht hh hb cI)
 | label x=>
  intro l k j hj s ex s' hv ro lo m S w a cS ht hh hb hn aZ fb cI;simp only [comp,bt,yd,yo] at hv;obtain ⟨rfl,rfl⟩:=hv;exact wpIn_label (refl ht hh hb cI)
 | exit id=>
  intro l k j hj s ex s' hv ro lo m S w a cS ht hh hb hn aZ fb cI;simp only [comp,bt,yd,yo] at hv;obtain ⟨rfl,rfl⟩:=hv
  exact wpIn_exit (refl (ex:= .exit id) ht hh hb cI)
 | ret=>
  intro l k j hj s ex s' hv ro lo m S w a cS ht hh hb hn aZ fb cI;simp only [comp,bt,yd,yo] at hv;obtain ⟨rfl,rfl⟩:=hv
  exact wpIn_ret (refl (ex:= .ret) ht hh hb cI)
 | goto x=>intro l k j hj s ex s' hv;exact (SU (by simpa only [comp] using hv)).elim
 | refuse x=>intro l k j hj s ex s' hv;exact (SU (by simpa only [comp] using hv)).elim
 | region id ops d=>
  intro l k j hj s ex s' hv;simp only [comp] at hv;generalize hq:L5 O.P (O.hint h) ops d k=q at hv;obtain ⟨r,k'⟩:=q;have main:∀{s s':St} {ex:Ex},bt O.prog O.aX (ev O.prog O.aX j) (.jB r) s=some (ex,s')->AQ O h (.region id ops d) s ex s':=by
   intro s s' ex hv;simp only [bt] at hv
   cases ho:dB O.prog O.aX (ev O.prog O.aX j) r s with
   | none=>simp [ho] at hv
   | some s1=>
    simp only [ho,yd,yo] at hv;obtain ⟨rfl,rfl⟩:=hv;exact apD hO (hC j hj) h id ops d k (by rw [hq];exact ho)
  simp only at hv
  split at hv
  ·exact main hv
  ·rename_i t ts _;simp only [bt] at hv
   cases hf:oJ (t::ts) s with
   | none=>simp [hf] at hv
   | some s1=>
    simp only [hf] at hv;intro ro lo m S w a cS ht hh hb hn aZ fb cI;obtain ⟨S1,g1,g2,g3,g4,g5⟩:=abA ht hh hf;have h1:=main (s:=s1) (by simpa only [bt] using hv) ro lo m S1 w a cS g1 g2 (by rw [g3,g4];exact hb) hn aZ fb (Aj hh (g5 s.base) cI)
    refine wpIn_mono h1 (fun e a' w' hp=>?_)
    exact eG.then (ex1:= .normal) g3 (g5 s.base) hp
 | seq x y ihx ihy=>
  intro l k j hj s ex s' hv ro lo m S w a cS ht hh hb hn aZ fb cI;simp only [comp] at hv;generalize r9:comp O.P (O.hint h) x l k=qx at hv;obtain ⟨x',l1,k1⟩:=qx;simp only at hv;generalize Kg:comp O.P (O.hint h) y l1 k1=qy at hv;obtain ⟨y',l2,k2⟩:=qy;simp only [bt] at hv
  cases hx:bt O.prog O.aX (ev O.prog O.aX j) x' s with
  | none=>simp [hx] at hv
  | some r=>
   obtain ⟨ex1,s1⟩:=r;have h1:=ihx l k j hj s ex1 s1 (by rw [r9];exact hx) ro lo m S w a cS ht hh hb hn aZ fb cI
   refine wpIn_seq (wpIn_mono h1 ?_);rintro e a1 w1 ⟨rfl,m1,S1,g1,g2,g3,g4,g5,g6,g7⟩;have stop:ex1≠.normal->ex=ex1/\s'=s1:=by
    intro fM;rw [hx] at hv
    cases ex1 with
    | normal=>exact absurd rfl fM
    | ret=>simp only [yd,yo] at hv;exact ⟨hv.1.symm,hv.2.symm⟩
    | exit id=>simp only [yd,yo] at hv;exact ⟨hv.1.symm,hv.2.symm⟩
   cases ex1 with
   | normal=>
    simp only [hx] at hv;simp only [p7,Exit.then];have h2:=ihy l1 k1 j hj s1 ex s' (by rw [Kg];exact hv) ro lo m1 S1 w1 a1 (Lw g5 cS) g1 g2 (by rw [g3];exact g4) (by rw [g6];exact hn) aZ (xg fb g5.size) g7
    rw [g6] at h2
    exact wpIn_mono h2 (fun e a' w' hp=>eG.then (ex1:= .normal) g3 g5 hp)
   | ret=>
    obtain ⟨rfl,rfl⟩:=stop (by simp);exact ⟨rfl,m1,S1,g1,g2,g3,g4,g5,g6,g7⟩
   | exit id=>
    obtain ⟨rfl,rfl⟩:=stop (by simp);exact ⟨rfl,m1,S1,g1,g2,g3,g4,g5,g6,g7⟩
 | cond x p q ihp ihq=>
  intro l k j hj s ex s' hv ro lo m S w a cS ht hh hb hn aZ fb cI;simp only [comp] at hv;generalize r9:comp O.P (O.hint h) p (l+1) k=qx at hv;obtain ⟨p',l1,k1⟩:=qx;simp only at hv;generalize Kg:comp O.P (O.hint h) q l1 k1=qy at hv;obtain ⟨q',l2,k2⟩:=qy;simp only at hv;have main:∀(ex:Ex) (s':St),bt O.prog O.aX (ev O.prog O.aX j) (.cond (aK (O.hint h) x) p' q') s=some (ex,s')->(Code.cond x p q).wpIn (WF ro) 0 O.P (eG O m S w s ex s' a.tmps.size lo) a w:=by
   intro ex s' hv;simp only [bt] at hv;have rx:=ck (hO.hint h) ht x
   split at hv
   ·rename_i t hx;rw [hx] at rx;simp only [ah] at rx
    cases t with
    | true=>
     simp only [yx] at hv;exact wpIn_cond_true rx (ihp (l+1) k j hj s ex s' (by rw [r9];exact hv) ro lo m S w a cS ht hh hb hn aZ fb cI)
    | false=>
     simp only [yH] at hv;exact wpIn_cond_false rx (ihq l1 k1 j hj s ex s' (by rw [Kg];exact hv) ro lo m S w a cS ht hh hb hn aZ fb cI)
   ·cases hv
  cases EO:(O.hint h).out l with
  | none=>rw [EO] at hv;exact main ex s' hv
  | some live=>
   rw [EO] at hv;simp only at hv;rw [show bt O.prog O.aX (ev O.prog O.aX j) (.seq (.cond (aK (O.hint h) x) p' q') (.kp live)) s=match bt O.prog O.aX (ev O.prog O.aX j) (.cond (aK (O.hint h) x) p' q') s with | some (.normal,s1)=>some (.normal,aM live s1) | r=>r from rfl] at hv
   cases hx:bt O.prog O.aX (ev O.prog O.aX j) (.cond (aK (O.hint h) x) p' q') s with
   | none=>simp [hx] at hv
   | some r=>
    obtain ⟨ex1,s1⟩:=r;have h1:=main ex1 s1 hx;rw [hx] at hv
    cases ex1 with
    | normal=>
     simp only [yd,yo] at hv;obtain ⟨rfl,rfl⟩:=hv;exact wpIn_mono h1 (fun e a' w' hp=>eG.cK live hp)
    | ret=>simp only [yd,yo] at hv;obtain ⟨rfl,rfl⟩:=hv;exact h1
    | exit id=>simp only [yd,yo] at hv;obtain ⟨rfl,rfl⟩:=hv;exact h1
 | block id x ih=>
  intro l k j hj s ex s' hv ro lo m S w a cS ht hh hb hn aZ fb cI;simp only [comp] at hv;generalize r9:comp O.P (O.hint h) x l k=qx at hv;obtain ⟨x',r⟩:=qx;simp only at hv;have main:∀(ex:Ex) (s':St),bt O.prog O.aX (ev O.prog O.aX j) (.dD id x') s=some (ex,s')->(Code.block id x).wpIn (WF ro) 0 O.P (eG O m S w s ex s' a.tmps.size lo) a w:=by
   intro ex s' hv;simp only [bt] at hv
   cases hx:bt O.prog O.aX (ev O.prog O.aX j) x' s with
   | none=>simp [hx] at hv
   | some q=>
    obtain ⟨ex1,s1⟩:=q;have h1:=ih l k j hj s ex1 s1 (by rw [r9];exact hx) ro lo m S w a cS ht hh hb hn aZ fb cI
    refine wpIn_block (wpIn_mono h1 ?_);rintro e a1 w1 ⟨rfl,g⟩
    cases ex1 with
    | normal=>
     simp only [hx,yd,yo] at hv;obtain ⟨rfl,rfl⟩:=hv;exact ⟨rfl,g⟩
    | ret=>
     simp only [hx,yd,yo] at hv;obtain ⟨rfl,rfl⟩:=hv;exact ⟨rfl,g⟩
    | exit i=>
     simp only [hx] at hv
     cases OI:yt i id with
     | true=>
      rw [OI] at hv;simp only [yx,yd,yo] at hv;obtain ⟨rfl,rfl⟩:=hv
      have:=yk OI
      subst this;simp only [p7,Exit.inBlock,xB];exact ⟨rfl,g⟩
     | false=>
      rw [OI] at hv;simp only [yH,yd,yo] at hv;obtain ⟨rfl,rfl⟩:=hv;have fM:i≠id:=fun e=>by subst e;simp at OI
      simp only [p7,Exit.inBlock,fM,xk];exact ⟨rfl,g⟩
  have asv:∀live:List Nat,bt O.prog O.aX (ev O.prog O.aX j) (.seq (.dD id x') (.kp live)) s=some (ex,s')->(Code.block id x).wpIn (WF ro) 0 O.P (eG O m S w s ex s' a.tmps.size lo) a w:=by
   intro live hv;rw [show bt O.prog O.aX (ev O.prog O.aX j) (.seq (.dD id x') (.kp live)) s=match bt O.prog O.aX (ev O.prog O.aX j) (.dD id x') s with | some (.normal,s1)=>some (.normal,aM live s1) | r=>r from rfl] at hv
   cases hx:bt O.prog O.aX (ev O.prog O.aX j) (.dD id x') s with
   | none=>simp [hx] at hv
   | some r=>
    obtain ⟨ex1,s1⟩:=r;have h1:=main ex1 s1 hx;rw [hx] at hv
    cases ex1 with
    | normal=>
     simp only [yd,yo] at hv;obtain ⟨rfl,rfl⟩:=hv;exact wpIn_mono h1 (fun e a' w' hp=>eG.cK live hp)
    | ret=>simp only [yd,yo] at hv;obtain ⟨rfl,rfl⟩:=hv;exact h1
    | exit id=>simp only [yd,yo] at hv;obtain ⟨rfl,rfl⟩:=hv;exact h1
  split at hv
  ·exact asv _ hv
  ·exact main ex s' hv
 | loop x ih=>
  intro l k j hj s ex s' hv;simp only [comp] at hv;generalize r9:comp O.P (O.hint h) x (l+1) k=qx at hv;obtain ⟨x',r⟩:=qx;simp only at hv;have rounds:∀(j:Nat),j<=n->∀(s:St) (ex:Ex) (s':St),bt O.prog O.aX (ev O.prog O.aX j) (.loop ((O.hint h).live l) x') s=some (ex,s')->∃K,∀(ro:Option Nat) (lo:Nat) (m:Mp) (S:Nat->Prop) (w:yi) (a:Act),sX ro w->bT O m S w s.tm a.tmps->aR O m S w s.hp s.ct->s.base<=s.ct->(O.hint h).n<=a.tmps.size->O.w0.heap.size<=lo->lo<=w.heap.size->Marks lo S w a.defers->
    Code.roundsIn (WF ro) 0 O.P x (eG O m S w s ex s' a.tmps.size lo) K a w:=by
   intro j
   induction j with
   | zero=>
    intro hj s ex s' hv;simp only [bt] at hv
    cases hx:bt O.prog O.aX (ev O.prog O.aX 0) x' (aM ((O.hint h).live l) s) with
    | none=>simp [hx] at hv
    | some q=>
     obtain ⟨ex1,s1⟩:=q;have stop:ex1≠.normal->ex=ex1/\s'=s1:=by
      intro fM;rw [hx] at hv
      cases ex1 with
      | normal=>exact absurd rfl fM
      | ret=>simp only [yd,yo] at hv;exact ⟨hv.1.symm,hv.2.symm⟩
      | exit id=>simp only [yd,yo] at hv;exact ⟨hv.1.symm,hv.2.symm⟩
     refine ⟨1,fun ro lo m S w a cS ht hh hb hn aZ fb cI=>?_⟩;rw [roundsIn_succ];obtain ⟨m1,c1,c2,c3,c4,c5⟩:=PT (live:=(O.hint h).live l) ht hh hb;have h1:=ih (l+1) k 0 hj _ ex1 s1 (by rw [r9];exact hx) ro lo m1 S w a cS c1 c2 (by rw [c3];exact c4) hn aZ fb cI
     refine wpIn_mono h1 ?_;rintro e a1 w1 hp;have ao:=eG.then (O:=O) (m:=m) (S:=S) (w:=w) (s:=s) (ex1:= .normal) c3 c5 hp;obtain ⟨rfl,_⟩:=hp
     cases ex1 with
     | normal=>simp only [hx,HL] at hv;cases hv
     | ret=>obtain ⟨rfl,rfl⟩:=stop (by simp);exact ao
     | exit id=>obtain ⟨rfl,rfl⟩:=stop (by simp);exact ao
   | succ j ihj=>
    intro hj s ex s' hv;simp only [bt] at hv
    cases hx:bt O.prog O.aX (ev O.prog O.aX (j+1)) x' (aM ((O.hint h).live l) s) with
    | none=>simp [hx] at hv
    | some q=>
     obtain ⟨ex1,s1⟩:=q;have stop:ex1≠.normal->ex=ex1/\s'=s1:=by
      intro fM;rw [hx] at hv
      cases ex1 with
      | normal=>exact absurd rfl fM
      | ret=>simp only [yd,yo] at hv;exact ⟨hv.1.symm,hv.2.symm⟩
      | exit id=>simp only [yd,yo] at hv;exact ⟨hv.1.symm,hv.2.symm⟩
     have more:∃K,ex1= .normal->∀(ro:Option Nat) (lo:Nat) (m:Mp) (S:Nat->Prop) (w:yi) (a:Act),sX ro w->bT O m S w s1.tm a.tmps->aR O m S w s1.hp s1.ct->s1.base<=s1.ct->(O.hint h).n<=a.tmps.size->O.w0.heap.size<=lo->lo<=w.heap.size->Marks lo S w a.defers->
       Code.roundsIn (WF ro) 0 O.P x (eG O m S w s1 ex s' a.tmps.size lo) K a w:=by
      cases ex1 with
      | normal=>
       rw [hx] at hv;have ew:ev O.prog O.aX (j+1) (.loop ((O.hint h).live l) x') s1=some (ex,s'):=hv;rw [HM] at ew;obtain ⟨K,hK⟩:=ihj (by omega) s1 ex s' ew;exact ⟨K,fun _=>hK⟩
      | ret=>exact ⟨0,fun h=>by cases h⟩
      | exit id=>exact ⟨0,fun h=>by cases h⟩
     obtain ⟨K,hK⟩:=more;refine ⟨K+1,fun ro lo m S w a cS ht hh hb hn aZ fb cI=>?_⟩;rw [roundsIn_succ];obtain ⟨m1,c1,c2,c3,c4,c5⟩:=PT (live:=(O.hint h).live l) ht hh hb;have h1:=ih (l+1) k (j+1) hj _ ex1 s1 (by rw [r9];exact hx) ro lo m1 S w a cS c1 c2 (by rw [c3];exact c4) hn aZ fb cI
     refine wpIn_mono h1 ?_;rintro e a1 w1 hp;have ao:=eG.then (O:=O) (m:=m) (S:=S) (w:=w) (s:=s) (ex1:= .normal) c3 c5 hp;obtain ⟨rfl,_⟩:=hp
     cases ex1 with
     | normal=>
      simp only [p7,Exit.then];obtain ⟨_,m2,S2,g1,g2,g3,g4,g5,g6,g7⟩:=ao;have h2:=hK rfl ro lo m2 S2 w1 a1 (Lw g5 cS) g1 g2 (by rw [g3];exact g4) (by rw [g6];exact hn) aZ (xg fb g5.size) g7
      rw [g6] at h2;revert h2;generalize hA:a.tmps.size=sz;intro h2;have step:∀(K:Nat) (a':Act) (w':yi),Code.roundsIn (WF ro) 0 O.P x (eG O m2 S2 w1 s1 ex s' sz lo) K a' w'->Code.roundsIn (WF ro) 0 O.P x (eG O m S w s ex s' sz lo) K a' w':=by
       intro K
       induction K with
       | zero=>intro a' w' Bt;exact Bt
       | succ K ihK=>
        intro a' w' Bt;rw [roundsIn_succ] at Bt ⊢;refine wpIn_mono Bt (fun e a'' Ox hq=>?_)
        cases e with
        | normal=>exact ihK a'' Ox hq
        | exit id=>exact eG.then (ex1:= .normal) g3 g5 hq
        | goto x=>exact eG.then (ex1:= .normal) g3 g5 hq
        | ret=>exact eG.then (ex1:= .normal) g3 g5 hq
        | panic x=>exact eG.then (ex1:= .normal) g3 g5 hq
        | outgrown=>exact eG.then (ex1:= .normal) g3 g5 hq
      exact step K a1 w1 h2
     | ret=>obtain ⟨rfl,rfl⟩:=stop (by simp);exact ao
     | exit id=>obtain ⟨rfl,rfl⟩:=stop (by simp);exact ao
  obtain ⟨K,hK⟩:=rounds j hj s ex s' hv;intro ro lo m S w a cS ht hh hb hn aZ fb cI;exact wpIn_loop_rounds K (hK ro lo m S w a cS ht hh hb hn aZ fb cI)
 | scope x ih=>
  intro l k j hj s ex s' hv ro lo m S w a cS ht hh hb hn aZ fb cI;simp only [comp] at hv;exact ahL (ih l k j hj s ex s' hv ro lo m S w a cS ht hh hb hn aZ fb cI) (fun l a w=>eG.none l)
 | rangeFunc f ps as_ body iha ihb=>
  intro l k j hj s ex s' hv;simp only [comp] at hv;generalize r9:comp O.P (O.hint h) as_ l k=qx at hv;obtain ⟨x',l1,k1⟩:=qx;simp only at hv;generalize Kg:comp O.P (O.hint h) body l1 k1=qy at hv;obtain ⟨y',l2,k2⟩:=qy;simp only at hv
  cases ha:zb (O.hint h).n ps.toList with
  | false=>rw [ha] at hv;exact (SU hv).elim
  | true=>
   rw [ha] at hv;exact asu hO (hC j hj) ⟨l,k,by rw [r9]⟩ ⟨l1,k1,by rw [Kg]⟩ ha hv
end
end
section
open Go
section
variable {O:br} {m:Mp} {S:Nat->Prop} {w:yi}
def Yg:∀(vals:List AV) (j i:Nat),aj (eh j vals) (j+i)=vals.getD i .undef
 | [],j,i=>by simp [eh,aj]
 | v::r,j,i=>by
  cases i with
  | zero=>simp [eh,aj]
  | succ i=>
   simp only [eh,aj];have hb:yt j (j+(i+1))=false:=by
    cases hq:yt j (j+(i+1)) with
    | false=>rfl
    | true=>have:=yk hq;omega
   rw [hb,show j+(i+1)=j+1+i by omega];rw [Yg r (j+1) i]
   simp
def Yh {vals:List AV} {args:Array yh} (n:Nat) (h:av O.ae m S w vals args.toList):bT O m S w (eh 0 vals) (args++vX n undef):=by
 intro i
 have:=Yg vals 0 i
 rw [yf] at this;rw [this,xz]
 cases hv:vals[i]? with
 | none=>simp only [Option.getD_none,ah]
 | some v=>
  obtain ⟨u,h1,h2⟩:=Qr h hv;have hl:i<args.size:=by
   grind
  have:(args++vX n undef).getD i undef=u:=by
   rw [wO,tW hl]
   grind
  grind
def EP (tmps:Array yh):ycF->Sem yh
 | .tmp t=>pure (tmps.getD t undef)
 | .cell a t=>do loadVar t (<-asAddr (tmps.getD a undef))
def ahM (fn:yaq) (tmps:Array yh):results fn tmps=(do let vs <-fn.results.mapM (EP tmps);pure (if h:vs.size=1 then vs[0] else .tuple vs)):=by
 rfl
def PV {s:St} {ct:Nat} {tmps:Array yh} (hh:aR O m S w s.hp ct) (ht:bT O m S w s.tm tmps):∀{rs:List ycF} {rv:List RV} {vs:List AV},oB O.P rs=some rv->li s rv=some vs->
  ∃us,(rs.mapM (EP tmps)).run O.P w= .ok us w/\av O.ae m S w vs us
 | [],rv,vs,h1,h2=>by
  simp only [oB,yd] at h1;subst h1;simp only [li,yd] at h2;subst h2;exact ⟨[],by simp,by simp [av]⟩
 | .tmp t::rs,rv,vs,h1,h2=>by
  simp only [oB] at h1
  cases hc:oB O.P rs with
  | none=>simp [hc] at h1
  | some l=>
   simp only [hc,yd] at h1;subst h1;simp only [li,results1] at h2
   cases hl:li s l with
   | none=>simp [hl] at h2
   | some Uw=>
    simp only [hl,yd] at h2;subst h2;obtain ⟨us,g1,g2⟩:=PV hh ht hc hl;refine ⟨tmps.getD t undef::us,?_,by simp only [av];exact ⟨_,_,rfl,ht t,g2⟩⟩
    rw [um];simp only [EP,Sem.run_bind,Sem.run_pure,Result.andThen_ok];rw [g1];rfl
 | .cell a t::rs,rv,vs,h1,h2=>by
  simp only [oB] at h1
  cases hz:cz O.P t with
  | none=>simp [hz] at h1
  | some sz=>
   cases Kh:dO O.P t with
   | none=>simp [hz,Kh] at h1
   | some ag=>
    cases hc:oB O.P rs with
    | none=>simp [hz,Kh,hc] at h1
    | some l=>
     simp only [hz,Kh,hc,yd] at h1;subst h1;simp only [li] at h2
     cases bW:results1 s (.cell a sz ag) with
     | none=>simp [bW] at h2
     | some v=>
      cases hl:li s l with
      | none=>simp [bW,hl] at h2
      | some Uw=>
       simp only [bW,hl,yd] at h2;subst h2;obtain ⟨us,g1,g2⟩:=PV hh ht hc hl;have ra:=ht a;have key:∃b o u,tmps.getD a undef= .pointer (some ⟨b,o,none⟩)/\(loadVar t ⟨b,o,none⟩).run O.P w= .ok u w/\ah O.ae m S w v u:=by
        simp only [results1] at bW;cases hta:aj s.tm a<;>rw [hta] at bW ra<;>simp only [reduceCtorEq] at bW
        ·rename_i id o;simp only [ah] at ra;obtain ⟨p,hm,hp⟩:=ra
         cases hg:an s.hp id with
         | none=>simp [hg] at bW
         | some ob=>
          cases ob<;>simp only [hg,reduceCtorEq] at bW
          have UZ:=Qq (o:=0) (n:=0) hh hg hm;obtain ⟨u,q1,q2⟩:=L7 hz Kh (pK o _ p.b p.o UZ) bW;exact ⟨p.b,p.o+o,u,hp,q1,q2⟩
        ·rename_i cs;simp only [ah] at ra;obtain ⟨b,o,hp,_,_,UZ⟩:=ra;obtain ⟨u,q1,q2⟩:=L7 hz Kh UZ bW;exact ⟨b,o,u,hp,q1,q2⟩
       obtain ⟨b,o,u,q1,q2,q3⟩:=key;refine ⟨u::us,?_,by simp only [av];exact ⟨_,_,rfl,q3,g2⟩⟩
       rw [um]
       have:(EP tmps (.cell a t)).run O.P w= .ok u w:=by
        simp only [EP];rw [q1];simp [asAddr,q2]
       rw [Sem.run_bind,this,Result.andThen_ok,Sem.run_bind,g1];rfl
def ag5 {s:St} {ct:Nat} {tmps:Array yh} {fn:yaq} {rv:List RV} {v:AV} (hh:aR O m S w s.hp ct) (ht:bT O m S w s.tm tmps) (h1:oB O.P fn.results.toList=some rv) (h2:gY s rv=some v):
  ∃u,(results fn tmps).run O.P w= .ok u w/\ah O.ae m S w v u:=by
 unfold gY at h2
 cases hl:li s rv with
 | none=>simp [hl] at h2
 | some vs=>
  obtain ⟨us,g1,g2⟩:=PV hh ht h1 hl;have hlen:=gM _ _ g2;have hm:(fn.results.mapM (EP tmps)).run O.P w= .ok us.toArray w:=by
   rw [Array.mapM_eq_mapM_toList];simp [g1]
  have eL:(results fn tmps).run O.P w= .ok (if h:us.toArray.size=1 then us.toArray[0] else .tuple us.toArray) w:=by
   rw [ahM,Sem.run_bind,hm];rfl
  rw [hl] at h2
  split at h2
  ·rename_i v' n8;simp only [yd] at n8 h2;subst n8;simp only [av] at g2
   grind
  ·rename_i dW fM n8;simp only [yd] at n8 h2;subst n8;subst h2;have h1:¬us.toArray.size=1:=by
    intro h
    have:vs.length=1:=by simp_all
    cases vs with
    | nil=>simp at this
    | cons x t=>
     cases t with
     | nil=>exact fM x rfl
     | cons y t=>simp at this
   simp only [ah]
   grind
  ·grind
def Qd {s:St} {tmps:Array yh} {fn:yaq} {rv:List RV} {v:AV} {m0:Mp} {S0:Nat->Prop} {w0:yi} {hp0:Hp} {OJ:Nat} (h1:oB O.P fn.results.toList=some rv) (h2:gY s rv=some v) (fp:OJ<=s.ct):∀(rs:List Nat) (w:yi),
  rs.Nodup->(∀r,r∈rs->w.heap[r]? =some (.deferred (some []))/\¬S r/\w0.heap.size<=r)->O.w0.heap.size<=w0.heap.size->aR O m S w s.hp s.ct->bT O m S w s.tm tmps->bZ m0 S0 w0 hp0 m S w s.hp OJ->
  ycH Fence.wide 0 O.P fn tmps (sL O m0 S0 w0 hp0 OJ v s.hp s.ct) (rs.map (fun r=>{target:= .collected r,args:=#[]})) .returning w
 | [],w,_,_,_,hh,ht,hf=>by
  obtain ⟨u,g1,g2⟩:=ag5 hh ht h1 h2;exact ⟨u,g1,u,m,S,rfl,hh,fp,g2,hf⟩
 | r::rs,w,lR,hr,aZ,hh,ht,hf=>by
  obtain ⟨eV,dn⟩:=List.nodup_cons.1 lR;obtain ⟨a1,a2,a3⟩:=hr r ub;have fm:=DS w r (.deferred none);have n5:¬dX m s.hp r:=fun ho=>Y2 hh ho _ a1
  have Bt:=Xn hh fm a2 n5 (xg aZ a3)
  have aQ:fG S w {w with heap:=w.heap.setIfInBounds r (.deferred none)}:=fun b hb=>fm.other b (fun e=>a2 (e▸hb))
  have rU:bZ m0 S0 w0 hp0 m S {w with heap:=w.heap.setIfInBounds r (.deferred none)} s.hp OJ:=by
   refine ⟨hf.os,hf.tape,hf.output,by rw [fm.size];exact hf.size,fun b hb ho=>(fm.other b (by omega)).trans (hf.same b hb ho),hf.sub,fun b hb=>(fm.other b (fun e=>a2 (e▸hf.sub b hb))).trans (hf.still b hb),hf.new,hf.own,hf.old,fun b x hb=>?_⟩
   obtain ⟨x',hx⟩:=hf.loops b x hb;exact ⟨x',(fm.other b (fun e=>by subst e;rw [a1] at hx;cases hx)).trans hx⟩
  refine ⟨by simp,.inl ⟨r,_,rfl,?_,Qd h1 h2 fp rs _ dn (fun r' bC=>?_) aZ Bt (Ai (fun _ _ h=>h) (fun _ h=>h) aQ ht) rU⟩⟩
  ·simp only [Instr.takeDeferred,Sem.run_bind,Xo (P:=O.P) a1 (fun _ _ _=>by simp),Result.andThen_ok,La (P:=O.P) a1 (fun _ _ _=>by simp),Sem.run_pure]
  ·obtain ⟨b1,b2,b3⟩:=hr r' (vl _ bC);exact ⟨(fm.other r' (fun e=>eV (e▸bC))).trans b1,b2,b3⟩
end
section
variable {O:br} {self:cw}
def asw (hO:gN O) (hS:∀v s ex s',self v s=some (ex,s')->∀c h l k,(comp O.P (O.hint h) c l k).1=v->AQ O h c s ex s') {n:Nat} {F:au} (hF:O.prog n=some F) {hp:Hp} {ct:Nat} {vals:List AV} {ex:Ex} {s:St}
  (hv:self F.body ⟨eh 0 vals,hp,ct,ct⟩=some (ex,s)) (hex:ex= .normal\/ex= .ret) {v:AV} (hr:gY s F.dd=some v):AP O n hp ct vals v s.hp s.ct:=by
 intro m S w args hh fQ;obtain ⟨fn,q1,q2,q3⟩:=hO.prog n F hF;obtain ⟨c,q4,q5,q6,q7⟩:=PG q2;refine .inl ⟨LR q1 (by rw [q4];rfl) q3,?_⟩
 have hc:=hS _ _ _ _ hv c n 0 0 q5.symm;have hw:=hc none w.heap.size m S w {tmps:=args++vX (fn.ntmps-args.size) undef,defers:=[]} (fun l hl=>by cases hl) (Yh _ fQ) hh (yz _) (by simp;omega) hh.fP (yz _) ⟨[],rfl,by simp,by simp⟩
 refine callsIn_of_wp_marks (F:=Fence.wide) q1 q4 trivial (wpIn_mono hw ?_);rintro e a' w' ⟨rfl,m',S',k1,k2,k3,k4,k5,k6,rs,k7,k8,k9⟩;have main:ycH Fence.wide 0 O.P fn a'.tmps (sL O m S w hp ct v s.hp s.ct) a'.defers .returning w':=by
  rw [k7];exact Qd q6 hr k4 rs w' k8 k9 hh.fP k2 k1 k5
 rcases hex with rfl | rfl
 ·exact main
 ·exact main
def As.mono {P:y7} {f:tq} {args:Array yh} {w:yi} {R R':yaD->yi->Prop} (h:As P f args w R) (hr:∀e w',R e w'->R' e w'):As P f args w R':=by
 rcases h with ⟨h1,h2⟩ | ⟨u,w',h1,h2⟩
 ·exact .inl ⟨h1,CallsIn.mono h2 hr⟩
 ·exact .inr ⟨u,w',h1,hr _ _ h2⟩
def aiX {w:yi} {S:Nat->Prop} (hg:AO O w) (hs:∀b,S b->b<w.heap.size):aR O eO S w [] 0:=
 ⟨(fun id o p h _=>by simp [an] at h),(fun id p h=>by cases h),(fun i j oi oj pi pj h=>by simp [an] at h),hs,(fun id p h=>by cases h),(fun id p h=>by cases h),hg.1,hg.2,(fun id o h=>by simp [an] at h)⟩
def QC {b:Nat} (h:dX eO [] b):False:=by
 obtain ⟨_,_,_,h,_⟩:=h;simp [an] at h
def PB {n:Nat} {vals:List AV} {v r:AV} {s:St} (h:AP O n [] 0 vals v s.hp s.ct) (hr:result s.hp v=some r):ep O n vals r:=by
 intro w S args hg hs fQ hp;refine As.mono (h eO S w args (aiX hg hs) fQ) ?_;rintro e w' ⟨u,m',S',rfl,k1,k2,k3,k4⟩;have aZ:∀b,dX m' s.hp b->w.heap.size<=b:=fun b hb=>(k4.own b hb).elim (fun h=>(QC h).elim) (fun h=>h)
 obtain ⟨S2,g1,g2,g3,g4⟩:=aiO (lo:=w.heap.size) k1 hr k3 aZ;refine ⟨u,S2,rfl,⟨k4.os,k4.tape,k4.output,k4.size,fun b hb=>k4.same b hb QC⟩,fun b hb=>g1 b (k4.sub b hb),fun b hb=>?_,g3,g4⟩;rcases g2 b hb with h | h
 ·rcases k4.new b h with h | h | h
  ·exact .inl h
  ·exact (QC h).elim
  ·exact .inr h
 ·exact .inr (aZ b h)
def ahN (hO:gN O) (hS:∀v s ex s',self v s=some (ex,s')->∀c h l k,(comp O.P (O.hint h) c l k).1=v->AQ O h c s ex s'):nt O self:=by
 have heap:∀(n:Nat) (F:au),O.prog n=some F->∀(hp:Hp) (ct:Nat) (vals:List AV) (ex:Ex) (s:St) (v:AV),self F.body ⟨eh 0 vals,hp,ct,ct⟩=some (ex,s)->(ex= .normal\/ex= .ret)->gY s F.dd=some v->AP O n hp ct vals v s.hp s.ct:=
  fun n F hF hp ct vals ex s v h1 h2 h3=>asw hO hS hF h1 h2 h3
 refine ⟨?_,?_,fun hp ct l xs v ao aW hv=>akZ hS hv⟩
 ·intro n vals r hv;unfold bF at hv
  cases hL:O.aX.pure n with
  | some sp=>rw [hL] at hv;exact hO.aX n sp vals r hL hv
  | none=>
   simp only [hL] at hv
   cases hF:O.prog n with
   | none=>simp [hF] at hv
   | some F=>
    simp only [hF] at hv
    split at hv
    ·rename_i s hb
     cases hr:gY s F.dd with
     | none=>simp [hr] at hv
     | some v=>simp only [hr] at hv;exact PB (heap n F hF [] 0 vals .normal s v hb (.inl rfl) hr) hv
    ·rename_i s hb
     cases hr:gY s F.dd with
     | none=>simp [hr] at hv
     | some v=>simp only [hr] at hv;exact PB (heap n F hF [] 0 vals .ret s v hb (.inr rfl) hr) hv
    ·cases hv
 ·intro hp ct n vals v ao aW hv;unfold iC at hv
  cases hL:O.aX.heap n with
  | some sp=>rw [hL] at hv;exact hO.EM n sp hp ct vals v ao aW hL hv
  | none=>
   simp only [hL] at hv
   cases hF:O.prog n with
   | none=>simp [hF] at hv
   | some F=>
    grind
def WW (hO:gN O):∀n,nt O (ev O.prog O.aX n):=by
 intro n
 induction n using vB with
 | _ n ih=>
  refine ahN hO (fun v s ex s' hv c h l k hc=>?_)
  cases n with
  | zero=>rw [HL] at hv;cases hv
  | succ n=>
   rw [HM,<-hc] at hv;exact aac hO n (fun k hk=>ih k (by omega)) h c l k n (yz _) s ex s' hv
def sound (hO:gN O) {n f:Nat} {vals:List AV} {r:AV} (h:Ux O.prog O.aX n f vals=some r):ep O f vals r:=(WW hO n).pure f vals r h
end
end
def gD:List Nat->List Nat->Bool
 | [],_=>true
 | a::x,b::y=>yt a b&&gD x y
 | _::_,[]=>false
def mc (sub:List Nat):List Nat->Nat->Option Nat
 | [],k=>bif gD sub [] then some k else none
 | b::r,k=>bif gD sub (b::r) then some k else mc sub r (k+1)
def Nk:List AV->Option AV
 | [.str s,.str sep]=>
  bif yK s.length 4294967281 then
   match mc sep s 0 with
   | some i=>some (.ap [.str (s.take i),.str (s.drop (i+sep.length)),.bool true])
   | none=>some (.ap [.str s,.str [],.bool false])
  else none
 | _=>none
def Lc:List AV->Option AV
 | [.str s,.str p]=>some (bif gD p s then .ap [.str (s.drop p.length),.bool true] else .ap [.str s,.bool false])
 | _=>none
def Ld:List AV->Option AV
 | [.str s,.str p]=>some (.bool (gD p s))
 | _=>none
def K0:List AV->Option AV
 | [.str s,.str p]=>some (.str (bif gD p s then s.drop p.length else s))
 | _=>none
def EQ (i:Nat):List Nat->Bool
 | []=>false
 | j::r=>bif yt j i then true else EQ i r
def kN (set:List Nat):List Nat->List Nat
 | []=>[]
 | b::r=>bif EQ b set then kN set r else b::r
def Ed:List Nat->Bool
 | []=>true
 | b::r=>yK b 128&&Ed r
def trimS:List AV->Option AV
 | [.str s,.str set]=>bif Ed set&&(yK s.length 4294967281&&yK set.length 4294967281) then some (.str (kN set (kN set s.reverse).reverse)) else none
 | _=>none
def gP (s:List Nat):Nat->List Nat
 | 0=>[]
 | n+1=>s++gP s n
def At:List AV->Option AV
 | [.str s,.int .i64 (.ofNat n)]=>bif yG n 1099511627776&&yG (s.length*n) 1099511627776 then some (.str (gP s n)) else none
 | _=>none
def mK:Nat->Nat->List Nat->List Nat
 | 0,_,acc=>acc
 | f+1,n,acc=>bif yK n 10 then (48+n)::acc else mK f (n/10) ((48+n%10)::acc)
def aq (n:Nat):List Nat:=mK (n+1) n []
def aT:Int->List Nat
 | .ofNat n=>aq n
 | .negSucc n=>45::aq (n+1)
def AR:Int->Bool
 | .ofNat n=>yK n 9223372036854775808
 | .negSucc n=>yK n 9223372036854775808
def IN:List AV->Option AV
 | [.int .i64 n]=>bif AR n then some (.str (aT n)) else none
 | _=>none
def Ac:List AV->Option AV
 | [.int .u64 (.ofNat n),.int .i64 10]=>bif yK n 18446744073709551616 then some (.str (aq n)) else none
 | _=>none
def cL:List Nat->Nat->Option Nat
 | [],a=>some a
 | b::r,a=>bif yG 48 b&&yG b 57 then cL r (10*a+(b-48)) else none
def IP:List AV->Option AV
 | [.str s]=>
  bif yK 0 s.length&&yG s.length 18 then
   match cL s 0 with | some n=>some (.ap [.int .i64 n,.undef]) | none=>none
  else none
 | _=>none
def nC:List AV->Option AV
 | [.int .u64 (.ofNat x),.int .u64 (.ofNat y),.int .u64 (.ofNat c)]=>
  bif yG c 1&&(yK x 18446744073709551616&&yK y 18446744073709551616) then some (.ap [.int .u64 ((x+y+c)%18446744073709551616:Nat),.int .u64 ((x+y+c)/18446744073709551616:Nat)]) else none
 | _=>none
def Az:List AV->Option AV
 | [.int .u64 (.ofNat x),.int .u64 (.ofNat y),.int .u64 (.ofNat c)]=>
  bif yG c 1&&(yK x 18446744073709551616&&yK y 18446744073709551616) then some (.ap [.int .u64 ((x+18446744073709551616*2-y-c)%18446744073709551616:Nat),.int .u64 (bif yG (y+c) x then 0 else 1)]) else none
 | _=>none
def qW:List AV->Option AV
 | [.int .u64 (.ofNat x),.int .u64 (.ofNat y)]=>bif yK x 18446744073709551616&&yK y 18446744073709551616 then some (.ap [.int .u64 (x*y/18446744073709551616:Nat),.int .u64 (x*y%18446744073709551616:Nat)]) else none
 | _=>none
def dw:Nat->Nat->Nat
 | 0,_=>0
 | f+1,n=>bif yt n 0 then 0 else 1+dw f (n/2)
def HY:List AV->Option AV
 | [.int .u64 (.ofNat x)]=>bif yK x 18446744073709551616 then some (.int .i64 (dw 64 x)) else none
 | _=>none
def EF:List AV->Option AV
 | [.int .u64 (.ofNat x)]=>bif yK x 18446744073709551616 then some (.int .i64 (64-dw 64 x:Nat)) else none
 | _=>none
def LS:List AV->Option AV
 | [.aB .f64 b]=>some (.int .u64 b)
 | _=>none
def KW:List AV->Option AV
 | [.int .u64 (.ofNat n)]=>some (.aB .f64 n)
 | _=>none
section
open Go
section
variable {O:br} {n:Nat}
def Hc {w w':yi} (h:RowKit.Below w.heap.size w w'):Calm w w':=⟨h.os,h.tape,h.output,h.size,h.block⟩
def aiY {w:yi} (k:Nat):Calm w (w.drewN k):=⟨rfl,rfl,rfl,yz _,fun _ _=>rfl⟩
def aiZ {w:yi} (h:AO O w) {a:Addr} {v:yh} (hc:O.w0.cell? a=some v):w.cell? a=some v:=by
 have hb:a.block<O.w0.heap.size:=by
  unfold World.cell? at hc
  cases hq:O.w0.heap[a.block]? with
  | none=>simp [hq] at hc
  | some o=>exact (xv.1 hq).1
 unfold World.cell? at hc ⊢;rw [h.1 _ hb];exact hc
def ot {vals:List AV} {r:AV} (hr:∀S w' lo u,ah O.ae eO S w' r u->mU O.ae S w' lo r u)
  (fK:∀args w,(callFunc (O.ae n) args).run O.P w= .ok (.enter (O.ae n) args) w)
  (h:∀w S args,AO O w->av O.ae eO S w vals args.toList->wg O.P (O.ae n) args w fun e w'=>∃u,e= .returned u/\Calm w w'/\∀S,ah O.ae eO S w' r u):ep O n vals r:=by
 intro w S args hg hS dU _;refine .inl ⟨fK args w,Go.callsIn_wide.2 ((h w S args hg dU).mono ?_)⟩;rintro e w' ⟨u,rfl,hc,hu⟩;exact ⟨u,S,rfl,hc,fun _ h=>h,fun _ h=> .inl h,fun b hb=>yA (hS b hb) hc.size,hr S w' _ u (hu S)⟩
def Lx {vals:List AV} {r:AV} (hr:∀S w' lo u,ah O.ae eO S w' r u->mU O.ae S w' lo r u)
  (h:∀w S args,av O.ae eO S w vals args.toList->∃u,(callFunc (O.ae n) args).run O.P w= .ok (.value u) w/\∀S,ah O.ae eO S w r u):ep O n vals r:=by
 intro w S args _ hS dU _;obtain ⟨u,h1,h2⟩:=h w S args dU;exact .inr ⟨u,w,h1,u,S,rfl,Calm.refl,fun _ h=>h,fun _ h=> .inl h,hS,hr S w _ u (h2 S)⟩
def HN {s:List Nat}:∀S w' lo u,ah O.ae eO S w' (.str s) u->mU O.ae S w' lo (.str s) u:=fun S w' lo u h=>⟨[],rfl,h,rfl⟩
def Q0 {k:IntKind} {z:Int}:∀S w' lo u,ah O.ae eO S w' (.int k z) u->mU O.ae S w' lo (.int k z) u:=fun S w' lo u h=>⟨[],rfl,h,rfl⟩
def ank {k:FloatKind} {z:Nat}:∀S w' lo u,ah O.ae eO S w' (.aB k z) u->mU O.ae S w' lo (.aB k z) u:=fun S w' lo u h=>⟨[],rfl,h,rfl⟩
def ak1 {b:Bool}:∀S w' lo u,ah O.ae eO S w' (.bool b) u->mU O.ae S w' lo (.bool b) u:=fun S w' lo u h=>⟨[],rfl,h,rfl⟩
def Xp {S:Nat->Prop} {w':yi} {lo:Nat}:∀{vs:List AV} {us:List yh},(∀v,v∈vs->(∀ex sz k cs,v≠.cf ex sz k cs)/\aV v=true)->av O.ae eO S w' vs us->kS O.ae S w' lo vs us []
 | [],us,_,h=>by simp only [av] at h;exact ⟨h,rfl⟩
 | v::vs,us,hv,h=>by
  simp only [av] at h;obtain ⟨u,t,rfl,h1,h2⟩:=h;have h3:=hv v (by simp);refine ⟨u,t,[],[],rfl,rfl,?_,Xp (fun v hm=>hv v (by simp [hm])) h2⟩;cases v<;>first | exact ⟨rfl,h1,h3.2⟩ | exact absurd rfl (h3.1 _ _ _ _)
def D6 {vs:List AV} (hv:∀v,v∈vs->(∀ex sz k cs,v≠.cf ex sz k cs)/\aV v=true):∀S w' lo u,ah O.ae eO S w' (.ap vs) u->mU O.ae S w' lo (.ap vs) u:=by
 intro S w' lo u h;obtain ⟨xs,rfl,h⟩:=h;exact ⟨xs,[],rfl,Xp hv h,by simp⟩
def EG {S:Nat->Prop} {w:yi} {a:AV} {args:Array yh} (h:av O.ae eO S w [a] args.toList):∃u,args=#[u]/\ah O.ae eO S w a u:=by
 simp only [av] at h
 grind
def AS {S:Nat->Prop} {w:yi} {a b:AV} {args:Array yh} (h:av O.ae eO S w [a,b] args.toList):∃u v,args=#[u,v]/\ah O.ae eO S w a u/\ah O.ae eO S w b v:=by
 simp only [av] at h
 grind
def abB {S:Nat->Prop} {w:yi} {a b c:AV} {args:Array yh} (h:av O.ae eO S w [a,b,c] args.toList):∃u v x,args=#[u,v,x]/\ah O.ae eO S w a u/\ah O.ae eO S w b v/\ah O.ae eO S w c x:=by
 simp only [av] at h
 grind
def Hd {S:Nat->Prop} {w:yi} {s:List Nat} {l:List UInt8} (h:l.map xi=s):ah O.ae eO S w (.str s) (.string ⟨l.toArray⟩):=by
 simp only [ah];exact ⟨_,rfl,h⟩
def toNat_inj {a b:UInt8}:yt a.toNat b.toNat=(a==b):=by
 by_cases h:a=b
 ·simp_all
 ·have h':a.toNat≠b.toNat:=fun e=>h (UInt8.toNat_inj.1 e)
  have e:(a==b)=false:=by simp_all
  rw [e]
  cases hq:yt a.toNat b.toNat with
  | false=>rfl
  | true=>exact absurd (yk hq) h'
def Hk:∀(p s:List UInt8),gD (p.map xi) (s.map xi)=p.isPrefixOf s
 | [],s=>by cases s<;>rfl
 | a::p,[]=>rfl
 | a::p,b::s=>by
  simp only [xj,gD,List.isPrefixOf,Hk p s,toNat_inj]
def Xq:∀(s sep:List UInt8) (k:Nat),mc (sep.map xi) (s.map xi) k=if 0<=Lib.index s sep then some (k+(Lib.index s sep).toNat) else none
 | [],sep,k=>by
  simp only [List.map_nil,mc,Lib.index]
  cases sep with
  | nil=>simp [gD]
  | cons a r=>simp [gD]
 | b::s,sep,k=>by
  have ih:=Xq s sep (k+1);have hp:=Hk sep (b::s);simp only [xj,mc,hp,Lib.index]
  grind
def Y5 (b:UInt8):∀cs:List UInt8,EQ b.toNat (cs.map xi)=cs.contains b
 | []=>rfl
 | c::cs=>by
  simp only [xj,EQ,Y5 b cs,List.contains_cons,toNat_inj]
  grind
def Qe (cs:List UInt8):∀l:List UInt8,kN (cs.map xi) (l.map xi)=(l.dropWhile (cs.contains ·)).map xi
 | []=>rfl
 | b::l=>by
  simp only [xj,kN,Y5,List.dropWhile_cons,Qe cs l]
  grind
def Y6 (l:List UInt8):∀n,gP (l.map xi) n=(Lib.repeatL l n).map xi
 | 0=>rfl
 | n+1=>by simp only [gP,Lib.repeatL,xu,Y6 l n]
def WX:∀(f n:Nat) (acc:List Nat),n<f->mK f n acc=(Lib.decDigits n).map xi++acc
 | 0,n,acc,h=>by omega
 | f+1,n,acc,h=>by
  rw [mK,Lib.decDigits];by_cases hn:n<10
  ·rw [show yK n 10=true from yy hn,yx,dif_pos hn]
   have:(ybZ (48+n)).toNat=48+n:=by
    rw [yaL];omega
   grind
  ·have hb:yK n 10=false:=by
    cases hq:yK n 10 with
    | false=>rfl
    | true=>exact absurd (yr hq) (by omega)
   rw [hb,yH,dif_neg hn,WX f (n/10) _ (by omega),xu,List.append_assoc]
   have:(ybZ (48+n%10)).toNat=48+n%10:=by
    rw [yaL];omega
   grind
def QD (n:Nat):aq n=(Lib.decDigits n).map xi:=by
 rw [aq,WX (n+1) n [] (by omega),List.append_nil]
def ak2 (n:Int):aT n=(Lib.itoa n).map xi:=by
 cases n with
 | ofNat k=>
  have:¬yby k<0:=by simp
  simp only [aT,Lib.itoa,this,xk,QD];rfl
 | negSucc k=>
  have:Int.negSucc k<0:=Int.negSucc_lt_zero k
  simp only [aT,Lib.itoa,this,xB,QD,xj];rfl
def QE:∀f x:Nat,dw f x=Lib.bitLenAux f x
 | 0,_=>rfl
 | f+1,x=>by
  rw [dw,Lib.bitLenAux];by_cases h:x=0
  ·simp_all
  ·have hb:yt x 0=false:=by
    cases hq:yt x 0 with
    | false=>rfl
    | true=>exact absurd (yk hq) h
   rw [hb,yH,yB h,QE f]
def Xr:∀{cs:List UInt8},Ed (cs.map xi)=true->∀(j:Nat) b,cs[j]? =some b->b.toNat<128
 | [],_,j,b,h=>by simp at h
 | c::cs,h,j,b,hb=>by
  simp only [xj,Ed,yg] at h
  cases j with
  | zero=>
   simp_all
  | succ j=>exact Xr h.2 j b (by simpa using hb)
def Y7:∀{l:List UInt8} {a z:Nat},cL (l.map xi) a=some z->Lib.decFrom a l=some z
 | [],a,z,h=>h
 | b::l,a,z,h=>by
  simp only [xj,cL] at h
  cases hb:(yG 48 b.toNat&&yG b.toNat 57) with
  | false=>rw [hb] at h;cases h
  | true=>
   rw [hb] at h;simp only [yg] at hb;have h1:=yr hb.1;have h2:=yr hb.2
   have:=Y7 h
   rw [Lib.decFrom,Lib.digitVal,yM ⟨h1,h2⟩]
   grind
def ak3 {l:List UInt8} {z:Nat} (h:cL (l.map xi) 0=some z) (h0:0<l.length):Lib.atoi l=some (z:Int):=by
 cases l with
 | nil=>simp at h0
 | cons b r=>
  have hd:=Y7 h;have hb:48<=b.toNat:=by
   simp only [xj,cL] at h
   cases hb:(yG 48 b.toNat&&yG b.toNat 57) with
   | false=>rw [hb] at h;cases h
   | true=>
    simp_all
  have h1:(b==45)=false:=by
   have:b≠45:=fun e=>by subst e;exact absurd hb (by decide)
   grind
  have h2:(b==43)=false:=by
   have:b≠43:=fun e=>by subst e;exact absurd hb (by decide)
   grind
  simp only [Lib.atoi,h1,h2,yD,xk,Lib.decNat,List.isEmpty_cons,hd,Option.map_some]
section
variable {f:tq}
def agE (hf:O.ae n=f) (fK:∀args w,(callFunc f args).run O.P w= .ok (.enter f args) w)
  (hc:∀(s p:ByteArray) (w:yi),wg O.P f #[.string s,.string p] w fun e w'=>e= .returned (.tuple #[.string ⟨(Lib.trimPrefix s.data.toList p.data.toList).toArray⟩,.bool (Lib.hasPrefix s.data.toList p.data.toList)])/\w'=w):
  ∀vals r,Lc vals=some r->ep O n vals r:=by
 intro vals r h;unfold Lc at h
 split at h
 ·rename_i s p;simp only [yd] at h;subst h;refine ot ?_ (by rw [hf];exact fK) ?_
  ·cases gD p s<;>exact D6 (by simp [aV])
  ·intro w S args hg dU;obtain ⟨u,v,rfl,h1,h2⟩:=AS dU;obtain ⟨t1,rfl,rfl⟩:=h1;obtain ⟨t2,rfl,rfl⟩:=h2;rw [hf];refine (hc t1 t2 w).mono ?_;rintro e w' ⟨rfl,rfl⟩;refine ⟨_,rfl,Calm.refl,fun S=>?_⟩;rw [Hk,xo];unfold Lib.trimPrefix Lib.hasPrefix
   cases hp:t2.data.toList.isPrefixOf t1.data.toList with
   | true=>
    simp only [yx,xB,ah,av]
    simp_all
   | false=>
    simp only [yH,yD,xk,ah,av]
    grind
 ·cases h
def agF (hf:O.ae n=f) (fK:∀args w,(callFunc f args).run O.P w= .ok (.enter f args) w)
  (hc:∀(s p:ByteArray) (w:yi),wg O.P f #[.string s,.string p] w fun e w'=>e= .returned (.bool (Lib.hasPrefix s.data.toList p.data.toList))/\w'=w):
  ∀vals r,Ld vals=some r->ep O n vals r:=by
 intro vals r h;unfold Ld at h
 split at h
 ·rename_i s p;simp only [yd] at h;subst h;refine ot ak1 (by rw [hf];exact fK) ?_
  intro w S args hg dU;obtain ⟨u,v,rfl,h1,h2⟩:=AS dU;obtain ⟨t1,rfl,rfl⟩:=h1;obtain ⟨t2,rfl,rfl⟩:=h2;rw [hf];refine (hc t1 t2 w).mono ?_;rintro e w' ⟨rfl,rfl⟩;refine ⟨_,rfl,Calm.refl,fun S=>?_⟩;rw [Hk];simp only [ah,Lib.hasPrefix]
 ·cases h
def agA (hf:O.ae n=f) (fK:∀args w,(callFunc f args).run O.P w= .ok (.enter f args) w)
  (hc:∀(s p:ByteArray) (w:yi),wg O.P f #[.string s,.string p] w fun e w'=>e= .returned (.string ⟨(Lib.trimPrefix s.data.toList p.data.toList).toArray⟩)/\w'=w):
  ∀vals r,K0 vals=some r->ep O n vals r:=by
 intro vals r h;unfold K0 at h
 split at h
 ·rename_i s p;simp only [yd] at h;subst h;refine ot HN (by rw [hf];exact fK) ?_
  intro w S args hg dU;obtain ⟨u,v,rfl,h1,h2⟩:=AS dU;obtain ⟨t1,rfl,rfl⟩:=h1;obtain ⟨t2,rfl,rfl⟩:=h2;rw [hf];refine (hc t1 t2 w).mono ?_;rintro e w' ⟨rfl,rfl⟩;refine ⟨_,rfl,Calm.refl,fun S=>?_⟩;rw [Hk,xo];refine Hd ?_;unfold Lib.trimPrefix Lib.hasPrefix
  cases hp:t2.data.toList.isPrefixOf t1.data.toList with
  | true=>simp [List.map_drop]
  | false=>simp
 ·cases h
def anl (hf:O.ae n=f) (fK:∀args w,(callFunc f args).run O.P w= .ok (.enter f args) w) {a:Addr} {m:Int} (hm:O.w0.cell? a=some (.int .i64 m))
  (hc:∀(s sep:ByteArray) (w:yi),s.size<4294967281->w.cell? a=some (.int .i64 m)->wg O.P f #[.string s,.string sep] w fun e w'=>e= .returned (.tuple #[.string ⟨(Lib.cut s.data.toList sep.data.toList).1.toArray⟩,.string ⟨(Lib.cut s.data.toList sep.data.toList).2.1.toArray⟩,.bool (Lib.cut s.data.toList sep.data.toList).2.2])/\∃n,w'=w.drewN n):
  ∀vals r,Nk vals=some r->ep O n vals r:=by
 intro vals r h;unfold Nk at h
 split at h
 ·rename_i s sep
  cases hb:yK s.length 4294967281 with
  | false=>rw [hb] at h;cases h
  | true=>
   rw [hb] at h;have key:∀(q:List UInt8×List UInt8×Bool),(∀t1 t2:ByteArray,t1.data.toList.map xi=s->t2.data.toList.map xi=sep->r= .ap [.str ((Lib.cut t1.data.toList t2.data.toList).1.map xi),.str ((Lib.cut t1.data.toList t2.data.toList).2.1.map xi),.bool (Lib.cut t1.data.toList t2.data.toList).2.2])->
     (∃a b c,r= .ap [.str a,.str b,.bool c])->ep O n [.str s,.str sep] r:=by
    intro q hq apF;obtain ⟨a',b',c',rfl⟩:=apF;refine ot (D6 (by simp [aV])) (by rw [hf];exact fK) ?_
    intro w S args hg dU;obtain ⟨u,v,rfl,h1,h2⟩:=AS dU;obtain ⟨t1,rfl,e1⟩:=h1;obtain ⟨t2,rfl,e2⟩:=h2;rw [hf];have hl:t1.size<4294967281:=by
     have:=mM hb
     rw [<-e1,xo] at this
     simp_all
    refine (hc t1 t2 w hl (aiZ hg hm)).mono ?_;rintro e w' ⟨rfl,k,rfl⟩;refine ⟨_,rfl,aiY k,fun S=>?_⟩;simp only [ah,av]
    grind
   refine key ([],[],false) ?_ ?_
   ·intro t1 t2 e1 e2;subst e1;subst e2;rw [Xq] at h;unfold Lib.cut;by_cases h0:0<=Lib.index t1.data.toList t2.data.toList
    ·simp_all
    ·grind
   ·grind
 ·cases h
def ak4 (hf:O.ae n=f) (fK:∀args w,(callFunc f args).run O.P w= .ok (.enter f args) w)
  (hc:∀(s cs:ByteArray) (w:yi),s.size<=9223372036854775807->cs.size<4294967281->(∀(j:Nat) b,cs.data.toList[j]? =some b->b.toNat<128)->wg O.P f #[.string s,.string cs] w fun e w'=>e= .returned (.string ⟨(Lib.trimS s.data.toList cs.data.toList).toArray⟩)/\RowKit.Below w.heap.size w w'):
  ∀vals r,trimS vals=some r->ep O n vals r:=by
 intro vals r h;unfold trimS at h
 split at h
 ·rename_i s cs
  cases hb:(Ed cs&&(yK s.length 4294967281&&yK cs.length 4294967281)) with
  | false=>rw [hb] at h;cases h
  | true=>
   rw [hb] at h;simp only [yx,yd] at h;subst h;simp only [yg] at hb;refine ot HN (by rw [hf];exact fK) ?_
   intro w S args hg dU;obtain ⟨u,v,rfl,h1,h2⟩:=AS dU;obtain ⟨t1,rfl,rfl⟩:=h1;obtain ⟨t2,rfl,rfl⟩:=h2;have mD:=mM hb.2.1;have rS:=mM hb.2.2;rw [xo] at mD rS;rw [hf];refine (hc t1 t2 w (by rw [Lib.size_eq];omega) (by rw [Lib.size_eq];omega) (Xr hb.1)).mono ?_;rintro e w' ⟨rfl,hw⟩;refine ⟨_,rfl,Hc hw,fun S=>Hd ?_⟩;simp only [Lib.trimS,Lib.trimLeftS,Lib.trimRightS];rw [<-yai,Qe,<-yai,Qe]
 ·cases h
def ahO (hf:O.ae n=f) (fK:∀args w,(callFunc f args).run O.P w= .ok (.enter f args) w)
  (hc:∀(s:ByteArray) (c:Nat) (w:yi),c<=9223372036854775807->s.size*c<=140737488355328->wg O.P f #[.string s,.int .i64 c] w fun e w'=>e= .returned (.string ⟨(Lib.repeatL s.data.toList c).toArray⟩)/\RowKit.Below w.heap.size w w'):
  ∀vals r,At vals=some r->ep O n vals r:=by
 intro vals r h;unfold At at h
 split at h
 ·rename_i s c
  cases hb:(yG c 1099511627776&&yG (s.length*c) 1099511627776) with
  | false=>rw [hb] at h;cases h
  | true=>
   rw [hb] at h;simp only [yx,yd] at h;subst h;simp only [yg] at hb;have l1:=yr hb.1;have l2:=yr hb.2;refine ot HN (by rw [hf];exact fK) ?_
   intro w S args hg dU;obtain ⟨u,v,rfl,h1,h2⟩:=AS dU;obtain ⟨t1,rfl,rfl⟩:=h1;subst h2;rw [hf];rw [xo] at l2;refine (hc t1 c w (by omega) (by rw [Lib.size_eq];omega)).mono ?_;rintro e w' ⟨rfl,hw⟩;exact ⟨_,rfl,Hc hw,fun S=>Hd (Y6 _ _).symm⟩
 ·cases h
def ak5 (hf:O.ae n=f) (fK:∀args w,(callFunc f args).run O.P w= .ok (.enter f args) w)
  (hc:∀(z:Int) (w:yi),-9223372036854775808<=z->z<=9223372036854775807->AO O w->wg O.P f #[.int .i64 z] w fun e w'=>e= .returned (.string ⟨(Lib.itoa z).toArray⟩)/\Calm w w'):
  ∀vals r,IN vals=some r->ep O n vals r:=by
 intro vals r h;unfold IN at h
 split at h
 ·rename_i z
  cases hb:AR z with
  | false=>rw [hb] at h;cases h
  | true=>
   rw [hb] at h;simp only [yx,yd] at h;subst h;have hz: -9223372036854775808<=z/\z<=9223372036854775807:=by
    cases z with
    | ofNat k=>have:=mM hb;show -9223372036854775808<=(k:Int)/\(k:Int)<=9223372036854775807;omega
    | negSucc k=>have:=mM hb;omega
   refine ot HN (by rw [hf];exact fK) ?_
   intro w S args hg dU;obtain ⟨u,rfl,h1⟩:=EG dU;subst h1;rw [hf];refine (hc z w hz.1 hz.2 hg).mono ?_;rintro e w' ⟨rfl,hw⟩;exact ⟨_,rfl,hw,fun S=>Hd (ak2 z).symm⟩
 ·cases h
def agB (hf:O.ae n=f) (fK:∀args w,(callFunc f args).run O.P w= .ok (.enter f args) w)
  (hc:∀(z:Nat) (w:yi),z<18446744073709551616->AO O w->wg O.P f #[.int .u64 z,.int .i64 10] w fun e w'=>e= .returned (.string ⟨(Lib.decDigits z).toArray⟩)/\Calm w w'):
  ∀vals r,Ac vals=some r->ep O n vals r:=by
 intro vals r h;unfold Ac at h
 split at h
 ·rename_i z
  cases hb:yK z 18446744073709551616 with
  | false=>rw [hb] at h;cases h
  | true=>
   rw [hb] at h;simp only [yx,yd] at h;subst h;refine ot HN (by rw [hf];exact fK) ?_
   intro w S args hg dU;obtain ⟨u,v,rfl,h1,h2⟩:=AS dU;subst h1;subst h2;rw [hf];refine (hc z w (mM hb) hg).mono ?_;rintro e w' ⟨rfl,hw⟩;exact ⟨_,rfl,hw,fun S=>Hd (QD z).symm⟩
 ·cases h
def ak6 (hf:O.ae n=f) (fK:∀args w,(callFunc f args).run O.P w= .ok (.enter f args) w)
  (hc:∀(s:ByteArray) (z:Int) (w:yi),s.size<=18->Lib.atoi s.data.toList=some z->wg O.P f #[.string s] w fun e w'=>e= .returned (.tuple #[.int .i64 z,.nilIface])/\Calm w w'):
  ∀vals r,IP vals=some r->ep O n vals r:=by
 intro vals r h;unfold IP at h
 split at h
 ·rename_i s
  cases hb:(yK 0 s.length&&yG s.length 18) with
  | false=>rw [hb] at h;cases h
  | true=>
   rw [hb] at h;simp only [yx] at h;simp only [yg] at hb;have l1:=mM hb.1;have l2:=yr hb.2
   split at h
   ·rename_i z hz;simp only [yd] at h;subst h;refine ot (D6 (by simp [aV])) (by rw [hf];exact fK) ?_
    intro w S args hg dU;obtain ⟨u,rfl,h1⟩:=EG dU;obtain ⟨t1,rfl,rfl⟩:=h1;rw [xo] at l1 l2;have ha:Lib.atoi t1.data.toList=some (z:Int):=ak3 hz l1;rw [hf];refine (hc t1 z w (by rw [Lib.size_eq];exact l2) ha).mono ?_
    simp only [ah,av]
    grind
   ·cases h
 ·cases h
def ai0 (hf:O.ae n=f) (fK:∀args w,(callFunc f args).run O.P w= .ok (.enter f args) w)
  (hc:∀(x y:Nat) (w:yi),x<18446744073709551616->y<18446744073709551616->wg O.P f #[.int .u64 x,.int .u64 y] w fun e w'=>e= .returned (.tuple #[.int .u64 ((x*y/18446744073709551616:Nat):Int),.int .u64 ((x*y%18446744073709551616:Nat):Int)])/\w'=w):
  ∀vals r,qW vals=some r->ep O n vals r:=by
 intro vals r h;unfold qW at h
 split at h
 ·rename_i x y
  cases hb:(yK x 18446744073709551616&&yK y 18446744073709551616) with
  | false=>rw [hb] at h;cases h
  | true=>
   rw [hb] at h;simp only [yx,yd] at h;subst h;simp only [yg] at hb;refine ot (D6 (by simp [aV])) (by rw [hf];exact fK) ?_
   intro w S args hg dU;obtain ⟨u,v,rfl,h1,h2⟩:=AS dU;subst h1;subst h2;rw [hf];refine (hc x y w (mM hb.1) (mM hb.2)).mono ?_;rintro e w' ⟨rfl,rfl⟩;refine ⟨_,rfl,Calm.refl,fun S=>?_⟩;simp only [ah,av]
   grind
 ·cases h
def ai1 (hf:O.ae n=f) (fK:∀args w,(callFunc f args).run O.P w= .ok (.enter f args) w)
  (hc:∀(x:Int) (w:yi),0<=x->x<=18446744073709551615->wg O.P f #[.int .u64 x] w fun e w'=>e= .returned (.int .i64 (Lib.bitLen x.toNat:Nat))/\w'=w):
  ∀vals r,HY vals=some r->ep O n vals r:=by
 intro vals r h;unfold HY at h
 split at h
 ·rename_i x
  cases hb:yK x 18446744073709551616 with
  | false=>rw [hb] at h;cases h
  | true=>
   rw [hb] at h;simp only [yx,yd] at h;subst h
   have:=mM hb
   refine ot Q0 (by rw [hf];exact fK) ?_
   intro w S args hg dU;obtain ⟨u,rfl,h1⟩:=EG dU;subst h1;rw [hf];refine (hc (yby x) w (tY x) (by show (x:Int)<=_;omega)).mono ?_;rintro e w' ⟨rfl,rfl⟩;refine ⟨_,rfl,Calm.refl,fun S=>?_⟩;rw [QE];rfl
 ·cases h
def ak7 (hf:O.ae n=f) (fK:∀args w,(callFunc f args).run O.P w= .ok (.enter f args) w)
  (hc:∀(x:Int) (w:yi),0<=x->x<=18446744073709551615->wg O.P f #[.int .u64 x] w fun e w'=>e= .returned (.int .i64 (64-(Lib.bitLen x.toNat:Nat)))/\w'=w):
  ∀vals r,EF vals=some r->ep O n vals r:=by
 intro vals r h;unfold EF at h
 split at h
 ·rename_i x
  cases hb:yK x 18446744073709551616 with
  | false=>rw [hb] at h;cases h
  | true=>
   rw [hb] at h;simp only [yx,yd] at h;subst h
   have:=mM hb
   have hle:∀f x,Lib.bitLenAux f x<=f:=by
    intro f
    induction f with
    | zero=>intro x;exact yz _
    | succ f ih=>
     intro x;rw [Lib.bitLenAux]
     grind
   refine ot Q0 (by rw [hf];exact fK) ?_
   intro w S args hg dU;obtain ⟨u,rfl,h1⟩:=EG dU;subst h1;rw [hf];refine (hc (yby x) w (tY x) (by show (x:Int)<=_;omega)).mono ?_;rintro e w' ⟨rfl,rfl⟩;refine ⟨_,rfl,Calm.refl,fun S=>?_⟩;simp only [ah,QE];show Value.int .i64 (64-(Lib.bitLenAux 64 x:Int))=Value.int .i64 ((64-Lib.bitLenAux 64 x:Nat):Int)
   grind
 ·cases h
def ag6 (hf:O.ae n=f) (hc:∀(b:Nat) (w:yi),(callFunc f #[.float .f64 b]).run O.P w= .ok (.value (.int .u64 b)) w):
  ∀vals r,LS vals=some r->ep O n vals r:=by
 intro vals r h;unfold LS at h
 split at h
 ·rename_i b;simp only [yd] at h;subst h;refine Lx Q0 ?_;intro w S args dU;obtain ⟨u,rfl,h1⟩:=EG dU;simp only [ah] at h1;subst h1;rw [hf];exact ⟨_,hc b w,fun S=>rfl⟩
 ·cases h
def agx (hf:O.ae n=f) (hc:∀(b:Nat) (w:yi),(callFunc f #[.int .u64 b]).run O.P w= .ok (.value (.float .f64 b)) w):
  ∀vals r,KW vals=some r->ep O n vals r:=by
 intro vals r h;unfold KW at h
 split at h
 ·rename_i b;simp only [yd] at h;subst h;refine Lx ank ?_;intro w S args dU;obtain ⟨u,rfl,h1⟩:=EG dU;simp only [ah] at h1;subst h1;rw [hf];exact ⟨_,hc b w,fun S=>rfl⟩
 ·cases h
def ai2 (hf:O.ae n=f)
  (hc:∀(x y c:Nat) (w:yi),c<=1->(callFunc f #[.int .u64 x,.int .u64 y,.int .u64 c]).run O.P w= .ok (.value (.tuple #[.int .u64 (((x+y+c)%18446744073709551616:Nat):Int),.int .u64 (((x+y+c)/18446744073709551616:Nat):Int)])) w):
  ∀vals r,nC vals=some r->ep O n vals r:=by
 intro vals r h;unfold nC at h
 split at h
 ·rename_i x y c
  cases hb:(yG c 1&&(yK x 18446744073709551616&&yK y 18446744073709551616)) with
  | false=>rw [hb] at h;cases h
  | true=>
   rw [hb] at h;simp only [yx,yd] at h;subst h;simp only [yg] at hb;refine Lx (D6 (by simp [aV])) ?_;intro w S args dU;obtain ⟨u,v,z,rfl,h1,h2,h3⟩:=abB dU;subst h1;subst h2;subst h3;rw [hf];refine ⟨_,hc x y c w (yr hb.1),fun S=>?_⟩;simp only [ah,av]
   grind
 ·cases h
def ai3 (hf:O.ae n=f)
  (hc:∀(x y b:Nat) (w:yi),b<=1->(callFunc f #[.int .u64 x,.int .u64 y,.int .u64 b]).run O.P w= .ok (.value (.tuple #[.int .u64 (((x+18446744073709551616-y-b)%18446744073709551616:Nat):Int),.int .u64 ((if x<y+b then 1 else 0:Nat):Int)])) w):
  ∀vals r,Az vals=some r->ep O n vals r:=by
 intro vals r h;unfold Az at h
 split at h
 ·rename_i x y c
  cases hb:(yG c 1&&(yK x 18446744073709551616&&yK y 18446744073709551616)) with
  | false=>rw [hb] at h;cases h
  | true=>
   rw [hb] at h;simp only [yx,yd] at h;subst h;simp only [yg] at hb;have ef:=yr hb.1;have hy:=mM hb.2.2;refine Lx (D6 (by simp [aV])) ?_;intro w S args dU;obtain ⟨u,v,z,rfl,h1,h2,h3⟩:=abB dU;subst h1;subst h2;subst h3;rw [hf];refine ⟨_,hc x y c w ef,fun S=>?_⟩;simp only [ah,av];refine ⟨_,rfl,_,_,rfl,?_,_,_,rfl,?_,rfl⟩
   ·grind
   ·congr 1
    by_cases h:x<y+c
    ·have:yG (y+c) x=false:=by
      cases hq:yG (y+c) x with
      | false=>rfl
      | true=>have:=yr hq;omega
     grind
    ·rw [yy (by omega),yB h];rfl
 ·cases h
end
end
end
end VE
