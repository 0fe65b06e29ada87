import Derived.RangeFuncLeaves
import Derived.OrdersIn
import Derived.LoopNIn
import Derived.RangeFuncIn
import Derived.Lib.Index
import Derived.Lib.ItoaNum
import Derived.Lib.Atoi
import Derived.Lib.BitFns
import Derived.Lib.Repeat
import Derived.Lib.SlTrimSet
import Derived.Shelf.Strings.Cut
import Derived.Shelf.Strings.Prefix
import Derived.Shelf.Small.Bits
import Derived.RowKit
import Derived.Test.YtfdcefmdjiokdaaGreatDoorUaa
set_option linter.all false
set_option maxRecDepth 100000
open Array renaming getD_eq_getD_getElem?→wR,getElem?_append_left→yaf,getElem?_eq_some_iff→xu,replicate→ue
open Bool renaming and_eq_true→yg,false_eq_true→yD,not_eq_true'→uX,or_eq_false_iff→yaM,or_eq_true→yaa
open Classical renaming em→uI
open Go renaming Call→tR,Calls→wm,Code→wU,Deferred→yab,Ending→yaN,Exit→ud,Func→yaA,FuncId→tE,LeavesInM→ycU,Loop→uG,Next→yaB,Obj→tZ,Oper→yZ,Operand→xv,Program→y5,ResultVar→ycS,RoundIn→yby,TypeId→yC,Value→yh,World→yi
open Int renaming natCast_nonneg→yai,ofNat→ybN
open List renaming countP_cons→ybB,getD_eq_getElem?_getD→xx,getElem?_cons_zero→vU,getElem?_eq_some_iff→wv,length_append→yR,length_cons→yz,length_drop→xO,length_map→xo,length_nil→yK,length_take→yO,mapM_cons→uD,map_append→xC,map_cons→xm,map_reverse→yat,mem_append→wC,mem_cons→wA,mem_cons_of_mem→wS,mem_cons_self→vH,size_toArray→uY
open Nat renaming add_mul→wh,beq→yr,ble→yF,ble_eq_true_of_le→yv,blt→yJ,eq_of_beq_eq_true→yj,eq_of_mul_eq_mul_right→yao,eq_or_lt_of_le→vh,eq_zero_or_pos→xi,le_of_ble_eq_true→yq,le_of_lt_succ→yas,le_refl→yA,le_trans→xg,lt_of_lt_of_le→yu,lt_or_ge→vE,lt_succ_self→tU,mul_le_mul_right→yQ,strongRecOn→vC,testBit→uV,zero_add→yf,zero_le→tG
open Ne renaming symm→ycT
open Option renaming bind_some→xZ,getD_some→uz
open Option.some renaming injEq→yb
open Prod.mk renaming injEq→ym
open UInt8 renaming ofNat→ycr,toNat→xh,toNat_ofNat'→yaT
namespace VE
open Go (IntKind)
section
open Go
section
variable {O:bk} {m m':Mp} {S:Nat->Prop} {w:yi} {f:Nat->Option Nat}
def DY (f:Nat->Option Nat) (m m':Mp):Prop:=∀id j,f id=some j->m' j=m id
mutual
def YU {ab:Nat->Nat} (hf:DY f m m'):∀(v:AV) (u:yh),af ab m S w v u->af ab m' S w (bS f v) u
 | .int _ _,_,h | .bool _,_,h | .aK _ _,_,h | .str _,_,h | .kD,_,h | .ae,_,h | .iA,_,h | .jC,_,h | .undef,_,h=>by
  simpa only [bS,af] using h
 | .ptr id o,u,h=>by
  simp only [bS]
  cases hi:f id with
  | none=>simp only [af]
  | some j=>
   simp only [af] at h ⊢;rw [hf id j hi];exact h
 | .aH cs,u,h=>by
  simp only [bS];exact pC (fun _ h=>h) (fun _ _=>rfl) _ _ (by simp [aW]) h
 | .aA ex n cs,u,h=>by
  simp only [bS];exact pC (fun _ h=>h) (fun _ _=>rfl) _ _ (by simp [aW]) h
 | .cr _ _ _ _,u,h=>by simp only [af] at h
 | .ay id o n,u,h=>by
  simp only [bS]
  cases hi:f id with
  | none=>simp only [af]
  | some j=>
   simp only [af] at h ⊢;rw [hf id j hi];exact h
 | .fn (.f g) first cap,u,h=>by
  simp only [bS,af] at h ⊢;obtain ⟨fi,ca,h1,h2,h3⟩:=h;exact ⟨fi,ca,h1,Aa hf first _ h2,Aa hf cap _ h3⟩
 | .fn (.y l) first cap,u,h=>by
  simp only [bS]
  cases hi:f l with
  | none=>simp only [af]
  | some j=>
   simp only [af] at h ⊢;rw [hf l j hi];exact h
 | .map id,u,h=>by
  simp only [bS]
  cases hi:f id with
  | none=>simp only [af]
  | some j=>
   simp only [af] at h ⊢;rw [hf id j hi];exact h
 | .jo ks vs,u,h=>by
  simp only [bS];exact pC (fun _ h=>h) (fun _ _=>rfl) _ _ (by simp [aW]) h
 | .it id,u,h=>by
  simp only [bS]
  cases hi:f id with
  | none=>simp only [af]
  | some j=>
   simp only [af] at h ⊢;rw [hf id j hi];exact h
 | .agg cs,u,h=>by
  simp only [bS,af] at h ⊢;obtain ⟨xs,h1,h2⟩:=h;exact ⟨xs,h1,Aa hf cs _ h2⟩
 | .au cs,u,h=>by
  simp only [bS,af] at h ⊢;obtain ⟨xs,h1,h2⟩:=h;exact ⟨xs,h1,Aa hf cs _ h2⟩
def Aa {ab:Nat->Nat} (hf:DY f m m'):∀(vs:List AV) (us:List yh),aq ab m S w vs us->aq ab m' S w (fG f vs) us
 | [],us,h=>by simpa only [fG,aq] using h
 | v::r,us,h=>by
  simp only [fG,aq] at h ⊢;obtain ⟨u,t,h1,h2,h3⟩:=h;exact ⟨u,t,h1,YU hf v u h2,Aa hf r t h3⟩
end
def ahm {ab:Nat->Nat} (hf:DY f m m') {cs:List AV} {b o:Nat} (h:bI ab m S w cs b o):bI ab m' S w (fG f cs) b o:=by
 obtain ⟨us,h1,_,h3⟩:=qw cs b o h;exact Ds _ us o (Aa hf cs us h1) h3
def PJ:∀cs:List AV,(fG f cs).length=cs.length
 | []=>rfl
 | c::r=>by simp [fG,PJ r]
def XR:∀(tm:Env) (i:Nat),aj (kE f tm) i=bS f (aj tm i)
 | [],i=>by simp [kE,aj,bS]
 | (j,v)::r,i=>by
  simp only [kE,aj]
  cases yr j i with
  | true=>rfl
  | false=>exact XR r i
def W2 (tm:Env) (i:Nat):∀live:List Nat,aj (cG tm live) i=aj tm i\/aj (cG tm live) i= .undef
 | []=> .inr rfl
 | j::r=>by
  simp only [cG,aj]
  cases hb:yr j i with
  | true=>rw [yj hb];exact .inl rfl
  | false=>exact W2 tm i r
def XS {tm:Env} {tmps:Array yh} (hf:DY f m m') (h:bP O m S w tm tmps):bP O m' S w (kE f tm) tmps:=fun i=>by
 rw [XR];exact YU hf _ _ (h i)
def ajp {id j:Nat} {o:Obj} {p:Pl} (hf:DY f m m') (hm:m id=some p) (hj:m' j=some p) (h:eJ O m S w id o):eJ O m' S w j (lm f o):=by
 cases o with
 | cells rw pu ex sz cs=>
  obtain ⟨q,arr,t,h1,h2,h3,h4,h5,h6,h7,h8,h9,iJ⟩:=h;rw [hm] at h1;injection h1 with h1;subst h1
  cases pu with
  | true=>exact ⟨p,arr,t,hj,h2,h3,h4,h5,h6,BB (fun _ h=>h) (fun _ _=>rfl) _ _ _ (h8 rfl) rfl h7,h8,h9,iJ⟩
  | false=>exact ⟨p,arr,t,hj,h2,h3,by rw [yG,PJ];exact h4,h5,by rw [yG,PJ];exact h6,ahm hf h7,by simp,h9,iJ⟩
 | mp rw ks vs=>
  obtain ⟨q,es,clock,h1,h2,h3,h4,h5,h6⟩:=h;rw [hm] at h1;injection h1 with h1;subst h1
  exact ⟨p,es,clock,hj,h2,Aa hf _ _ h3,Aa hf _ _ h4,h5,h6⟩
 | si s pos=>
  obtain ⟨q,t,h1,h2,h3,h4⟩:=h;rw [hm] at h1;injection h1 with h1;subst h1
  exact ⟨p,t,hj,h2,h3,h4⟩
 | lp tm ps as_ body st pe=>
  obtain ⟨q,l,hi,h1,h2,h3,h4,h5,h6,h7,h8⟩:=h;rw [hm] at h1;injection h1 with h1;subst h1
  exact ⟨p,l,hi,hj,h2,h3,h4,h5,h6,XS hf h7,h8⟩
def W3 {i:Nat}:∀{l:List Nat} {k j:Nat},lZ i l k=some j->k<=j/\l[j-k]? =some i
 | [],k,j,h=>by simp [lZ] at h
 | x::r,k,j,h=>by
  simp only [lZ] at h
  cases hb:yr x i with
  | true=>
   simp_all
  | false=>
   rw [hb] at h;obtain ⟨h1,h2⟩:=W3 h
   grind
def sJ {a b:Nat}:yJ a b=true↔a<b:=by simp_all
def J9 {hp:Hp} {j:Nat} {o':Obj}:∀{l:List Nat} {k:Nat} {acc:Hp},ak (ki hp f l k acc) j=some o'->
  (∃i id o,l[i]? =some id/\j=k+i/\ak hp id=some o/\o'=lm f o)\/ak acc j=some o'
 | [],k,acc,h=> .inr h
 | x::r,k,acc,h=>by
  simp only [ki] at h
  cases hx:ak hp x with
  | none=>
   simp only [hx] at h;rcases J9 h with ⟨i,id,o,h1,h2,h3,h4⟩ | h
   ·exact .inl ⟨i+1,id,o,by simpa using h1,by omega,h3,h4⟩
   ·grind
  | some o=>
   simp only [hx] at h;rcases J9 h with ⟨i,id,o,h1,h2,h3,h4⟩ | h
   ·exact .inl ⟨i+1,id,o,by simpa using h1,by omega,h3,h4⟩
   ·rw [fC] at h;by_cases hc:k=j
    ·simp only [hc,xA,yb] at h;exact .inl ⟨0,x,o,by simp,by omega,hx,h.symm⟩
    ·grind
def Ka {base:Nat} {j:Nat} {o':Obj}:∀{hp:Hp},ak (jP base f hp) j=some o'->j<base/\∃o,ak hp j=some o/\o'=lm f o
 | [],h=>by simp [jP,ak] at h
 | (i,q)::r,h=>by
  simp only [jP] at h
  cases hb:yJ i base with
  | true=>
   rw [hb] at h;simp only [yt] at h;rw [fC] at h;by_cases hc:i=j
   ·simp only [hc,xA,yb] at h;exact ⟨by rw [<-hc];exact sJ.1 hb,q,by rw [fC];simp [hc],h.symm⟩
   ·simp only [hc,xk] at h;obtain ⟨h1,o,h2,h3⟩:=Ka h;exact ⟨h1,o,by rw [fC];simp [hc,h2],h3⟩
  | false=>
   rw [hb] at h;obtain ⟨h1,o,h2,h3⟩:=Ka h;have hc:¬i=j:=fun e=>by
    have:=sJ.2 h1
    grind
   exact ⟨h1,o,by rw [fC];simp [hc,h2],h3⟩
def oG (m:Mp) (base:Nat) (seen:List Nat):Mp:=fun j=>
 if j<base then m j else match seen[j-base]? with
  | some id=>if jx base seen id=some j then m id else none
  | none=>none
def Pp {base:Nat} {seen:List Nat} {j:Nat} {p:Pl} (h:oG m base seen j=some p):∃id,jx base seen id=some j/\m id=some p/\(j<base->id=j):=by
 unfold oG at h
 split at h
 ·rename_i hj;exact ⟨j,by simp [jx,sJ.2 hj],h,fun _=>rfl⟩
 ·grind
def ajq {base:Nat} {seen:List Nat}:DY (jx base seen) m (oG m base seen):=by
 intro id j h;have h0:=h;unfold jx at h
 cases hb:yJ id base with
 | true=>
  rw [hb] at h;simp only [yt,yb] at h;subst h;simp [oG,sJ.1 hb]
 | false=>
  rw [hb] at h;obtain ⟨h1,h2⟩:=W3 h
  have:¬j<base:=by omega
  simp only [oG,this,xk,h2,h0,xA]
def O4 {s:St} {tmps:Array yh} {live:List Nat} (ht:bP O m S w s.tm tmps) (hh:aQ O m S w s.hp s.ct) (hb:s.base<=s.ct):
  ∃m',bP O m' S w (aT live s).tm tmps/\aQ O m' S w (aT live s).hp (aT live s).ct/\(aT live s).base=s.base/\s.base<=(aT live s).ct/\bU m S w s.hp m' S w (aT live s).hp s.base:=by
 simp only [aT];generalize LS:reach s.hp s.base 100000 (ff (cG s.tm live)++dS s.base s.hp) []=seen;have hr:=ajq (m:=m) (base:=s.base) (seen:=seen);have aR:∀j p,oG m s.base seen j=some p->j<s.base+seen.length:=by
  intro j p h;unfold oG at h
  grind
 have back:∀j o' p,ak (ki s.hp (jx s.base seen) seen s.base (jP s.base (jx s.base seen) s.hp)) j=some o'->oG m s.base seen j=some p->
   ∃id o,jx s.base seen id=some j/\ak s.hp id=some o/\m id=some p/\o'=lm (jx s.base seen) o:=by
  intro j o' p ho hm;obtain ⟨id,h1,h2,h3⟩:=Pp hm;rcases J9 ho with ⟨i,Tn,o,g1,g2,g3,g4⟩ | ho
  ·have hj:¬j<s.base:=by omega
   have:oG m s.base seen j=if jx s.base seen Tn=some j then m Tn else none:=by
    simp only [oG,hj,xk,show j-s.base=i by omega,g1]
   grind
  ·obtain ⟨g1,o,g2,g3⟩:=Ka ho
   grind
 refine ⟨oG m s.base seen,?_,⟨?_,aR,?_,hh.slt,?_,?_,hh.lA,hh.fK,fun j o' ho=>(by
  rcases J9 ho with ⟨i,Tn,o,g1,g2,g3,g4⟩ | ho
  ·grind
  ·have:=(Ka ho).1;omega)⟩,by trivial,by omega,⟨rfl,rfl,rfl,yA _,fun _ _ _=>rfl,fun _ h=>h,fun _ _=>rfl,fun _ h=> .inl h,?_,?_,fun _ r h=>⟨r,h⟩⟩⟩
 ·refine XS hr (fun i=>?_);rcases W2 s.tm i live with h | h
  ·rw [h];exact ht i
  ·rw [h];simp only [af]
 ·intro j o' p ho hm;obtain ⟨id,o,h1,h2,h3,rfl⟩:=back j o' p ho hm;exact ajp hr h3 hm (hh.obj id o p h2 h3)
 ·intro i j oi oj pi pj hi hj bD fX e;obtain ⟨idi,o1,a1,a2,a3,_⟩:=back i oi pi hi bD;obtain ⟨idj,o2,b1,b2,b3,_⟩:=back j oj pj hj fX
  have:=hh.inj idi idj o1 o2 pi pj a2 b2 a3 b3 e
  grind
 ·intro j p hm;obtain ⟨id,_,h2,_⟩:=Pp hm;exact hh.blt id p h2
 ·intro j p hm;obtain ⟨id,_,h2,_⟩:=Pp hm;exact hh.low id p h2
 ·rintro b ⟨j,o',p,h1,h2,h3⟩;obtain ⟨id,o,_,g2,g3,_⟩:=back j o' p h1 h2;exact .inl ⟨id,o,p,g2,g3,h3⟩
 ·intro id p hid hm;simp [oG,hid,hm]
end
end
section
open Go
section
variable {O:bk} {m:Mp} {S:Nat->Prop} {w:yi} {hp:Hp} {ct:Nat}
def XT (hh:aQ O m S w hp ct) (id:Nat):aQ O m S w (db hp id) ct:=by
 have sub:∀i o,ak (db hp id) i=some o->ak hp i=some o:=fun i o h=>by
  rw [GA] at h
  grind
 exact ⟨fun i o p h hm=>hh.obj i o p (sub i o h) hm,hh.lt,fun i j oi oj pi pj hi hj=>hh.inj i j oi oj pi pj (sub i oi hi) (sub j oj hj),hh.slt,hh.blt,hh.low,hh.lA,hh.fK,fun i o h=>hh.aR i o (sub i o h)⟩
def YV {id b:Nat} (h:dM m (db hp id) b):dM m hp b:=by
 obtain ⟨i,o,p,h1,h2,h3⟩:=h;rw [GA] at h1;by_cases hc:id=i
 ·grind
 ·simp only [hc,xk] at h1;exact ⟨i,o,p,h1,h2,h3⟩
def VK (hh:aQ O m S w hp ct) {id:Nat} {o:Obj} {p:Pl} (hg:ak hp id=some o) (hm:m id=some p):¬dM m (db hp id) p.b:=by
 rintro ⟨i,o',q,h1,h2,h3⟩;rw [GA] at h1;by_cases hc:id=i
 ·grind
 ·simp only [hc,xk] at h1;exact hc (hh.inj i id o' o q p h1 hg h2 hm h3).symm
def alW {an:Hp} (hd:jK hp an) {b:Nat} (h:dM m an b):dM m hp b:=by
 obtain ⟨i,o,p,h1,h2,h3⟩:=h
 have:=hd i
 rw [h1] at this
 cases hq:ak hp i with
 | none=>rw [hq] at this;cases this
 | some q=>exact ⟨i,q,p,hq,h2,h3⟩
def Wf {lo:Nat} {v v':AV} {an:Hp} {n:Nat} (hh:aQ O m S w hp ct) (hf:freeze n hp v=some (v',an)) {u:yh} (hv:af O.ab m S w v u):
  ∃S',aQ O m S' w an ct/\(∀b,S b->S' b)/\(∀b,S' b->S b\/dM m hp b)/\aW v'=true/\af O.ab eC S' w v' u/\ia O.ab S' w lo v' u []:=by
 obtain ⟨h1,h2,h3⟩:=Pk (O:=O) hf;obtain ⟨S',g1,g2,g3⟩:=YL hh h1 (fun id o p ho hm=>by
  have:=h2 id
  rw [ho] at this
  cases hq:ak hp id with
  | none=>rw [hq] at this;cases this
  | some q=>exact ⟨q,rfl⟩) (yA _) (fun id o ho=>(by
  have:=h2 id
  rw [ho] at this
  cases hq:ak hp id with
  | none=>rw [hq] at this;cases this
  | some q=>exact hh.aR id q hq))
 obtain ⟨k1,k2⟩:=h3 an m S' w ct cO.refl g1;have hr:=k1 u (kU (fun _ _ h=>h) g2 (fun _ _=>rfl) v u hv);have bC:af O.ab eC S' w v' u:=pC (fun _ h=>h) (fun _ _=>rfl) v' u k2 hr;refine ⟨S',g1,g2,g3,k2,bC,?_⟩
 cases v' with
 | cr _ _ _ _=>simp [aW] at k2
 | _=>exact ⟨rfl,bC,k2⟩
def ahn {S':Nat->Prop} {lo:Nat} {v:AV} {u:yh} {bs:List Nat} (hS:∀b,S b->S' b) (hn:∀b,b∈bs->¬S' b) (h:ia O.ab S w lo v u bs):ia O.ab S' w lo v u bs:=by
 cases v with
 | cr ex sz n cs=>
  obtain ⟨b,o,c,arr,t,rfl,rfl,g1,g2,g3,g4,g5,g6,g7,g8,g9⟩:=h;exact ⟨b,o,c,arr,t,rfl,rfl,g1,g2,g3,hn b (by simp),g5,g6,g7,BB hS (fun _ _=>rfl) cs b o g9 rfl g8,g9⟩
 | _=>simp only [ia] at h ⊢;exact ⟨h.1,pC hS (fun _ _=>rfl) _ _ h.2.2 h.2.1,h.2.2⟩
def W4 {lo:Nat} {v v':AV} {an:Hp} {n:Nat} (hh:aQ O m S w hp ct) (hf:qM n hp v=some (v',an)) {u:yh} (hv:af O.ab m S w v u) (aY:∀b,dM m hp b->lo<=b):
  ∃S' bs,aQ O m S' w an ct/\(∀b,S b->S' b)/\(∀b,S' b->S b\/dM m hp b)/\ia O.ab S' w lo v' u bs/\bs.Nodup/\(∀b,b∈bs->dM m hp b/\¬dM m an b)/\(∀b,dM m an b->dM m hp b):=by
 have frozen:freeze n hp v=some (v',an)->∃S' bs,aQ O m S' w an ct/\(∀b,S b->S' b)/\(∀b,S' b->S b\/dM m hp b)/\ia O.ab S' w lo v' u bs/\bs.Nodup/\(∀b,b∈bs->dM m hp b/\¬dM m an b)/\(∀b,dM m an b->dM m hp b):=by
  intro hz;obtain ⟨S',g1,g2,g3,g4,g5,g6⟩:=Wf (lo:=lo) hh hz hv
  exact ⟨S',[],g1,g2,g3,g6,by simp,by simp,fun b hb=>alW (Pk (O:=O) hz).2.1 hb⟩
 unfold qM at hf
 split at hf
 ·rename_i id o k
  split at hf
  ·rename_i ex sz cs hg
   cases hc:yF (o+k*sz) cs.length with
   | false=>rw [hc] at hf;cases hf
   | true=>
    rw [hc] at hf;obtain ⟨rfl,rfl⟩:=hf;have hle:=yq hc;obtain ⟨p,c,hm,rfl,h1,h2⟩:=hv;obtain ⟨p',arr,t,g1,g2,g3,g4,g5,g6,g7,g8,g9,g10⟩:=hh.obj id _ _ hg hm;rw [hm] at g1;injection g1 with g1
    subst g1;rw [g3] at h2;refine ⟨S,[p.b],XT hh id,fun _ h=>h,fun _ h=> .inl h,?_,by simp,?_,fun b hb=>YV hb⟩
    ·refine ⟨p.b,p.o+o,c,arr,t,rfl,rfl,h1,?_,aY _ (Hd hg hm),g9 rfl,g2,?_,by omega,?_,zT _ (sn _ _ (g8 rfl))⟩
     ·intro hx;simp only [yg] at hx;have e1:=yj hx.2;have e2:=sJ.1 hx.1.2;have e3:=g6 hx.1.1
      have:c*sz=k*sz:=by omega
      exact yao e2 this
     ·simp only [slice,yO,xO];omega
     ·exact BB (fun _ h=>h) (fun _ _=>rfl) _ _ _ (zT _ (sn _ _ (g8 rfl))) rfl (zX _ _ _ _ (px _ _ _ _ g7))
    ·intro b hb;simp only [List.mem_singleton] at hb;subst hb;exact ⟨Hd hg hm,VK hh hg hm⟩
  ·grind
 ·grind
def Wg {lo n:Nat}:∀{vs dL:List AV} {us:List yh} {hp an:Hp} {S:Nat->Prop},aQ O m S w hp ct->sF n hp vs=some (dL,an)->aq O.ab m S w vs us->(∀b,dM m hp b->lo<=b)->
  ∃S' bs,(∀b,S b->S' b)/\(∀b,S' b->S b\/dM m hp b)/\kF O.ab S' w lo dL us bs/\bs.Nodup/\(∀b,b∈bs->dM m hp b)/\(∀b,S' b->b<w.heap.size)
 | [],dL,us,hp,an,S,hh,hf,hv,aY=>by
  obtain ⟨rfl,rfl⟩:=hf;exact ⟨S,[],fun _ h=>h,fun _ h=> .inl h,by simp only [kF];exact ⟨hv,by trivial⟩,by simp,by simp,hh.slt⟩
 | v::r,dL,us,hp,an,S,hh,hf,hv,aY=>by
  simp only [sF] at hf
  cases h1:qM n hp v with
  | none=>simp [h1] at hf
  | some q=>
   obtain ⟨v1,bh⟩:=q;simp only [h1] at hf
   cases h2:sF n bh r with
   | none=>simp [h2] at hf
   | some q2=>
    simp only [h2,yb,ym] at hf;obtain ⟨rfl,rfl⟩:=hf;obtain ⟨u,t,rfl,dN,cz⟩:=hv;obtain ⟨S1,b1,k1,k2,k3,k4,k5,k6,k7⟩:=W4 (lo:=lo) hh h1 dN aY;obtain ⟨S2,b2,g1,g2,g3,g4,g5,g6⟩:=Wg (us:=t) k1 h2 (gF (fun _ _ h=>h) k2 (fun _ _=>rfl) _ _ cz) (fun b hb=>aY b (k7 b hb));have RL:∀b,b∈b1->¬S2 b:=by
     intro b hb hs;rcases g2 b hs with h | h
     ·cases v1 with
      | cr ex sz n cs=>
       simp only [ia] at k4
       grind
      | _=>simp only [ia] at k4;rw [k4.1] at hb;cases hb
     ·grind
    refine ⟨S2,b1++b2,fun b hb=>g1 b (k2 b hb),fun b hb=>?_,?_,?_,?_,g6⟩
    ·grind
    ·simp only [kF];exact ⟨u,t,b1,b2,rfl,rfl,ahn g1 RL k4,g3⟩
    ·grind
    ·grind
def Pq {lo:Nat}:∀{cs:List AV} {us:List yh},aD cs=true->aq O.ab eC S w cs us->kF O.ab S w lo cs us []
 | [],us,_,h=>by simp only [aq] at h;exact ⟨h,by trivial⟩
 | c::r,us,hp,h=>by
  obtain ⟨u,t,rfl,h1,h2⟩:=h;simp only [aD,yg] at hp;refine ⟨u,t,[],[],rfl,rfl,?_,Pq hp.2 h2⟩
  cases c with
  | cr _ _ _ _=>simp [aW] at hp
  | _=>exact ⟨rfl,h1,hp.1⟩
def aho {lo:Nat} {v r:AV} {u:yh} (hh:aQ O m S w hp ct) (hr:result hp v=some r) (hv:af O.ab m S w v u) (aY:∀b,dM m hp b->lo<=b):
  ∃S',(∀b,S b->S' b)/\(∀b,S' b->S b\/dM m hp b)/\(∀b,S' b->b<w.heap.size)/\mL O.ab S' w lo r u:=by
 unfold result at hr
 split at hr
 ·rename_i vs
  split at hr
  ·cases h1:sF deep hp vs with
   | none=>simp [h1] at hr
   | some q=>
    simp only [h1,yb] at hr;subst hr;obtain ⟨us,rfl,hv⟩:=hv;obtain ⟨S',bs,g1,g2,g3,g4,g5,g6⟩:=Wg (lo:=lo) hh h1 hv aY;exact ⟨S',g1,g2,g6,us,bs,rfl,g3,g4⟩
  ·cases h1:freeze deep hp (.au vs) with
   | none=>simp [h1] at hr
   | some q=>
    obtain ⟨v',an⟩:=q;simp only [h1,yb] at hr;subst hr;obtain ⟨S',g1,g2,g3,g4,g5,g6⟩:=Wf (lo:=lo) hh h1 hv;refine ⟨S',g2,g3,g1.slt,?_⟩
    cases v' with
    | au cs=>
     obtain ⟨xs,rfl,g5⟩:=g5;exact ⟨xs,[],rfl,Pq (by simpa [aW] using g4) g5,by simp⟩
    | _=>exact ⟨[],g6⟩
 ·rename_i NL
  cases h1:qM deep hp v with
  | none=>simp [h1] at hr
  | some q=>
   obtain ⟨v',an⟩:=q;simp only [h1,yb] at hr;subst hr;obtain ⟨S',bs,g1,g2,g3,g4,_⟩:=W4 (lo:=lo) hh h1 hv aY;refine ⟨S',g2,g3,g1.slt,?_⟩
   cases v' with
   | au cs=>
    obtain ⟨rfl,h2,h3⟩:=g4;obtain ⟨xs,rfl,h2⟩:=h2;exact ⟨xs,[],rfl,Pq (by simpa [aW] using h3) h2,by simp⟩
   | _=>exact ⟨bs,g4⟩
end
end
section
open Go
def WF (ro:Option Nat):Fence:={Fence.wide with round:=ro}
section
variable {O:bk}
def Zu (O:bk) (hp:Hp) (ct:Nat) (l:Nat) (xs:List AV) (v:AV) (an:Hp) (aV:Nat):Prop:=
 ∀(m:Mp) (S:Nat->Prop) (w:yi) (args:Array yh) (p:Pl),aQ O m S w hp ct->m l=some p->aq O.ab m S w xs args.toList->
  ∃f tmps assign body,(Instr.yield p.b args).run O.P w= .ok (.round p.b f tmps assign body) w/\yby Fence.wide 0 O.P p.b f tmps assign body w (sC O m S w hp ct v an aV)
structure nh (O:bk) (run:cu):Prop where
 pure:∀n vals r,bE O.prog O.aX run n vals=some r->dV O n vals r
 heap:∀hp ct n vals v an aV,iw O.prog O.aX run hp ct n vals=some (v,an,aV)->AA O n hp ct vals v an aV
 round:∀hp ct l xs v an aV,j9 run hp ct l xs=some (v,an,aV)->Zu O hp ct l xs v an aV
end
section
variable {P:y5} {o:yZ} {a:Act} {w:yi} {ro:Option Nat} {next:Act->yi->Prop} {Q:ud->Act->yi->Prop}
def Kb {c:tR} {f:xv} (ho:o.op= .call c) (hc:c.callee= .value f) {g:tE} {fi ca:Array yh} (hf:a.eval f= .func (.func g) fi ca) {R:yaN->yi->Prop}
  (h:Af P g (fi++c.args.map a.eval++ca) w R) (hn:∀e w',R e w'->∃u,e= .returned u/\next (a.put o.dst u) w'):o.wpIn (WF ro) 0 P a w next Q:=by
 have ez:(o.semAt ro a.eval).run P w=(callFunc g (fi++c.args.map a.eval++ca)).run P w:=by
  rw [Oper.semAt_eq _ _ _ (fun c' h'=>by rw [ho] at h';cases h')];simp only [execOp,ho,resolve,hc,Deferred.ofValue,hf,Sem.run_bind,Sem.run_pure,Result.andThen_ok,invoke]
 refine ⟨fun _ _=>trivial,?_⟩;show o.uponIn (WF ro) 0 P a next Q ((o.semAt ro a.eval).run P w)
 rw [ez];rcases h with ⟨h1,h2⟩ | ⟨u,w',h1,h2⟩
 ·rw [h1,Oper.uponIn_enter];refine ⟨fun h=>by simp [WF,Fence.wide] at h,?_⟩;have h3:CallsIn (WF ro) 0 P g (fi++c.args.map a.eval++ca) w R:=h2;refine CallsIn.mono h3 (fun e w' he=>?_);obtain ⟨u,rfl,hq⟩:=hn e w' he;exact hq
 ·rw [h1];obtain ⟨u',e,hq⟩:=hn _ _ h2;injection e with e
  subst e;exact hq
def ajr {c:tR} {f:xv} (ho:o.op= .call c) (hc:c.callee= .value f) {l:Nat} (hf:a.eval f= .func (.yield l) #[] #[]) {R:yaN->yi->Prop} {g:tE} {tmps:Array yh} {assign body:wU}
  (hy:(Instr.yield l (c.args.map a.eval)).run P w= .ok (.round l g tmps assign body) w) (h:yby Fence.wide 0 P l g tmps assign body w R) (hn:∀e w',R e w'->∃u,e= .returned u/\next (a.put o.dst u) w'):o.wpIn (WF ro) 0 P a w next Q:=by
 have ez:(o.semAt ro a.eval).run P w= .ok (.round l g tmps assign body) w:=by
  rw [Oper.semAt_eq _ _ _ (fun c' h'=>by rw [ho] at h';cases h')];simp only [execOp,ho,resolve,hc,Deferred.ofValue,hf,Sem.run_bind,Sem.run_pure,Result.andThen_ok,invoke,Array.empty_append];exact hy
 refine ⟨fun _ _=>trivial,?_⟩;show o.uponIn (WF ro) 0 P a next Q ((o.semAt ro a.eval).run P w)
 rw [ez,Oper.uponIn_round];refine ⟨fun h=>by simp [WF,Fence.wide] at h,?_⟩;have h3:yby (WF ro) 0 P l g tmps assign body w R:=h;refine RoundIn.mono h3 (fun e w' he=>?_);obtain ⟨u,rfl,hq⟩:=hn e w' he;exact hq
def He {n:yaB} {u:yh} {w':yi} (hd:∀c,o.op≠.defer c) (h:(execOp a.eval o).run P w= .ok n w') (hn:n= .value u\/(n= .skip/\u=undef)) (hq:next (a.put o.dst u) w'):o.wpIn (WF ro) 0 P a w next Q:=by
 refine ⟨fun _ _=>trivial,?_⟩;show o.uponIn (WF ro) 0 P a next Q ((o.semAt ro a.eval).run P w)
 rw [Oper.semAt_eq _ _ _ hd,h];rcases hn with rfl | ⟨rfl,rfl⟩
 ·exact hq
 ·exact hq
end
def oH (P:y5) (H:Hint) (q:Op) (o:yZ):Prop:=
 (∃k,q=aS P H k o)\/(∃c f rs,o.op= .call c/\c.callee= .value f/\q= .gZ rs (aI H f) (gK H c.args.toList))\/
  (∃t x y sz rs,o.op= .store t x y/\cw P t=some sz/\q= .jU rs sz (aI H x) (aI H y))\/
  (∃k rs sz b x y,Op.cQ sz b x y=aS P H k o/\q= .kI rs sz b x y)\/∃k sz b x y,Op.cQ sz b x y=aS P H k o/\q= .oT sz b x y
def iS:Op->Op
 | .gZ _ f xs=> .gZ [] f xs
 | .jU _ s x v=> .st s x v
 | .kI _ s b x v=> .cQ s b x v
 | o=>o
section
variable {O:bk} {H:Hint} {m:Mp} {S:Nat->Prop} {w:yi} {tm:Env} {a:Act} {hp:Hp} {ct:Nat} {self:cu} {ro:Option Nat} {next:Act->yi->Prop} {Q:ud->Act->yi->Prop}
def Lj {o:yZ} {k:Nat} {md:Md} {x:X} {xs:List X} (h:aS O.P H k o= .call md x xs) (hb:x≠.c .undef):∃c f,o.op= .call c/\c.callee= .value f/\x=aI H f/\xs=gK H c.args.toList:=by
 have nb:bad= .call md x xs->False:=fun h=>by simp only [bad,Op.call.injEq] at h;exact hb h.2.1.symm
 cases ho:o.op with
 | call c=>
  obtain ⟨callee,args,ts⟩:=c;simp only [aS,ho] at h
  split at h
  ·rename_i f;cases hm:H.mode k<;>simp only [hm,Op.call.injEq,reduceCtorEq] at h
   all_goals exact ⟨_,f,rfl,rfl,h.2.1.symm,h.2.2.symm⟩
  ·repeat' split at h
   all_goals first
    | exact (nb h).elim
    | (cases h;done)
    | (revert h;generalize yr _ _=bb;intro h;cases bb<;>first | exact (nb h).elim | (cases h;done))
  ·exact (nb h).elim
 | binOp op t x' y ty=>
  cases op<;>simp only [aS,ho,nk,og] at h
  case eql=>
        repeat' split at h
        all_goals first
         | exact (nb h).elim
         | (cases h;done)
         | (cases bX:(O.P.stoodInHeld t||O.P.eqGuardType O.P.depth t)<;>rw [bX] at h<;>first | exact (nb h).elim | (cases h;done))
  case neq=>
        repeat' split at h
        all_goals first
         | exact (nb h).elim
         | (cases h;done)
         | (cases bX:(O.P.stoodInHeld t||O.P.eqGuardType O.P.depth t)<;>rw [bX] at h<;>first | exact (nb h).elim | (cases h;done))
  all_goals cases h
 | buildSlice t n parts=>
  simp only [aS,ho] at h
  repeat' split at h
  all_goals first
   | exact (nb h).elim
   | (cases h;done)
   | (revert h;generalize yF _ _=bb;intro h;cases bb<;>first | exact (nb h).elim | (simp only [yt] at h;cases h;done))
 | makeMap t r=>
  cases r<;>simp only [aS,ho] at h
  ·repeat' split at h
   all_goals first
    | exact (nb h).elim
    | (cases h;done)
  ·exact (nb h).elim
 | next x' b=>
  cases b<;>simp only [aS,ho] at h
  ·exact (nb h).elim
  ·cases h
 | _=>
  simp only [aS,ho] at h
  (repeat' split at h)
  all_goals first
   | contradiction
   | exact (nb h).elim
   | (cases h;done)
def age {o:yZ} {k:Nat} {r:AV×Hp×Nat} (hv:a6 O.prog O.aX self tm hp ct (aS O.P H k o)=some r):∀c,o.op≠.defer c:=by
 intro c ho;simp [aS,ho,bad,a6,dj,aw] at hv
end
end
section
open Go
section
variable {O:bk} {H:Hint} {m:Mp} {S:Nat->Prop} {w:yi} {tm:Env} {a:Act} {hp:Hp} {ct cq:Nat}
def hX (tm:Env) (hp:Hp) (ct:Nat):Op->Option (AV×Obj)
 | .cQ sz b x y=>qU hp ct sz b (aw tm x) (jh hp sz (aw tm y))
 | _=>none
def QA (O:bk) (m:Mp) (S:Nat->Prop) (w:yi) (a:Act) (ct:Nat) (o:yZ) (v:AV) (b:Obj):Prop:=
 ∃u g p,(execOp a.eval o).run O.P w= .ok (.value u) (w.drew.alloc g)/\p.b=w.heap.size/\¬iv b/\
  ∀m',cY m m'->m' ct=some p->eJ O m' S (w.drew.alloc g) ct b/\af O.ab m' S (w.drew.alloc g) v u
def ajs {e:yC} {z:yh} {sz need cap:Nat} {cs:List AV} {us:List yh} (hh:aQ O m S w hp cq) (hr:aq O.ab m S w cs us) (hl:us.length=need*sz) (hz:z.cells.size=sz)
  (B7:Bool) (Tl:B7=true->aD cs=true) (hc:need<=cap):
  let w':=w.drew.alloc (.cells (us.toArray++Builtin.zeroCells z.cells (cap-need)) e)
  let p:Pl:=⟨w.heap.size,0,cap*sz,sz⟩
  ∀m',cY m m'->m' ct=some p->eJ O m' S w' ct (.cells true B7 false sz cs):=by
 intro w' p m' hm hi;have aO:fE S w w':=fun b hb=>by
  have:=hh.slt b hb
  exact RowKit.Below.heap_alloc w.drew _ b (by simpa using this)
 have iX:w'.heap[w.heap.size]? =some (.cells (us.toArray++Builtin.zeroCells z.cells (cap-need)) e (0,0)):=heap_alloc_new w.drew _;have eM:=gH _ _ hr;refine ⟨p,_,e,hi,iX,rfl,?_,?_,by simp,?_,Tl,?_,by simp⟩
 ·show cs.length<=cap*sz
  rw [<-eM,hl];exact yQ _ hc
 ·show 0+cap*sz<=_
  rw [Array.size_append,uY,size_zeroCells,hz,hl,<-wh];rw [yf];exact yQ _ (by omega)
 ·refine Ks iX cs us 0 (gF hm (fun _ h=>h) aO _ _ hr) (fun j u hj=>?_);rw [yf,yaf (by rw [uY];exact (wv.1 hj).1),List.getElem?_toArray]
  exact hj
 ·intro _ hS
  have:=hh.slt _ hS
  simp [p] at this
def mA {a b:Nat} (h:yJ a b=true):a<b:=yq h
def ajt {o:yZ} {b':yC} {t u e:yC} {sz by':Nat} {z:AV} {x y:xv} {v:AV} {dt:Obj} (hH:eT O H) (ht:bP O m S w tm a.tmps) (hh:aQ O m S w hp cq)
  (ez:(execOp a.eval o).run O.P w=((do pure (.value (<-Builtin.append_ #[t,u] b' #[a.eval x,a.eval y])):Sem yaB)).run O.P w)
  (rN:O.P.underlying t=some (.slice e)) (hu:(∃e',O.P.underlying u=some (.slice e'))\/O.P.underlying u=some .string) (hs:cw O.P e=some sz) (hb:rF O.P e=some by') (hz:li O.P e=some z) (p6:(cellsOf z).length=sz)
  (hv:hX tm hp ct (.cQ sz by' (aI H x) (aI H y))=some (v,dt)):QA O m S w a ct o v dt:=by
 simp only [hX] at hv;obtain ⟨ti,zv,p7,rfl,rfl,Jf,rfl⟩:=YO hs hb hz;have aG:∀u' w',(Builtin.append_ #[t,u] b' #[a.eval x,a.eval y]).run O.P w= .ok u' w'->(execOp a.eval o).run O.P w= .ok (.value u') w':=fun u' w' h=>by
  rw [ez,Sem.run_bind,h];rfl
 have CJ:zv.cells.size=ti.size:=by
  have:=gH _ _ (By (ab:=O.ab) (m:=m) (S:=S) (w:=w) zv)
  rw [<-p6,<-this];simp
 cases pO:jh hp ti.size (aw tm (aI H y)) with
 | none=>simp [pO,qU] at hv
 | some q=>
  obtain ⟨n,new⟩:=q;rw [pO] at hv;obtain ⟨news,fa,dd⟩:=WY hh (cf hH ht y) pO;have Jg:=gH _ _ fa;have rx:=cf hH ht x;cases hx:aw tm (aI H x)<;>rw [hx] at hv rx<;>simp only [qU,reduceCtorEq] at hv
  rename_i id o0 k;simp only [af] at rx;obtain ⟨p,c,hm,ex,h1,h2⟩:=rx
  split at hv
  case h_2=>cases hv
  rename_i dW pu zz cs hg
  cases hc:(yr zz ti.size&&(yJ 0 n&&(yF (k+n) room&&(yF ((k+n)*ti.bytes) room&&(yr (o0+k*ti.size) cs.length&&yJ 0 ti.size))))) with
  | false=>rw [hc] at hv;cases hv
  | true=>
   rw [hc] at hv;simp only [yt,yb,ym] at hv;obtain ⟨rfl,rfl⟩:=hv;simp only [yg] at hc;have c0:=yj hc.1;have c5:=mA hc.2.1;have c1:=yq hc.2.2.1;have c2:=yq hc.2.2.2.1;have c3:=yj hc.2.2.2.2.1;have c4:=mA hc.2.2.2.2.2;simp only [room] at c1 c2;obtain ⟨p',arr,t',g1,g2,g3,g4,g5,g6,g7,g8,g9,g10⟩:=hh.obj id _ _ hg hm;rw [hm] at g1;injection g1 with g1
   subst g1;subst c0;rw [g3] at h2;have hce:=g6 rfl;have mT:c=k:=by
    have:c*ti.size=k*ti.size:=by omega
    exact yao c4 this
   subst mT;have EF:bI O.ab m S w (slice o0 (c*ti.size) cs) p.b (p.o+o0):=zX _ _ _ _ (px _ _ _ _ g7);obtain ⟨lB,f1,f2,f3⟩:=qw _ _ _ EF;have Mt:(slice o0 (c*ti.size) cs).length=c*ti.size:=by simp only [slice,yO,xO];omega
   have mQ:(pu&&aD new)=true->aD (slice o0 (c*ti.size) cs++new)=true:=fun h=>by
    simp only [yg] at h;exact Bz (zT _ (sn _ _ (g8 h.1))) h.2
   have Jh:Src O.P w ti.size c lB (.slice (some ⟨p.b,p.o+o0,none⟩) c c):=Dk (by omega) (fun j u hj=>by rw [nl];exact f3 j u hj)
   have hr:=JZ (P:=O.P) (ty:=b') (w:=w) rN hu p7 Jf rfl Jh dd (by omega) c1 c2;have jF:=grownCap_ge w (c+n) c e;have iX:=ajs (ct:=ct) (e:=e) (z:=zv) (cap:=grownCap w (c+n) c e) hh (kS f1 fa) (need:=c+n) (sz:=ti.size) (by rw [yR,f2,Mt,dd.2.1,wh]) CJ (pu&&aD new) mQ jF;exact ⟨_,_,⟨w.heap.size,0,grownCap w (c+n) c e*ti.size,ti.size⟩,aG _ _ (by rw [ex];exact hr),rfl,by simp [iv],fun m' hle hi=>⟨iX m' hle hi,by simp only [af];exact ⟨_,_,hi,rfl,jF,by simp⟩⟩⟩
def agf {Hq:Hp} (hl:cO hp Hq) {sz:Nat} {v:AV} {q:Nat×List AV} (h:lP hp sz v=some q):lP Hq sz v=some q:=by
 cases v<;>simp only [lP,reduceCtorEq] at h ⊢
 ·exact h
 ·exact h
 ·rename_i id o n
  cases hg:ak hp id with
  | none=>simp [hg] at h
  | some ob=>
   cases ob<;>simp only [hg,reduceCtorEq] at h
   obtain ⟨o',h1,r,rfl,_⟩:=hl id _ hg;simp only [h1];exact h
def ahp {Hq:Hp} (hl:cO hp Hq) {sz:Nat} {v:AV} {q:Nat×List AV} (h:jh hp sz v=some q):jh Hq sz v=some q:=by
 by_cases hs:∃b,v= .str b
 ·obtain ⟨b,rfl⟩:=hs;exact h
 ·have e:∀hp:Hp,jh hp sz v=lP hp sz v:=fun hp=>by
   cases v<;>first
    | rfl
    | exact absurd ⟨_,rfl⟩ hs
  rw [e] at h ⊢;exact agf hl h
def aju {Hq:Hp} (hl:cO hp Hq) {sz b:Nat} {x y v:AV} {dt:Obj} (h:qU hp ct sz b x (jh hp sz y)=some (v,dt)):qU Hq ct sz b x (jh Hq sz y)=some (v,dt):=by
 cases hs:jh hp sz y with
 | none=>rw [hs] at h;simp [qU] at h
 | some q=>
  rw [ahp hl hs];rw [hs] at h;obtain ⟨n,new⟩:=q;cases x<;>simp only [qU,reduceCtorEq] at h ⊢
  rename_i id o k
  cases hg:ak hp id with
  | none=>simp [hg] at h
  | some ob=>
   cases ob with
   | cells dW pu ex z cs=>
    cases ex with
    | false=>simp [hg] at h
    | true=>
     obtain ⟨o',h1,r,rfl,_⟩:=hl id _ hg;simp only [hg] at h;simp only [h1];exact h
   | _=>simp [hg] at h
def aoe {o:yZ} {k:Nat} {v:AV} {dt:Obj} (hH:eT O H) (ht:bP O m S w tm a.tmps) (hh:aQ O m S w hp cq)
  (hv:hX tm hp ct (aS O.P H k o)=some (v,dt)):QA O m S w a ct o v dt:=by
 have hZ:∀{r:AV×Obj},hX tm hp ct bad=some r->False:=fun h=>by simp [bad,hX] at h
 cases ho:o.op with
 | call c=>
  obtain ⟨callee,args,ts⟩:=c;simp only [aS,ho] at hv
  split at hv
  ·cases CH:H.mode k<;>simp [CH,hX] at hv
  ·rename_i _ b
   split at hv
   ·rename_i x y t u fL mo;obtain ⟨al⟩:=args;obtain ⟨tl⟩:=ts;simp only at fL mo;subst fL;subst mo;obtain ⟨cs,ez⟩:=Dc (O:=O) (w:=w) (a:=a) ho;have HS:(execOp a.eval o).run O.P w=((do pure (.value (<-Builtin.append_ #[t,u] o.type #[a.eval x,a.eval y])):Sem yaB)).run O.P w:=by
     rw [ez];simp [builtin]
    have key:∀{z:AV} {sz by':Nat} {e:yC},O.P.underlying t=some (.slice e)->((∃e',O.P.underlying u=some (.slice e'))\/O.P.underlying u=some .string)->cw O.P e=some sz->rF O.P e=some by'->li O.P e=some z->
      hX tm hp ct (bif yr (cellsOf z).length sz then .cQ sz by' (aI H x) (aI H y) else bad)=some (v,dt)->QA O m S w a ct o v dt:=by
     intro z sz by' e h1 h2 h3 h4 h5 h
     cases hb:yr (cellsOf z).length sz with
     | false=>rw [hb] at h;exact (hZ h).elim
     | true=>
      rw [hb] at h;exact ajt hH ht hh HS h1 h2 h3 h4 h5 (yj hb) h
    split at hv
    ·rename_i e e' h1 h2
     split at hv
     ·rename_i sz by' z h3 h4 h5
      exact key h1 (.inl ⟨_,h2⟩) h3 h4 h5 hv
     ·exact (hZ hv).elim
    ·rename_i e h1 h2
     split at hv
     ·rename_i sz by' z h3 h4 h5
      exact key h1 (.inr h2) h3 h4 h5 hv
     ·exact (hZ hv).elim
    ·exact (hZ hv).elim
   ·repeat' split at hv
    all_goals simp [hX,bad] at hv
   ·repeat' split at hv
    all_goals simp [hX,bad] at hv
   ·simp [hX] at hv
   ·simp [hX] at hv
   ·exact (hZ hv).elim
  ·exact (hZ hv).elim
 | next x b=>
  cases b<;>simp [aS,ho,hX,bad] at hv
 | binOp op t x y ty=>
  cases op<;>simp only [aS,ho,nk,og] at hv
  case eql=>
        repeat' split at hv
        all_goals first
         | (simp [hX,bad] at hv;done)
         | (cases hb:(O.P.stoodInHeld t||O.P.eqGuardType O.P.depth t)<;>rw [hb] at hv<;>simp [hX,bad] at hv)
  case neq=>
        repeat' split at hv
        all_goals first
         | (simp [hX,bad] at hv;done)
         | (cases hb:(O.P.stoodInHeld t||O.P.eqGuardType O.P.depth t)<;>rw [hb] at hv<;>simp [hX,bad] at hv)
  all_goals simp [hX] at hv
 | buildSlice t n parts=>
  simp only [aS,ho] at hv
  repeat' split at hv
  all_goals first
   | (simp [hX,bad] at hv;done)
   | (
     revert hv;generalize yF _ _=bb;intro hv;cases bb<;>simp [hX,bad] at hv
     try (split at hv<;>simp [hX,bad] at hv))
 | makeMap t r=>
  cases r<;>simp only [aS,ho] at hv
  ·repeat' split at hv
   all_goals simp [hX,bad] at hv
  ·exact (hZ hv).elim
 | _=>
  simp only [aS,ho] at hv
  (repeat' split at hv)
  all_goals first
   | contradiction
   | (simp [hX,bad] at hv;done)
end
end
section
open Go
section
variable {O:bk} {H:Hint} {m:Mp} {S:Nat->Prop} {w:yi} {tm:Env} {a:Act} {hp an Hq:Hp} {ct aV cH:Nat} {self:cu} {ro:Option Nat} {next:Act->yi->Prop} {Q:ud->Act->yi->Prop}
def W5 {g:tZ} {p:Pl} {S':Nat->Prop} {base:Nat} (hh:aQ O m S w Hq cH) (hi:m ct=none) (hb:p.b=w.heap.size) (h1:∀b,S b->S' b) (h2:∀b,S' b->S b\/b=w.heap.size):
  bU m S w Hq (fj m ct p) S' (w.alloc g) Hq base where
 os:=rfl
 tape:=rfl
 output:=rfl
 size:=by simp
 same b hb _:=alloc_old hb
 sub:=h1
 still b hb:=alloc_old (hh.slt b hb)
 new b hb:=(h2 b hb).imp (fun h=>h) (fun h=> .inr (by omega))
 own b hb:=by
  obtain ⟨i,o,q,g1,g2,g3⟩:=hb;by_cases hc:i=ct
  ·subst hc;rw [dE] at g2
   grind
  ·rw [dO hc] at g2;exact .inl ⟨i,o,q,g1,g2,g3⟩
 old i q _ h:=jg hi i q h
 loops b r hb:=⟨r,(alloc_old (xu.1 hb).1).trans hb⟩
def VL {LU vals:List AV} {us:List yh} {bh:Hp} (hz:cA deep hp LU=some (vals,bh)) (hl:cO bh Hq) (hh:aQ O m S w Hq cH) (hr:aq O.ab m S w LU us):aq O.ab eC S w vals us/\aD vals=true:=by
 obtain ⟨_,_,h3⟩:=O1 (O:=O) hz;obtain ⟨k1,k2⟩:=h3 Hq m S w cH hl hh;exact ⟨sr (fun _ h=>h) (fun _ _=>rfl) _ _ k2 (k1 us hr),k2⟩
def Qc (hh:aQ O m S w Hq cH):Az O w:=⟨hh.lA,hh.fK⟩
def KL (hH:eT O H) (ht:bP O m S w tm a.tmps) {f:xv} {g:Nat} {first cap:List AV} {args:Array xv} (hf:aw tm (aI H f)= .fn (.f g) first cap):
  ∃fi ca:Array yh,a.eval f= .func (.func (O.ab g)) fi ca/\aq O.ab m S w (first++(cZ tm (gK H args.toList)++cap)) (fi++args.map a.eval++ca).toList:=by
 have rf:=cf hH ht f;rw [hf] at rf;obtain ⟨fi,ca,h1,h2,h3⟩:=rf;refine ⟨fi,ca,h1,?_⟩
 have:=kS h2 (kS (BQ hH ht args.toList) h3)
 simp_all
def agh (hC:nh O self) (hH:eT O H) {o:yZ} {c:tR} {f:xv} (ho:o.op= .call c) (iK:c.callee= .value f) {g:Nat} {first cap vals:List AV} {bh:Hp} {r:AV}
  (hf:aw tm (aI H f)= .fn (.f g) first cap) (hz:cA deep hp (first++(cZ tm (gK H c.args.toList)++cap))=some (vals,bh)) (hr:bE O.prog O.aX self g vals=some r)
  (hl:cO bh Hq) (ht:bP O m S w tm a.tmps) (hh:aQ O m S w Hq cH)
  (hn:∀u S' w',aQ O m S' w' Hq cH->af O.ab m S' w' (shut r) u->bU m S w Hq m S' w' Hq cH->next (a.put o.dst u) w'):o.wpIn (WF ro) 0 O.P a w next Q:=by
 obtain ⟨fi,ca,h1,h2⟩:=KL hH ht (args:=c.args) hf;obtain ⟨h3,h4⟩:=VL hz hl hh h2;refine Kb ho iK h1 (hC.pure g vals r hr w S _ (Qc hh) hh.slt h3 h4) ?_;rintro e w' ⟨u,S',rfl,hw,g1,g2,g3,g4⟩;refine ⟨u,rfl,?_⟩;obtain ⟨S2,k1,k2,k3⟩:=W1 g4 m;have hS:∀b,S b->S2 b:=fun b hb=>k1 b (g1 b hb)
 have Ji:∀b,S2 b->S b\/w.heap.size<=b:=fun b hb=>(k2 b hb).elim (g2 b) (fun h=> .inr h.1)
 have hl:∀b,S2 b->b<w'.heap.size:=fun b hb=>(k2 b hb).elim (g3 b) (fun h=>h.2)
 exact hn u S2 w' (BF hh hw hS Ji hl) k3 (z8 hh hw hS Ji)
def ahq (hC:nh O self) (hH:eT O H) {o:yZ} {c:tR} {f:xv} (ho:o.op= .call c) (iK:c.callee= .value f) {g:Nat} {first cap vals:List AV} {bh:Hp} {r:AV}
  (hf:aw tm (aI H f)= .fn (.f g) first cap) (hz:cA deep hp (first++(cZ tm (gK H c.args.toList)++cap))=some (vals,bh)) (hr:bE O.prog O.aX self g vals=some r)
  (hl:cO (own bh ct r).2.1 Hq) (eZ:(own bh ct r).2.2<=cH) (aR:∀id o,ak hp id=some o->id<ct) (rQ:∀id,ct<=id->id<(own bh ct r).2.2->m id=none)
  (ht:bP O m S w tm a.tmps) (hh:aQ O m S w Hq cH)
  (hn:∀u m' S' w',aQ O m' S' w' Hq cH->cY m m'->(∀id p,m' id=some p->m id=some p\/(ct<=id/\id<(own bh ct r).2.2))->af O.ab m' S' w' (own bh ct r).1 u->bU m S w Hq m' S' w' Hq cH->next (a.put o.dst u) w'):
  o.wpIn (WF ro) 0 O.P a w next Q:=by
 obtain ⟨fi,ca,h1,h2⟩:=KL hH ht (args:=c.args) hf;obtain ⟨z1,z2,z3⟩:=O1 (O:=O) hz;have RM:∀id o,ak bh id=some o->id<ct:=fun id o h=>by
  have:=z2 id
  rw [h] at this
  cases hq:ak hp id with
  | none=>rw [hq] at this;cases this
  | some q=>exact aR id q hq
 have aof:∀id o,ak bh id=some o->ak (own bh ct r).2.1 id=some o:=fun id o h=>by
  cases r with
  | au vs=>exact Li RM id o h
  | _=>exact Qb RM id o h
 have mR:cO bh Hq:=fun id o h=>hl id o (aof id o h)
 obtain ⟨h3,h4⟩:=VL hz mR hh h2;refine Kb ho iK h1 (hC.pure g vals r hr w S _ (Qc hh) hh.slt h3 h4) ?_;rintro e w' ⟨u,S',rfl,hw,g1,g2,g3,g4⟩;refine ⟨u,rfl,?_⟩;have Bb:=BF hh hw g1 g2 g3;have rJ:=z8 (base:=cH) hh hw g1 g2;obtain ⟨m',S2,k1,k2,k3,k4,k5,k6⟩:=aod (lo:=w.heap.size) Bb hl eZ RM rQ g4 hh.fK (fun j q hq=>hh.blt j q hq);refine hn u m' S2 w' k1 k2 (fun id p h=>(k3 id p h).imp (fun h=>h) (fun h=>⟨h.1,h.2.1⟩)) k4 ⟨hw.os,hw.tape,hw.output,hw.size,fun b hb _=>hw.same b hb,fun b hb=>k5 b (g1 b hb),fun b hb=>hw.same b (hh.slt b hb),?_,?_,fun i q _ h=>k2 i q h,rJ.loops⟩
 ·grind
 ·rintro b ⟨i,ob,q,q1,q2,q3⟩;rcases k3 i q q2 with h | h
  ·exact .inl ⟨i,ob,q,q1,h,q3⟩
  ·grind
def agi {P:y5} {H:Hint} {o:yZ} {k:Nat} {sz b:Nat} {x y:X} (hk:Op.oT sz b x y=aS P H k o):False:=by
 cases ho:o.op with
 | call c=>
  obtain ⟨callee,args,ts⟩:=c;simp only [aS,ho] at hk
  split at hk
  ·rename_i f;cases hm:H.mode k<;>simp only [hm,reduceCtorEq] at hk
  ·repeat' split at hk
   all_goals first
    | (cases hk;done)
    | (simp only [bad] at hk;cases hk;done)
    | (revert hk;generalize yr _ _=bb;intro hk;cases bb<;>simp [bad] at hk)
  ·simp only [bad] at hk;cases hk
 | binOp op t x' y ty=>
  cases op<;>simp only [aS,ho,nk,og] at hk
  case eql=>
        repeat' split at hk
        all_goals first
         | (cases hk;done)
         | (simp only [bad] at hk;cases hk;done)
         | (cases bX:(P.stoodInHeld t||P.eqGuardType P.depth t)<;>rw [bX] at hk<;>simp [bad] at hk)
  case neq=>
        repeat' split at hk
        all_goals first
         | (cases hk;done)
         | (simp only [bad] at hk;cases hk;done)
         | (cases bX:(P.stoodInHeld t||P.eqGuardType P.depth t)<;>rw [bX] at hk<;>simp [bad] at hk)
  all_goals cases hk
 | buildSlice t n parts=>
  simp only [aS,ho] at hk
  repeat' split at hk
  all_goals first
   | (cases hk;done)
   | (simp only [bad] at hk;cases hk;done)
   | (revert hk;generalize yF _ _=bb;intro hk;cases bb<;>simp [bad] at hk)
 | makeMap t r=>
  cases r<;>simp only [aS,ho] at hk
  ·repeat' split at hk
   all_goals first
    | (cases hk;done)
    | (simp only [bad] at hk;cases hk;done)
  ·simp only [bad] at hk;cases hk
 | next x' b=>
  cases b<;>simp only [aS,ho] at hk
  ·simp only [bad] at hk;cases hk
  ·cases hk
 | _=>
  simp only [aS,ho] at hk
  (repeat' split at hk)
  all_goals first
   | contradiction
   | (cases hk;done)
   | (simp only [bad] at hk;cases hk;done)
def aog {P:y5} {H:Hint} {o:yZ} {sz b:Nat} {x y:X} (hq:oH P H (.oT sz b x y) o):∃k,Op.cQ sz b x y=aS P H k o:=by
 rcases hq with ⟨k,hk⟩ | ⟨_,_,_,_,_,h3⟩ | ⟨_,_,_,_,_,_,_,h3⟩ | ⟨_,_,_,_,_,_,_,h3⟩ | ⟨k,CL,b',x',y',h1,h3⟩
 ·exact (agi hk).elim
 ·cases h3
 ·cases h3
 ·cases h3
 ·simp only [Op.oT.injEq] at h3;obtain ⟨rfl,rfl,rfl,rfl⟩:=h3;exact ⟨k,h1⟩
def quiet_step (hC:nh O self) (hH:eT O H) {o:yZ} {q:Op} {v:AV} (hk:bj q<=1) (hq:oH O.P H q o) (hd:∀c,o.op≠.defer c) (hv:a6 O.prog O.aX self tm hp ct q=some (v,an,aV)) (hl:cO an Hq) (eZ:aV<=cH)
  (aR:∀id o,ak hp id=some o->id<ct) (rQ:∀id,ct<=id->id<aV->m id=none) (ht:bP O m S w tm a.tmps) (hh:aQ O m S w Hq cH)
  (hn:∀u m' S' w',aQ O m' S' w' Hq cH->cY m m'->(∀id p,m' id=some p->m id=some p\/(ct<=id/\id<aV))->af O.ab m' S' w' v u->bU m S w Hq m' S' w' Hq cH->next (a.put o.dst u) w'):
  o.wpIn (WF ro) 0 O.P a w next Q:=by
 by_cases To:∃sz b x y,q= .oT sz b x y
 ·obtain ⟨sz,b,x,y,rfl⟩:=To;obtain ⟨k,ja⟩:=aog hq;simp only [a6] at hv
  cases hm:qU hp ct sz b (aw tm x) (jh hp sz (aw tm y)) with
  | none=>simp [hm] at hv
  | some r=>
   obtain ⟨v1,dt⟩:=r;simp only [hm,yb,ym] at hv;obtain ⟨rfl,rfl,rfl⟩:=hv;have jt:cO hp Hq:=fun id o' iG=>hl id o' (by
    rw [fC,yB (by have:=aR id o' iG;omega)];exact iG)
   have bC:hX tm Hq ct (aS O.P H k o)=some (v1,dt):=by rw [<-ja];exact aju jt hm
   have hi:=rQ ct (yA _) (tU _);obtain ⟨u,g,p,h1,h2,h3,h4⟩:=aoe hH ht hh bC;have hcw:Calm w w.drew:=⟨rfl,rfl,rfl,yA _,fun _ _=>rfl⟩;have gT:=BF hh hcw (S':=S) (fun _ h=>h) (fun _ h=> .inl h) hh.slt;have EG:bU m S w Hq m S w.drew Hq cH:=z8 hh hcw (fun _ h=>h) (fun _ h=> .inl h);obtain ⟨S',k1,k2,k3⟩:=PH (i:=ct) (g:=g) (p:=p) gT hi eZ h2 (fun o' iG=>by
    obtain ⟨Tf,g1,g2⟩:=hl ct dt (by rw [fC];simp)
    rw [iG] at g1;injection g1 with g1
    subst g1
    have:=OQ g2 dE (h4 _ (jg hi) dE).1 h3
    rwa [h2] at this)
   refine He hd h1 (.inl rfl) (hn u _ S' _ k1 (jg hi) (fun id q hq=>?_) (kU (fun _ _ h=>h) k2 (fun _ _=>rfl) _ _ (h4 _ (jg hi) dE).2) (EG.trans (W5 gT hi h2 k2 k3)));by_cases hc:id=ct
   ·exact .inr (by omega)
   ·rw [dO hc] at hq;exact .inl hq
 have ja:∃k,q=aS O.P H k o:=by
  rcases hq with h | ⟨c,f,rs,_,_,rfl⟩ | ⟨_,_,_,_,_,_,_,rfl⟩ | ⟨_,_,_,_,_,_,_,rfl⟩ | ⟨_,_,_,_,_,_,h⟩
  ·exact h
  ·simp [bj] at hk
  ·simp [bj] at hk
  ·simp [bj] at hk
  ·exact (To ⟨_,_,_,_,h⟩).elim
 obtain ⟨k,hq⟩:=ja;have read:∀{v:AV},bi tm hp q=some v->cO hp Hq->(∀u m' S' w',aQ O m' S' w' Hq cH->cY m m'->(∀id p,m' id=some p->m id=some p\/(ct<=id/\id<aV))->af O.ab m' S' w' v u->bU m S w Hq m' S' w' Hq cH->next (a.put o.dst u) w')->o.wpIn (WF ro) 0 O.P a w next Q:=by
  intro v hr hl hn;have bC:=ahj hl hr;rw [hq] at bC;obtain ⟨u,h1,h2⟩:=YK hH ht hh bC;exact He hd h1 (.inl rfl) (hn u m S w hh cY.refl (fun _ _ h=> .inl h) h2 bU.refl)
 have makes:∀{v:AV} {b:Obj},cK tm hp ct q=some (v,b)->cO ((ct,b)::hp) Hq->ct+1<=cH->m ct=none->(∀u m' S' w',aQ O m' S' w' Hq cH->cY m m'->(∀id p,m' id=some p->m id=some p\/(ct<=id/\id<ct+1))->af O.ab m' S' w' v u->bU m S w Hq m' S' w' Hq cH->next (a.put o.dst u) w')->o.wpIn (WF ro) 0 O.P a w next Q:=by
  intro v b hr hl hc hi hn;rw [hq] at hr;have bC:cK tm Hq ct (aS O.P H k o)=some (v,b):=by rw [<-hr];exact Gp (fun _ _=>rfl)
  obtain ⟨u,g,p,h1,h2,h3,h4⟩:=alR hH ht hh bC;obtain ⟨S',k1,k2,k3⟩:=PH (i:=ct) (g:=g) (p:=p) hh hi hc h2 (fun o' iG=>by
   obtain ⟨Tf,g1,g2⟩:=hl ct b (by rw [fC];simp)
   rw [iG] at g1;injection g1 with g1
   subst g1
   have:=OQ g2 dE (h4 _ (jg hi) dE).1 h3
   rwa [h2] at this)
  refine He hd h1 (.inl rfl) (hn u _ S' _ k1 (jg hi) (fun id q hq=>?_) (kU (fun _ _ h=>h) k2 (fun _ _=>rfl) _ _ (h4 _ (jg hi) dE).2) (W5 hh hi h2 k2 k3));by_cases hc:id=ct
  ·exact .inr (by omega)
  ·rw [dO hc] at hq;exact .inl hq
 have cE:∀{q:Op},(match cK tm hp ct q with | some (v,b)=>some (v,(ct,b)::hp,ct+1) | none=>(none:fN))=some (v,an,aV)->∃b,cK tm hp ct q=some (v,b)/\an=(ct,b)::hp/\aV=ct+1:=by
  intro q h
  cases hm:cK tm hp ct q with
  | none=>simp [hm] at h
  | some r=>
   obtain ⟨v1,b⟩:=r;simp only [hm,yb,ym] at h;obtain ⟨rfl,rfl,rfl⟩:=h;exact ⟨b,rfl,rfl,rfl⟩
 have fY:∀{q:Op},(match bi tm hp q with | some v=>some (v,hp,ct) | none=>(none:fN))=some (v,an,aV)->bi tm hp q=some v/\an=hp/\aV=ct:=by
  intro q h
  cases hm:bi tm hp q with
  | none=>simp [hm] at h
  | some r=>
   simp only [hm,yb,ym] at h;obtain ⟨rfl,rfl,rfl⟩:=h;exact ⟨rfl,rfl,rfl⟩
 have Hf:(∃b,cK tm hp ct q=some (v,b)/\an=(ct,b)::hp/\aV=ct+1)->o.wpIn (WF ro) 0 O.P a w next Q:=by
  rintro ⟨b,h1,rfl,rfl⟩;exact makes h1 hl eZ (rQ ct (yA _) (tU _)) hn
 have aoh:(bi tm hp q=some v/\an=hp/\aV=ct)->o.wpIn (WF ro) 0 O.P a w next Q:=by
  rintro ⟨h1,rfl,rfl⟩;exact read h1 hl hn
 cases q with
 | st _ _ _=>simp [bj] at hk
 | oQ _ _ _ _=>simp [bj] at hk
 | oS _=>simp [bj] at hk
 | cQ _ _ _ _=>simp [bj] at hk
 | oU _ _ _=>simp [bj] at hk
 | gZ _ _ _=>simp [bj] at hk
 | jU _ _ _ _=>simp [bj] at hk
 | kI _ _ _ _ _=>simp [bj] at hk
 | oT sz b x y=>exact (To ⟨sz,b,x,y,rfl⟩).elim
 | box s x=>exact Hf (cE (by simp only [a6] at hv;exact hv))
 | mK n s z ps=>exact Hf (cE (by simp only [a6] at hv;exact hv))
 | nN s b z x y=>exact Hf (cE (by simp only [a6] at hv;exact hv))
 | zu=>exact Hf (cE (by simp only [a6] at hv;exact hv))
 | oR x=>exact Hf (cE (by simp only [a6] at hv;exact hv))
 | call md x xs=>
  cases md with
  | heap=>simp [bj] at hk
  | dyn=>simp [bj] at hk
  | pure=>
   simp only [a6,dj] at hv
   split at hv
   ·rename_i g first cap hx
    (try simp only at hv)
    cases hz:cA deep hp (first++(cZ tm xs++cap)) with
    | none=>simp [hz] at hv
    | some z=>
     obtain ⟨vals,bh⟩:=z;simp only [hz] at hv
     cases hr:bE O.prog O.aX self g vals with
     | none=>simp [hr] at hv
     | some r=>
      simp only [hr,yb,ym] at hv;obtain ⟨rfl,rfl,rfl⟩:=hv;obtain ⟨c,f,ho,iK,rfl,rfl⟩:=Lj hq.symm (by rintro rfl;simp [aw] at hx);exact agh hC hH ho iK hx hz hr hl ht hh (fun u S' w' h1 h2 h3=>hn u m S' w' h1 cY.refl (fun _ _ h=> .inl h) h2 h3)
   ·simp at hv
   ·cases hv
  | own=>
   simp only [a6,dj] at hv
   split at hv
   ·rename_i g first cap hx
    (try simp only at hv)
    cases hz:cA deep hp (first++(cZ tm xs++cap)) with
    | none=>simp [hz] at hv
    | some z=>
     obtain ⟨vals,bh⟩:=z;simp only [hz] at hv
     cases hr:bE O.prog O.aX self g vals with
     | none=>simp [hr] at hv
     | some r=>
      simp only [hr,yb] at hv;obtain ⟨c,f,ho,iK,rfl,rfl⟩:=Lj hq.symm (by rintro rfl;simp [aw] at hx);have e1:v=(own bh ct r).1:=by rw [hv]
      have e2:an=(own bh ct r).2.1:=by rw [hv]
      have e3:aV=(own bh ct r).2.2:=by rw [hv]
      subst e1;subst e2;subst e3;exact ahq hC hH ho iK hx hz hr hl eZ aR rQ ht hh hn
   ·simp at hv
   ·cases hv
 | _=>exact aoh (fY (by simp only [a6] at hv;exact hv))
end
end
section
open Go
section
variable {O:bk} {H:Hint} {m:Mp} {S:Nat->Prop} {w:yi} {tm:Env} {a:Act} {hp an:Hp} {ct aV:Nat} {self:cu} {ro:Option Nat} {next:Act->yi->Prop} {Q:ud->Act->yi->Prop}
def bU.rb {m':Mp} {S':Nat->Prop} {w':yi} {b b':Nat} (h:bU m S w hp m' S' w' an b) (hb:b'<=b):bU m S w hp m' S' w' an b':=
 ⟨h.os,h.tape,h.output,h.size,h.same,h.sub,h.still,h.new,h.own,fun i q hi hq=>h.old i q (by omega) hq,h.loops⟩
def aoi {hp:Hp} {ct:Nat} {r:AV} (aR:∀id o,ak hp id=some o->id<ct):∀id o,ak (own hp ct r).2.1 id=some o->id<(own hp ct r).2.2:=by
 have hL:∀(vs:List AV) (hp:Hp) (ct:Nat),(∀id o,ak hp id=some o->id<ct)->∀id o,ak (jD hp ct vs).2.1 id=some o->id<(jD hp ct vs).2.2:=by
  intro vs
  induction vs with
  | nil=>intro hp ct h id o ho;exact h id o ho
  | cons v r ih=>intro hp ct h id o ho;exact ih _ _ (GW h) id o ho
 cases r with
 | au vs=>exact hL vs hp ct aR
 | _=>exact GW aR
def aoj {hp:Hp} {ct:Nat} {r:AV} (aR:∀id o,ak hp id=some o->id<ct):∀id o,ak hp id=some o->ak (own hp ct r).2.1 id=some o:=by
 cases r with
 | au vs=>exact Li aR
 | _=>exact Qb aR
def aok {hp:Hp} {ct:Nat} {r:AV}:ct<=(own hp ct r).2.2:=by
 cases r with
 | au vs=>exact Lh
 | _=>exact Lg
def ajv {hp:Hp} {ct:Nat} {r:AV}:∀id o,ak (own hp ct r).2.1 id=some o->id<ct->ak hp id=some o:=by
 have h1:∀(hp:Hp) (ct:Nat) (r:AV) id o,ak (eU hp ct r).2.1 id=some o->id<ct->ak hp id=some o:=by
  intro hp ct r id o h hc;cases r<;>simp only [eU] at h<;>try exact h
  rw [fC,yB (by omega)] at h;exact h
 have hL:∀(vs:List AV) (hp:Hp) (ct:Nat) id o,ak (jD hp ct vs).2.1 id=some o->id<ct->ak hp id=some o:=by
  intro vs
  induction vs with
  | nil=>intro hp ct id o ho _;exact ho
  | cons v r ih=>intro hp ct id o ho hc;exact h1 hp ct v id o (ih _ _ id o ho (by have:=Lg (hp:=hp) (ct:=ct) (r:=v);omega)) hc
 cases r with
 | au vs=>exact hL vs hp ct
 | _=>exact h1 hp ct _
structure iy (hp:Hp) (ct:Nat) (an:Hp) (aV:Nat):Prop where
 le:cO hp an
 oX:ct<=aV
 lt:∀id o,ak an id=some o->id<aV
 back:∀id o,ak an id=some o->id<ct->∃o',ak hp id=some o'
def iy.refl (aR:∀id o,ak hp id=some o->id<ct):iy hp ct hp ct:=⟨cO.refl,yA _,aR,fun _ o h _=>⟨o,h⟩⟩
def iy.trans {Ia:Hp} {abA:Nat} (h:iy hp ct an aV) (k:iy an aV Ia abA):iy hp ct Ia abA:=
 ⟨h.le.trans k.le,xg h.oX k.oX,k.lt,fun id o ho hi=>let ⟨o1,h1⟩:=k.back id o ho (yu hi h.oX);h.back id o1 h1 hi⟩
def W6 {LU vals:List AV} {bh:Hp} (hz:cA deep hp LU=some (vals,bh)) (aR:∀id o,ak hp id=some o->id<ct):iy hp ct bh ct:=by
 obtain ⟨z1,z2,_⟩:=O1 (O:=⟨default,⟨fun _=>none,fun _=>none⟩,fun _=>0,fun _=>none,fun _=>⟨0,fun _=>none,fun _=>[],fun _=>none,fun _=> .pure,fun _=>[]⟩,default⟩) hz;have hb:∀id o,ak bh id=some o->∃o',ak hp id=some o':=fun id o h=>by
  have:=z2 id
  rw [h] at this
  cases hq:ak hp id with
  | none=>rw [hq] at this;cases this
  | some q=>exact ⟨q,rfl⟩
 exact ⟨z1,yA _,fun id o h=>let ⟨o',h'⟩:=hb id o h;aR id o' h',fun id o h _=>hb id o h⟩
def ahr {r:AV} (aR:∀id o,ak hp id=some o->id<ct):iy hp ct (own hp ct r).2.1 (own hp ct r).2.2:=
 ⟨fun id o h=>⟨o,aoj aR id o h,jb.refl o⟩,aok,aoi aR,fun id o h hi=>⟨o,ajv id o h hi⟩⟩
def VM {P:aF} {L:Lib} {q:Op} {v:AV} (hk:bj q<=1) (hv:a6 P L self tm hp ct q=some (v,an,aV)) (aR:∀id o,ak hp id=some o->id<ct):iy hp ct an aV:=by
 have cE:∀{q:Op},(match cK tm hp ct q with | some (v,b)=>some (v,(ct,b)::hp,ct+1) | none=>(none:fN))=some (v,an,aV)->iy hp ct an aV:=by
  intro q h
  cases hm:cK tm hp ct q with
  | none=>simp [hm] at h
  | some r=>
   obtain ⟨v1,b⟩:=r;simp only [hm,yb,ym] at h;obtain ⟨rfl,rfl,rfl⟩:=h;refine ⟨fun id o ho=>⟨o,?_,jb.refl o⟩,by omega,fun id o ho=>?_,fun id o ho hi=>?_⟩
   ·rw [fC,yB (by have:=aR id o ho;omega)];exact ho
   ·rw [fC] at ho;by_cases hc:ct=id
    ·omega
    ·simp only [hc,xk] at ho;have:=aR id o ho;omega
   ·rw [fC,yB (by omega)] at ho;exact ⟨o,ho⟩
 have fY:∀{q:Op},(match bi tm hp q with | some v=>some (v,hp,ct) | none=>(none:fN))=some (v,an,aV)->iy hp ct an aV:=by
  intro q h
  cases hm:bi tm hp q with
  | none=>simp [hm] at h
  | some r=>
   simp only [hm,yb,ym] at h;obtain ⟨rfl,rfl,rfl⟩:=h;exact iy.refl aR
 cases bH:q with
 | st _ _ _=>simp [bH,bj] at hk
 | oQ _ _ _ _=>simp [bH,bj] at hk
 | oS _=>simp [bH,bj] at hk
 | cQ _ _ _ _=>simp [bH,bj] at hk
 | oU _ _ _=>simp [bH,bj] at hk
 | gZ _ _ _=>simp [bH,bj] at hk
 | jU _ _ _ _=>simp [bH,bj] at hk
 | kI _ _ _ _ _=>simp [bH,bj] at hk
 | oT sz b x y=>
  rw [bH] at hv;simp only [a6] at hv
  cases hm:qU hp ct sz b (aw tm x) (jh hp sz (aw tm y)) with
  | none=>simp [hm] at hv
  | some r=>
   obtain ⟨v1,b⟩:=r;simp only [hm,yb,ym] at hv;obtain ⟨rfl,rfl,rfl⟩:=hv;refine ⟨fun id o ho=>⟨o,?_,jb.refl o⟩,by omega,fun id o ho=>?_,fun id o ho hi=>?_⟩
   ·rw [fC,yB (by have:=aR id o ho;omega)];exact ho
   ·rw [fC] at ho;by_cases hc:ct=id
    ·omega
    ·simp only [hc,xk] at ho;have:=aR id o ho;omega
   ·rw [fC,yB (by omega)] at ho;exact ⟨o,ho⟩
 | box s x=>exact cE (q:=q) (by rw [bH] at hv ⊢;simp only [a6] at hv;exact hv)
 | mK n s z ps=>exact cE (q:=q) (by rw [bH] at hv ⊢;simp only [a6] at hv;exact hv)
 | nN s b z x y=>exact cE (q:=q) (by rw [bH] at hv ⊢;simp only [a6] at hv;exact hv)
 | zu=>exact cE (q:=q) (by rw [bH] at hv ⊢;simp only [a6] at hv;exact hv)
 | oR x=>exact cE (q:=q) (by rw [bH] at hv ⊢;simp only [a6] at hv;exact hv)
 | call md x xs=>
  subst bH;simp only [a6,dj] at hv
  split at hv
  ·rename_i g first cap hx
   cases md with
   | heap=>simp [bj] at hk
   | dyn=>simp [bj] at hk
   | pure=>
    simp only at hv
    cases hz:cA deep hp (first++(cZ tm xs++cap)) with
    | none=>simp [hz] at hv
    | some z=>
     obtain ⟨vals,bh⟩:=z;simp only [hz] at hv
     cases hr:bE P L self g vals with
     | none=>simp [hr] at hv
     | some r=>
      simp only [hr,yb,ym] at hv;obtain ⟨rfl,rfl,rfl⟩:=hv;exact W6 hz aR
   | own=>
    simp only at hv
    cases hz:cA deep hp (first++(cZ tm xs++cap)) with
    | none=>simp [hz] at hv
    | some z=>
     obtain ⟨vals,bh⟩:=z;simp only [hz] at hv
     cases hr:bE P L self g vals with
     | none=>simp [hr] at hv
     | some r=>
      simp only [hr,yb] at hv;have e2:an=(own bh ct r).2.1:=by rw [hv]
      have e3:aV=(own bh ct r).2.2:=by rw [hv]
      subst e2;subst e3;have g1:=W6 hz aR;exact g1.trans (ahr g1.lt)
  ·cases md with
   | heap=>simp [bj] at hk
   | dyn=>simp [bj] at hk
   | _=>simp at hv
  ·cases hv
 | _=>exact fY (q:=q) (by rw [bH] at hv ⊢;simp only [a6] at hv;exact hv)
def KM (hh:aQ O m S w hp ct) (hg:iy hp ct an aV):∃S',aQ O m S' w an aV/\(∀b,S b->S' b)/\(∀b,S' b->S b\/dM m hp b)/\∀base,bU m S w hp m S' w an base:=by
 have hd:∀id o p,ak an id=some o->m id=some p->∃o',ak hp id=some o':=fun id o p h hm=>hg.back id o h (hh.lt id p hm)
 obtain ⟨S',g1,g2,g3⟩:=YL hh hg.le hd hg.oX hg.lt;refine ⟨S',g1,g2,g3,fun base=>⟨rfl,rfl,rfl,yA _,fun _ _ _=>rfl,g2,fun _ _=>rfl,fun b hb=>(g3 b hb).imp (fun h=>h) .inl,?_,fun _ _ _ h=>h,fun _ r h=>⟨r,h⟩⟩⟩;rintro b ⟨i,o,p,h1,h2,h3⟩;obtain ⟨o',h4⟩:=hd i o p h1 h2;exact .inl ⟨i,o',p,h4,h2,h3⟩
def ajw {q:Op} {v:AV} (hv:cF tm hp ct q=some (v,an,aV)):ct<=aV:=by
 cases q<;>simp only [cF,reduceCtorEq] at hv
 all_goals
  grind
def PK {P:y5} {H:Hint} {o:yZ} {rs:List (Nat×Bool×Nat)} {x:X} {xs:List X} (hq:oH P H (.gZ rs x xs) o):∃c f,o.op= .call c/\c.callee= .value f/\x=aI H f/\xs=gK H c.args.toList:=by
 rcases hq with ⟨k,hk⟩ | ⟨c,f,rs',h1,h2,h3⟩ | ⟨_,_,_,_,_,_,_,h3⟩ | ⟨_,_,_,_,_,_,_,h3⟩ | ⟨_,_,_,_,_,_,h3⟩
 ·cases ho:o.op with
  | call c=>
   obtain ⟨callee,args,ts⟩:=c;simp only [aS,ho] at hk
   split at hk
   ·rename_i f;cases hm:H.mode k<;>simp only [hm,Op.gZ.injEq,reduceCtorEq] at hk
    exact ⟨_,f,rfl,rfl,hk.2.1,hk.2.2⟩
   ·repeat' split at hk
    all_goals first
     | (cases hk;done)
     | (simp only [bad] at hk;cases hk;done)
     | (revert hk;generalize yr _ _=bb;intro hk;cases bb<;>simp [bad] at hk)
   ·simp only [bad] at hk;cases hk
  | binOp op t x' y ty=>
   cases op<;>simp only [aS,ho,nk,og] at hk
   case eql=>
         repeat' split at hk
         all_goals first
          | (cases hk;done)
          | (simp only [bad] at hk;cases hk;done)
          | (cases bX:(P.stoodInHeld t||P.eqGuardType P.depth t)<;>rw [bX] at hk<;>simp [bad] at hk)
   case neq=>
         repeat' split at hk
         all_goals first
          | (cases hk;done)
          | (simp only [bad] at hk;cases hk;done)
          | (cases bX:(P.stoodInHeld t||P.eqGuardType P.depth t)<;>rw [bX] at hk<;>simp [bad] at hk)
   all_goals cases hk
  | buildSlice t n parts=>
   simp only [aS,ho] at hk
   repeat' split at hk
   all_goals first
    | (cases hk;done)
    | (simp only [bad] at hk;cases hk;done)
    | (revert hk;generalize yF _ _=bb;intro hk;cases bb<;>simp [bad] at hk)
  | makeMap t r=>
   cases r<;>simp only [aS,ho] at hk
   ·repeat' split at hk
    all_goals first
     | (cases hk;done)
     | (simp only [bad] at hk;cases hk;done)
   ·simp only [bad] at hk;cases hk
  | next x' b=>
   cases b<;>simp only [aS,ho] at hk
   ·simp only [bad] at hk;cases hk
   ·cases hk
  | _=>
   simp only [aS,ho] at hk
   (repeat' split at hk)
   all_goals first
    | contradiction
    | (cases hk;done)
    | (simp only [bad] at hk;cases hk;done)
 ·simp only [Op.gZ.injEq] at h3;exact ⟨c,f,h1,h2,h3.2.1,h3.2.2⟩
 ·cases h3
 ·cases h3
 ·cases h3
def agj {P:y5} {H:Hint} {o:yZ} {k:Nat} {rs:List (Nat×Bool×Nat)} {sz:Nat} {x y:X} (hk:Op.jU rs sz x y=aS P H k o):False:=by
 cases ho:o.op with
 | call c=>
  obtain ⟨callee,args,ts⟩:=c;simp only [aS,ho] at hk
  split at hk
  ·grind
  ·repeat' split at hk
   all_goals first
    | (cases hk;done)
    | (simp only [bad] at hk;cases hk;done)
    | (revert hk;generalize yr _ _=bb;intro hk;cases bb<;>simp [bad] at hk)
  ·simp only [bad] at hk;cases hk
 | binOp op t x' y ty=>
  cases op<;>simp only [aS,ho,nk,og] at hk
  case eql=>
        repeat' split at hk
        all_goals first
         | (cases hk;done)
         | (simp only [bad] at hk;cases hk;done)
         | (cases bX:(P.stoodInHeld t||P.eqGuardType P.depth t)<;>rw [bX] at hk<;>simp [bad] at hk)
  case neq=>
        repeat' split at hk
        all_goals first
         | (cases hk;done)
         | (simp only [bad] at hk;cases hk;done)
         | (cases bX:(P.stoodInHeld t||P.eqGuardType P.depth t)<;>rw [bX] at hk<;>simp [bad] at hk)
  all_goals cases hk
 | buildSlice t n parts=>
  simp only [aS,ho] at hk
  repeat' split at hk
  all_goals first
   | (cases hk;done)
   | (simp only [bad] at hk;cases hk;done)
   | (revert hk;generalize yF _ _=bb;intro hk;cases bb<;>simp [bad] at hk)
 | makeMap t r=>
  cases r<;>simp only [aS,ho] at hk
  ·repeat' split at hk
   all_goals first
    | (cases hk;done)
    | (simp only [bad] at hk;cases hk;done)
  ·simp only [bad] at hk;cases hk
 | next x' b=>
  cases b<;>simp only [aS,ho] at hk
  ·simp only [bad] at hk;cases hk
  ·cases hk
 | _=>
  simp only [aS,ho] at hk
  (repeat' split at hk)
  all_goals first
   | contradiction
   | (cases hk;done)
   | (simp only [bad] at hk;cases hk;done)
def agk {P:y5} {H:Hint} {o:yZ} {k:Nat} {rs:List (Nat×Bool×Nat)} {sz b:Nat} {x y:X} (hk:Op.kI rs sz b x y=aS P H k o):False:=by
 cases ho:o.op with
 | call c=>
  obtain ⟨callee,args,ts⟩:=c;simp only [aS,ho] at hk
  split at hk
  ·rename_i f;cases hm:H.mode k<;>simp only [hm,reduceCtorEq] at hk
  ·repeat' split at hk
   all_goals first
    | (cases hk;done)
    | (simp only [bad] at hk;cases hk;done)
    | (revert hk;generalize yr _ _=bb;intro hk;cases bb<;>simp [bad] at hk)
  ·simp only [bad] at hk;cases hk
 | binOp op t x' y ty=>
  cases op<;>simp only [aS,ho,nk,og] at hk
  case eql=>
        repeat' split at hk
        all_goals first
         | (cases hk;done)
         | (simp only [bad] at hk;cases hk;done)
         | (cases bX:(P.stoodInHeld t||P.eqGuardType P.depth t)<;>rw [bX] at hk<;>simp [bad] at hk)
  case neq=>
        repeat' split at hk
        all_goals first
         | (cases hk;done)
         | (simp only [bad] at hk;cases hk;done)
         | (cases bX:(P.stoodInHeld t||P.eqGuardType P.depth t)<;>rw [bX] at hk<;>simp [bad] at hk)
  all_goals cases hk
 | buildSlice t n parts=>
  simp only [aS,ho] at hk
  repeat' split at hk
  all_goals first
   | (cases hk;done)
   | (simp only [bad] at hk;cases hk;done)
   | (revert hk;generalize yF _ _=bb;intro hk;cases bb<;>simp [bad] at hk)
 | makeMap t r=>
  cases r<;>simp only [aS,ho] at hk
  ·repeat' split at hk
   all_goals first
    | (cases hk;done)
    | (simp only [bad] at hk;cases hk;done)
  ·simp only [bad] at hk;cases hk
 | next x' b=>
  cases b<;>simp only [aS,ho] at hk
  ·simp only [bad] at hk;cases hk
  ·cases hk
 | _=>
  simp only [aS,ho] at hk
  (repeat' split at hk)
  all_goals first
   | contradiction
   | (cases hk;done)
   | (simp only [bad] at hk;cases hk;done)
def aqS {P:y5} {H:Hint} {o:yZ} {sz:Nat} {x y:X} (hq:oH P H (.st sz x y) o):∃t x' y',o.op= .store t x' y'/\cw P t=some sz/\x=aI H x'/\y=aI H y':=by
 obtain ⟨k,hk⟩:∃k,Op.st sz x y=aS P H k o:=by
  rcases hq with h | ⟨_,_,_,_,_,h⟩ | ⟨_,_,_,_,_,_,_,h⟩ | ⟨_,_,_,_,_,_,_,h⟩ | ⟨_,_,_,_,_,_,h⟩
  ·exact h
  ·cases h
  ·cases h
  ·cases h
  ·cases h
 cases ho:o.op with
 | call c=>
  obtain ⟨callee,args,ts⟩:=c;simp only [aS,ho] at hk
  split at hk
  ·rename_i f;cases hm:H.mode k<;>simp only [hm,reduceCtorEq] at hk
  ·repeat' split at hk
   all_goals first
    | (cases hk;done)
    | (simp only [bad] at hk;cases hk;done)
    | (revert hk;generalize yr _ _=bb;intro hk;cases bb<;>simp [bad] at hk)
  ·simp only [bad] at hk;cases hk
 | binOp op t x' y ty=>
  cases op<;>simp only [aS,ho,nk,og] at hk
  case eql=>
        repeat' split at hk
        all_goals first
         | (cases hk;done)
         | (simp only [bad] at hk;cases hk;done)
         | (cases bX:(P.stoodInHeld t||P.eqGuardType P.depth t)<;>rw [bX] at hk<;>simp [bad] at hk)
  case neq=>
        repeat' split at hk
        all_goals first
         | (cases hk;done)
         | (simp only [bad] at hk;cases hk;done)
         | (cases bX:(P.stoodInHeld t||P.eqGuardType P.depth t)<;>rw [bX] at hk<;>simp [bad] at hk)
  all_goals cases hk
 | buildSlice t n parts=>
  simp only [aS,ho] at hk
  repeat' split at hk
  all_goals first
   | (cases hk;done)
   | (simp only [bad] at hk;cases hk;done)
   | (revert hk;generalize yF _ _=bb;intro hk;cases bb<;>simp [bad] at hk)
 | makeMap t r=>
  cases r<;>simp only [aS,ho] at hk
  ·repeat' split at hk
   all_goals first
    | (cases hk;done)
    | (simp only [bad] at hk;cases hk;done)
  ·simp only [bad] at hk;cases hk
 | next x' b=>
  cases b<;>simp only [aS,ho] at hk
  ·simp only [bad] at hk;cases hk
  ·cases hk
 | store t x' y'=>
  simp only [aS,ho] at hk
  split at hk
  ·rename_i s hs;simp only [Op.st.injEq] at hk;obtain ⟨rfl,rfl,rfl⟩:=hk;exact ⟨t,x',y',rfl,hs,rfl,rfl⟩
  ·simp only [bad] at hk;cases hk
 | _=>
  simp only [aS,ho] at hk
  (repeat' split at hk)
  all_goals first
   | contradiction
   | (cases hk;done)
   | (simp only [bad] at hk;cases hk;done)
def Zv {P:y5} {H:Hint} {o:yZ} {rs:List (Nat×Bool×Nat)} {sz:Nat} {x y:X} (hq:oH P H (.jU rs sz x y) o):∃t x' y',o.op= .store t x' y'/\cw P t=some sz/\x=aI H x'/\y=aI H y':=by
 rcases hq with ⟨k,hk⟩ | ⟨_,_,_,_,_,h3⟩ | ⟨t,x',y',CL,rs',h1,h2,h3⟩ | ⟨_,_,_,_,_,_,_,h3⟩ | ⟨_,_,_,_,_,_,h3⟩
 ·exact (agj hk).elim
 ·cases h3
 ·simp only [Op.jU.injEq] at h3;obtain ⟨_,rfl,rfl,rfl⟩:=h3;exact ⟨t,x',y',h1,h2,rfl,rfl⟩
 ·cases h3
 ·cases h3
def Zw {P:y5} {H:Hint} {o:yZ} {rs:List (Nat×Bool×Nat)} {sz b:Nat} {x y:X} (hq:oH P H (.kI rs sz b x y) o):∃k,Op.cQ sz b x y=aS P H k o:=by
 rcases hq with ⟨k,hk⟩ | ⟨_,_,_,_,_,h3⟩ | ⟨_,_,_,_,_,_,_,h3⟩ | ⟨k,rs',CL,b',x',y',h1,h3⟩ | ⟨_,_,_,_,_,_,h3⟩
 ·exact (agk hk).elim
 ·cases h3
 ·cases h3
 ·simp only [Op.kI.injEq] at h3;obtain ⟨_,rfl,rfl,rfl,rfl⟩:=h3;exact ⟨k,h1⟩
 ·cases h3
def Zx {P:y5} {H:Hint} {o:yZ} {sz b:Nat} {x y:X} (hq:oH P H (.cQ sz b x y) o):∃k,Op.cQ sz b x y=aS P H k o:=by
 rcases hq with h | ⟨_,_,_,_,_,h3⟩ | ⟨_,_,_,_,_,_,_,h3⟩ | ⟨_,_,_,_,_,_,_,h3⟩ | ⟨_,_,_,_,_,_,h3⟩
 ·exact h
 ·cases h3
 ·cases h3
 ·cases h3
 ·cases h3
def agl {P:y5} {H:Hint} {q:Op} {o:yZ} (hq:oH P H q o):oH P H (iS q) o:=by
 cases h:q with
 | gZ rs f xs=>
  subst h;obtain ⟨c,f',g1,g2,g3,g4⟩:=PK hq;exact .inr (.inl ⟨c,f',[],g1,g2,by rw [g3,g4];rfl⟩)
 | jU rs sz x y=>
  subst h;obtain ⟨t,x',y',g1,g2,g3,g4⟩:=Zv hq;refine .inl ⟨0,?_⟩;simp only [iS,aS,g1,g2,g3,g4]
 | kI rs sz b x y=>
  subst h;exact .inl (Zw hq)
 | _=>subst h;exact hq
def XU (hC:nh O self) (hH:eT O H) {o:yZ} {q:Op} {v:AV} (hq:oH O.P H q o) (hd:∀c,o.op≠.defer c) (hv:a6 O.prog O.aX self tm hp ct q=some (v,an,aV))
  (ht:bP O m S w tm a.tmps) (hh:aQ O m S w hp ct)
  (hn:∀u m' S' w',aQ O m' S' w' an aV->ct<=aV->af O.ab m' S' w' v u->bU m S w hp m' S' w' an ct->next (a.put o.dst u) w'):o.wpIn (WF ro) 0 O.P a w next Q:=by
 have quiet:bj q<=1->o.wpIn (WF ro) 0 O.P a w next Q:=by
  intro hk;have hg:=VM hk hv hh.aR;obtain ⟨S1,g1,g2,g3,g4⟩:=KM hh hg;refine quiet_step hC hH hk hq hd hv cO.refl (yA _) hh.aR (fun id h1 h2=>?_) (z6 (fun _ _ h=>h) g2 (fun _ _=>rfl) ht) g1 (fun u m' S' w' k1 k2 k3 k4 k5=>hn u m' S' w' k1 hg.oX k4 ((g4 ct).trans (k5.rb hg.oX)))
  cases hm:m id with
  | none=>rfl
  | some p=>have:=hh.lt id p hm;omega
 have QB:∀{q':Op},(∃k,q'=aS O.P H k o)->cF tm hp ct q'=some (v,an,aV)->o.wpIn (WF ro) 0 O.P a w next Q:=by
  intro q' ja hw;obtain ⟨k,rfl⟩:=ja;obtain ⟨n,u,w',m',S',h1,h2,h3,h4,h5,h6⟩:=alV hH ht hh hw;exact He hd h1 h2 (hn u m' S' w' h3 (ajw hw) h4 h6)
 have write:cF tm hp ct q=some (v,an,aV)->o.wpIn (WF ro) 0 O.P a w next Q:=by
  intro hw;refine QB ?_ hw;rcases hq with h | ⟨c,f,rs,_,_,rfl⟩ | ⟨_,_,_,_,_,_,_,rfl⟩ | ⟨_,_,_,_,_,_,_,rfl⟩ | ⟨_,_,_,_,_,_,rfl⟩
  ·exact h
  ·simp [cF] at hw
  ·simp [cF] at hw
  ·simp [cF] at hw
  ·simp [cF] at hw
 have heap:∀{c:tR} {f:xv} {g:Nat} {first cap:List AV},o.op= .call c->c.callee= .value f->aw tm (aI H f)= .fn (.f g) first cap->
   iw O.prog O.aX self hp ct g (first++(cZ tm (gK H c.args.toList)++cap))=some (v,an,aV)->o.wpIn (WF ro) 0 O.P a w next Q:=by
  intro c f g first cap ho iK hx he;obtain ⟨fi,ca,h1,h2⟩:=KL hH ht (args:=c.args) hx;refine Kb ho iK h1 (hC.heap _ _ _ _ _ _ _ he m S w _ hh h2) ?_;rintro e w' ⟨u,m',S',rfl,k1,k2,k3,k4⟩;exact ⟨u,rfl,hn u m' S' w' k1 k2 k3 k4⟩
 have round:∀{c:tR} {f:xv} {l:Nat} {x y:List AV},o.op= .call c->c.callee= .value f->aw tm (aI H f)= .fn (.y l) x y->
   j9 self hp ct l (cZ tm (gK H c.args.toList))=some (v,an,aV)->o.wpIn (WF ro) 0 O.P a w next Q:=by
  intro c f l x y ho iK hx he;have rf:=cf hH ht f;rw [hx] at rf;simp only [af] at rf;obtain ⟨p,hm,hf⟩:=rf;have fL:=BQ hH ht c.args.toList;obtain ⟨g,tmps,as_,body,h1,h2⟩:=hC.round _ _ _ _ _ _ _ he m S w (c.args.map a.eval) p hh hm (by simpa using fL);refine ajr ho iK hf h1 h2 ?_;rintro e w' ⟨u,m',S',rfl,k1,k2,k3,k4⟩;exact ⟨u,rfl,hn u m' S' w' k1 k2 k3 k4⟩
 have dyn:∀{c:tR} {f:xv},o.op= .call c->c.callee= .value f->dj O.prog O.aX self hp ct .dyn (aw tm (aI H f)) (cZ tm (gK H c.args.toList))=some (v,an,aV)->o.wpIn (WF ro) 0 O.P a w next Q:=by
  intro c f ho iK he;unfold dj at he
  split at he
  ·rename_i g first cap hx
   (try simp only at he)
   cases hp0:aD (first++(cZ tm (gK H c.args.toList)++cap)) with
   | true=>
    rw [hp0] at he;simp only [yt] at he
    cases hr:bE O.prog O.aX self g (first++(cZ tm (gK H c.args.toList)++cap)) with
    | none=>simp [hr] at he
    | some r=>
     simp only [hr,yb,ym] at he;obtain ⟨rfl,rfl,rfl⟩:=he;obtain ⟨fi,ca,h1,h2⟩:=KL hH ht (args:=c.args) hx;refine Kb ho iK h1 (hC.pure g _ r hr w S _ (Qc hh) hh.slt (sr (fun _ h=>h) (fun _ _=>rfl) _ _ hp0 h2) hp0) ?_;rintro e w' ⟨u,S',rfl,hw,g1,g2,g3,g4⟩;obtain ⟨S2,k1,k2,k3⟩:=W1 g4 m;have hS:∀b,S b->S2 b:=fun b hb=>k1 b (g1 b hb)
     have Ji:∀b,S2 b->S b\/w.heap.size<=b:=fun b hb=>(k2 b hb).elim (g2 b) (fun h=> .inr h.1)
     have hl:∀b,S2 b->b<w'.heap.size:=fun b hb=>(k2 b hb).elim (g3 b) (fun h=>h.2)
     exact ⟨u,rfl,hn u m S2 w' (BF hh hw hS Ji hl) (yA _) k3 (z8 hh hw hS Ji)⟩
   | false=>
    rw [hp0] at he;simp only [yG] at he;exact heap ho iK hx he
  ·rename_i l x y hx;exact round ho iK hx he
  ·cases he
 cases bH:q with
 | gZ rs x xs=>
  subst bH;simp only [a6] at hv;have key:=PK hq;obtain ⟨c,f,ho,iK,rfl,rfl⟩:=key
  cases hc:dj O.prog O.aX self hp ct .dyn (aw tm (aI H f)) (cZ tm (gK H c.args.toList)) with
  | none=>simp [hc] at hv
  | some r=>
   obtain ⟨v1,bh,nV⟩:=r;simp only [hc] at hv
   cases hs:lQ tm hp bh rs with
   | false=>rw [hs] at hv;cases hv
   | true=>
    rw [hs] at hv;simp only [yt,yb,ym] at hv;obtain ⟨rfl,rfl,rfl⟩:=hv;exact dyn ho iK hc
 | call md x xs=>
  subst bH;have ja:∃k,Op.call md x xs=aS O.P H k o:=by
   rcases hq with h | ⟨c,f,rs,_,_,h⟩ | ⟨_,_,_,_,_,_,_,h⟩ | ⟨_,_,_,_,_,_,_,h⟩ | ⟨_,_,_,_,_,_,h⟩
   ·exact h
   ·cases h
   ·cases h
   ·cases h
   ·cases h
  obtain ⟨k,hk⟩:=ja
  cases md with
  | pure=>exact quiet (by simp [bj])
  | own=>exact quiet (by simp [bj])
  | heap=>
   simp only [a6] at hv;obtain ⟨c,f,ho,iK,rfl,rfl⟩:=Lj hk.symm (by rintro rfl;simp [aw,dj] at hv);unfold dj at hv
   split at hv
   ·rename_i g first cap hx;exact heap ho iK hx hv
   ·rename_i l x y hx;exact round ho iK hx hv
   ·cases hv
  | dyn=>
   simp only [a6] at hv;obtain ⟨c,f,ho,iK,rfl,rfl⟩:=Lj hk.symm (by rintro rfl;simp [aw,dj] at hv);exact dyn ho iK hv
 | jU rs s x y=>
  subst bH;obtain ⟨t,x',y',g1,g2,g3,g4⟩:=Zv hq;simp only [a6] at hv
  split at hv
  ·rename_i id off hx
   cases hf:nj tm id rs with
   | false=>rw [hf] at hv;cases hv
   | true=>
    rw [hf] at hv;simp only [yt] at hv
    exact QB (q':= .st s x y) ⟨0,by simp only [aS,g1,g2,g3,g4]⟩ hv
  ·cases hv
 | kI rs s b x y=>
  subst bH;simp only [a6] at hv
  cases hc:cF tm hp ct (.cQ s b x y) with
  | none=>simp [hc] at hv
  | some r=>
   obtain ⟨v1,bh,nV⟩:=r;simp only [hc] at hv
   cases hs:lQ tm hp bh rs with
   | false=>rw [hs] at hv;cases hv
   | true=>
    rw [hs] at hv;simp only [yt,yb,ym] at hv;obtain ⟨rfl,rfl,rfl⟩:=hv
    exact QB (q':= .cQ s b x y) (Zw hq) hc
 | st s x y=>subst bH;exact write (by simpa only [a6] using hv)
 | oQ kk x y z=>subst bH;exact write (by simpa only [a6] using hv)
 | oS x=>subst bH;exact write (by simpa only [a6] using hv)
 | cQ s b x y=>subst bH;exact write (by simpa only [a6] using hv)
 | oU s x y=>subst bH;exact write (by simpa only [a6] using hv)
 | oP k x lo hi=>subst bH;exact quiet (by cases k<;>simp [bj])
 | len k x=>subst bH;exact quiet (by rcases k with _ | _ | k<;>simp [bj])
 | _=>subst bH;exact quiet (by simp [bj])
end
end
section
open Go
def oD (tm:Env) (g:Option (Nat×Bool)):Option Bool:=
 match g with
 | none=>some true
 | some (t,b)=>match aj tm t with | .bool c=>some (c==b) | .au []=>some false | _=>none
def eD (P:aF) (L:Lib) (self:cu) (tm:Env) (hp:Hp) (ct:Nat) (r:aZ):fN:=
 match oD tm r.guard with
 | some true=>a6 P L self tm hp ct r.op
 | some false=>some (.au [],hp,ct)
 | none=>none
def Wh {P:aF} {L:Lib} {self:cu} {r:aZ} {rs:List aZ} {s:St}:
  dl P L self (r::rs) s=match eD P L self s.tm s.hp s.ct r with | some (v,hp,ct)=>dl P L self rs {s with tm:=put r.dst v s.tm,hp:=hp,ct:=ct} | none=>none:=by
 obtain ⟨d,g,o⟩:=r;simp only [dl,eD]
 cases g with
 | none=>rfl
 | some q=>
  obtain ⟨t,b⟩:=q;simp only [oD];generalize aj s.tm t=x
  cases x with
  | bool c=>
   simp only;cases (c==b)<;>rfl
  | au vs=>cases vs<;>rfl
  | _=>rfl
def YW (ops:Array yZ) (g:Option (Nat×Bool)) (g':Option (Nat×Bool)):Prop:=
 (g=none/\g'=none)\/∃t b j,g=some (t,b)/\g'=some (j,b)/\(ops[j]?).bind (·.dst)=some t
structure LV (P:y5) (H:Hint) (ops:Array yZ) (r:aZ) (o:yZ):Prop where
 op:oH P H r.op o
 dst:r.dst=o.dst
 ok:HQ H o.dst=true
 guard:YW ops r.guard o.guard
def fQ (P:y5) (H:Hint) (ops:Array yZ):List aZ->List yZ->Prop
 | [],[]=>True
 | r::rs,o::l=>(LV P H ops r o\/(r.guard=none/\r.op=bad))/\fQ P H ops rs l
 | _,_=>False
def Wi {P:y5} {H:Hint} {ops:Array yZ}:∀(l:List yZ) (k:Nat),fQ P H ops (BL P H ops l k).1 l
 | [],k=>by simp [BL,fQ]
 | o::l,k=>by
  have ih:=Wi (P:=P) (H:=H) (ops:=ops) l (k+(bif Qx o then 1 else 0));simp only [BL];generalize hq:BL P H ops l (k+(bif Qx o then 1 else 0))=q at ih;obtain ⟨l',k'⟩:=q;simp only;have Ib:fQ P H ops (⟨o.dst,none,bad⟩::l') (o::l):=⟨.inr ⟨rfl,rfl⟩,ih⟩
  cases hg:o.guard with
  | none=>
   simp only
   cases hd:HQ H o.dst with
   | false=>exact Ib
   | true=>exact ⟨.inl ⟨.inl ⟨k,rfl⟩,rfl,hd,.inl ⟨rfl,hg⟩⟩,ih⟩
  | some p=>
   obtain ⟨j,b⟩:=p;simp only
   cases ht:(ops[j]?).bind (·.dst) with
   | none=>exact Ib
   | some t=>
    simp only
    cases hd:HQ H o.dst with
    | false=>exact Ib
    | true=>exact ⟨.inl ⟨.inl ⟨k,rfl⟩,rfl,hd,.inr ⟨t,b,j,rfl,hg,ht⟩⟩,ih⟩
section
variable {O:bk} {H:Hint} {m:Mp} {S:Nat->Prop} {w:yi} {tm:Env} {a:Act} {hp an:Hp} {ct aV:Nat} {self:cu} {ro:Option Nat} {Q:ud->Act->yi->Prop} {ops:Array yZ}
def PL {d:Option Nat} {v:AV} {tm:Env} {t:Nat}:aj (put d v tm) t=if d=some t then v else aj tm t:=by
 cases d with
 | none=>simp [put]
 | some i=>
  simp only [put,aj];by_cases h:i=t
  ·subst h;simp
  ·have:yr i t=false:=by
    cases hq:yr i t with
    | false=>rfl
    | true=>exact absurd (yj hq) h
   simp [this,h]
def KN (a:Act) (d:Option Nat) (u:yh):(a.put d u).tmps.size=a.tmps.size:=by
 cases d with
 | none=>rfl
 | some i=>simp [Act.put]
def O5 (a:Act) (d:Option Nat) (u:yh):(a.put d u).defers=a.defers:=by
 cases d with
 | none=>rfl
 | some i=>rfl
def PM {a:Act} {d:Option Nat} {u:yh} {t:Nat} (hd:∀i,d=some i->i<a.tmps.size):(a.put d u).tmps.getD t undef=if d=some t then u else a.tmps.getD t undef:=by
 cases d with
 | none=>simp [Act.put]
 | some i=>
  have hi:=hd i rfl;by_cases h:i=t
  ·subst h;simp [Act.put,hi]
  ·simp only [Act.put,yb,h,xk];simp [Array.getElem?_setIfInBounds_ne h]
def XV {n:Nat} {d:Option Nat} (h:HQ H d=true) (hn:H.n<=n):∀i,d=some i->i<n:=by
 rintro i rfl
 have:=sJ.1 h
 omega
def PN {d:Option Nat} {v:AV} {u:yh} (ht:bP O m S w tm a.tmps) (hd:∀i,d=some i->i<a.tmps.size) (hv:af O.ab m S w v u):bP O m S w (put d v tm) (a.put d u).tmps:=fun t=>by
 rw [PL,PM hd]
 split
 ·exact hv
 ·exact ht t
def W7 {o:yZ} {g:Option (Nat×Bool)} {b:Bool} (hg:YW ops g o.guard) (ht:∀t,t∈Q3 g->af O.ab m S w (aj tm t) (a.tmps.getD t undef)) (hw:oD tm g=some b):Region.wanted o (yielded ops a.tmps)=b:=by
 rcases hg with ⟨rfl,h2⟩ | ⟨t,c,j,rfl,h2,h3⟩
 ·simp only [oD,yb] at hw;subst hw;simp [Region.wanted,h2]
 ·simp only [oD] at hw;have h4:=ht t (by simp [Q3]);simp only [Region.wanted,h2]
  split at hw
  ·rename_i d hd;rw [hd] at h4;simp only [af] at h4;simp only [yb] at hw
   have:yielded ops a.tmps j=some d:=by
    simp only [yielded,h3,xZ];have h5:a.tmps[t]? =some (.bool d):=by
     simp only [wR] at h4
     cases hq:a.tmps[t]? with
     | none=>rw [hq] at h4;simp [undef] at h4
     | some x=>rw [hq] at h4;simp at h4;rw [h4]
    rw [h5]
   rw [this,<-hw];cases d<;>cases c<;>rfl
  ·rename_i hd;rw [hd] at h4;simp only [af,aq] at h4;obtain ⟨xs,h4,h5⟩:=h4;simp only [yb] at hw;subst hw
   have:yielded ops a.tmps j=none:=by
    simp only [yielded,h3,xZ];simp only [wR] at h4
    cases hq:a.tmps[t]? with
    | none=>rfl
    | some x=>rw [hq] at h4;simp at h4;rw [h4]
   rw [this];rfl
  ·cases hw
def VN {o:yZ} {q:Op} (hq:oH O.P H q o) {r:AV×Hp×Nat} (hv:a6 O.prog O.aX self tm hp ct q=some r):∀c,o.op≠.defer c:=by
 rcases hq with ⟨k,rfl⟩ | ⟨c,f,rs,h1,_,_⟩ | ⟨_,_,_,_,_,h1,_,_⟩ | ⟨k,rs,sz,b,x,y,h1,rfl⟩ | ⟨k,sz,b,x,y,h1,rfl⟩
 ·exact age hv
 ·intro c' h;rw [h1] at h;cases h
 ·intro c' h;rw [h1] at h;cases h
 ·intro c' h;simp only [aS,h] at h1;simp [bad] at h1
 ·intro c' h;simp only [aS,h] at h1;simp [bad] at h1
def alX (hC:nh O self) (hH:eT O H) {i:Nat} {r:aZ} {o:yZ} {v:AV} (hi:ops[i]? =some o) (hr:LV O.P H ops r o\/(r.guard=none/\r.op=bad)) (hv:eD O.prog O.aX self tm hp ct r=some (v,an,aV))
  (ht:bP O m S w tm a.tmps) (hh:aQ O m S w hp ct) (hn:H.n<=a.tmps.size) {K:Act->yi->Prop}
  (hK:∀u m' S' w',aQ O m' S' w' an aV->ct<=aV->bP O m' S' w' (put r.dst v tm) (a.put o.dst u).tmps->bU m S w hp m' S' w' an ct->K (a.put o.dst u) w'):wpOpIn (WF ro) 0 O.P ops Q i K a w:=by
 rcases hr with hr | ⟨h1,h2⟩
 case inr=>
  simp only [eD,h1,oD,h2,bad,a6,dj,aw] at hv;cases hv
 unfold wpOpIn;simp only [hi];unfold eD at hv
 cases hw:oD tm r.guard with
 | none=>simp [hw] at hv
 | some b=>
  have Tp:=W7 hr.guard (fun t _=>ht t) hw;have hd:=XV hr.ok hn;rw [Tp]
  cases b with
  | true=>
   simp only [hw] at hv;simp only [xA];refine XU hC hH hr.op (VN hr.op hv) hv ht hh (fun u m' S' w' k1 k2 k3 k4=>hK u m' S' w' k1 k2 ?_ k4);rw [hr.dst];exact PN (z6 (fun id p h=>k4.old id p (hh.lt id p h) h) k4.sub (fun b hb=>k4.still b hb) ht) hd k3
  | false=>
   simp only [hw,yb,ym] at hv;obtain ⟨rfl,rfl,rfl⟩:=hv;simp only [yD,xk];refine ⟨fun _ _=>trivial,hK undef m S w hh (yA _) ?_ bU.refl⟩;rw [hr.dst];exact PN ht hd (by simp [af,aq,undef])
def YX (hC:nh O self) (hH:eT O H):∀(l:List yZ) (rs:List aZ) (i:Nat) (s s':St) (a:Act) (m:Mp) (S:Nat->Prop) (w:yi),(∀j,l[j]? =ops[i+j]?)->fQ O.P H ops rs l->
  dl O.prog O.aX self rs s=some s'->bP O m S w s.tm a.tmps->aQ O m S w s.hp s.ct->H.n<=a.tmps.size->
  (∀a' m' S' w',aQ O m' S' w' s'.hp s'.ct->s.ct<=s'.ct->bP O m' S' w' s'.tm a'.tmps->bU m S w s.hp m' S' w' s'.hp s.ct->a'.tmps.size=a.tmps.size->a'.defers=a.defers->s'.base=s.base->Q .normal a' w')->
  wpOpsIn (WF ro) 0 O.P ops Q (List.range' i l.length) a w
 | [],rs,i,s,s',a,m,S,w,hl,hr,hv,ht,hh,hn,hQ=>by
  cases rs with
  | cons _ _=>simp [fQ] at hr
  | nil=>
   simp only [dl,yb] at hv;subst hv;simp only [yK,List.range'_zero,wpOpsIn];exact hQ a m S w hh (yA _) ht bU.refl rfl rfl rfl
 | o::l,rs,i,s,s',a,m,S,w,hl,hr,hv,ht,hh,hn,hQ=>by
  cases rs with
  | nil=>simp [fQ] at hr
  | cons r rs=>
   simp only [fQ] at hr;rw [Wh] at hv
   cases h1:eD O.prog O.aX self s.tm s.hp s.ct r with
   | none=>simp [h1] at hv
   | some q=>
    obtain ⟨v,bh,nV⟩:=q;simp only [h1] at hv;have hi:ops[i]? =some o:=by have:=hl 0;simpa using this.symm
    rw [yz,List.range'_succ,wpOpsIn_cons];refine alX hC hH hi hr.1 h1 ht hh hn (fun u m1 S1 w1 k1 k2 k3 k4=>?_)
    refine YX hC hH l rs (i+1) {s with tm:=put r.dst v s.tm,hp:=bh,ct:=nV} s' _ m1 S1 w1 (fun j=>?_) hr.2 hv k3 k1 (by rw [KN];exact hn) (fun a' m' S' w' g1 g2 g3 g4 g5 g6 g7=>?_)
    ·have:=hl (j+1)
     rw [List.getElem?_cons_succ] at this;rw [this];congr 1;omega
    ·exact hQ a' m' S' w' g1 (xg k2 g2) g3 (k4.trans (g4.rb k2)) (by rw [g5,KN]) (by rw [g6,O5]) g7
end
end
section
open Go
section
variable {ops:Array yZ}
def OR {acc:List Nat} {i:Nat}:∀{es:List Edge},uV (Ak acc es) i=true->∃e,e∈es/\Region.binds .any e=true/\(i=e.on\/uV (acc.getD e.on 0) i=true)
 | [],h=>by simp [Ak] at h
 | e::r,h=>by
  simp only [Ak] at h
  cases hb:Region.binds .any e with
  | false=>
   rw [hb] at h;obtain ⟨e',h1,h2⟩:=OR h
   grind
  | true=>
   rw [hb] at h;simp only [yt,Nat.testBit_or,yaa] at h;rcases h with (h | h) | h
   ·grind
   ·grind
   ·obtain ⟨e',h1,h2⟩:=OR h
    grind
def W8 {l:List yZ} {acc:List Nat} {j:Nat} (hj:j<acc.length):(kj acc l)[j]? =acc[j]? :=by
 induction l generalizing acc with
 | nil=>rfl
 | cons o l ih=>
  simp only [kj]
  grind
def agm {l:List yZ} {acc:List Nat} {j:Nat} {o:yZ} (h:l[j]? =some o):∃Ci:List Nat,(kj acc l)[acc.length+j]? =some (Ak Ci o.after.toList)/\Ci.length=acc.length+j/\∀k,k<Ci.length->Ci[k]? =(kj acc l)[k]? :=by
 induction l generalizing acc j with
 | nil=>simp at h
 | cons x l ih=>
  cases j with
  | zero=>
   simp only [vU,yb] at h;subst h;refine ⟨acc,?_,by simp,fun k hk=>?_⟩
   ·simp only [kj];rw [W8 (by simp)]
    simp
   ·simp only [kj];rw [W8 (by rw [yR];omega),List.getElem?_append_left hk]
  | succ j=>
   obtain ⟨Ci,h1,h2,h3⟩:=ih (acc:=acc++[Ak acc x.after.toList]) h;simp only [yR,yz,yK] at h1 h2;refine ⟨Ci,?_,by omega,fun k hk=>?_⟩
   ·simp only [kj]
    grind
   ·simp only [kj];exact h3 k hk
def Ord (ops:Array yZ) (i j:Nat):Prop:=uV ((kj [] ops.toList).getD j 0) i=true
def QC (ops:Array yZ) (D:Nat->Prop):Prop:=∀j o,ops[j]? =some o->D j->∀e,e∈o.after->Region.binds .any e=true->D e.on
def W9 {D:Nat->Prop} (hc:QC ops D):∀(j:Nat) (o:yZ),ops[j]? =some o->(∀e,e∈o.after->Region.binds .any e=true->D e.on)->∀i,Ord ops i j->D i:=by
 intro j
 induction j using vC with
 | _ j ih=>
  intro o ho hr i hi;have iG:ops.toList[j]? =some o:=by simp_all
  obtain ⟨Ci,h1,h2,h3⟩:=agm (acc:=[]) iG;simp only [yK,yf] at h1 h2;unfold Ord at hi;rw [xx,h1,uz] at hi;obtain ⟨e,g1,g2,g3⟩:=OR hi;have he:D e.on:=hr e (by simpa using g1) g2;rcases g3 with rfl | g3
  ·grind
  ·rcases vE e.on j with aR | jF
   ·have h4:=h3 e.on (by omega);have hol:e.on<ops.size:=by
     grind
    have Tk:ops[e.on]? =some ops[e.on]:=by simp_all
    refine ih e.on aR _ Tk (fun e' he' bX=>hc e.on _ Tk he e' he' bX) i ?_;unfold Ord
    grind
   ·grind
def ajx {D:Nat->Prop} (hc:QC ops D) {i j:Nat} {o:yZ} (ho:ops[j]? =some o) (hj:D j) (hi:Ord ops i j):D i:=
 W9 hc j o ho (fun e he hb=>hc j o ho hj e he hb) i hi
def Vs:∀{l:List yZ} {k j:Nat} {o:yZ},zZ l k=true->l[j]? =some o->∀e,e∈o.after->Region.binds .any e=true->e.on<k+j
 | [],k,j,o,_,h=>by simp at h
 | x::l,k,j,o,hb,h=>by
  simp only [zZ,yg] at hb
  cases j with
  | zero=>
   simp only [vU,yb] at h;subst h;intro e he rL
   have:=List.all_eq_true.1 hb.1 e (by simpa using he)
   simp_all
  | succ j=>
   intro e he rL
   have:=Vs hb.2 h e he rL
   omega
end
def Mu (a b:aZ) (r:List aZ):Prop:=KG a b=false/\(Gy a b=false\/GU a b r=true)
def Vu {m:Nat} {b:aZ}:∀{l:List aZ} {k i:Nat} {a:aZ},KH m b l k=true->l[i]? =some a->uV m (k+i)=true\/Mu a b (l.drop (i+1))
 | [],k,i,a,_,h=>by simp at h
 | x::l,k,i,a,hp,h=>by
  simp only [KH,yg] at hp
  cases i with
  | zero=>
   simp only [vU,yb] at h;subst h;have h1:=hp.1;simp only [yaa,uX,yaM,Bool.and_eq_false_iff,Bool.not_eq_false'] at h1;rcases h1 with h1 | ⟨h1,h2⟩
   ·grind
   ·exact .inr ⟨h1,by simpa using h2⟩
  | succ i=>
   rcases Vu hp.2 h with h1 | h1
   ·grind
   ·grind
def VA:∀{l done:List aZ} {ms:List Nat} {i j:Nat} {a b:aZ},sH done l ms=true->(done++l)[i]? =some a->l[j]? =some b->i<done.length+j->
  ∃m,ms[j]? =some m/\(uV m i=true\/Mu a b (((done++l).take (done.length+j)).drop (i+1)))
 | [],done,ms,i,j,a,b,_,_,h,_=>by simp at h
 | x::l,done,[],i,j,a,b,hp,_,h,_=>by simp [sH] at hp
 | x::l,done,m::ms,i,j,a,b,hp,ha,h,Tq=>by
  simp only [sH,yg] at hp
  cases j with
  | zero=>
   have CM:done[i]? =some a:=by grind
   have:=Vu hp.1 CM
   grind
  | succ j=>
   have e:done++x::l=(done++[x])++l:=by simp
   obtain ⟨m',h1,h2⟩:=VA (i:=i) (a:=a) hp.2 (by rw [<-e];exact ha) h (by simp;omega)
   grind
def JW {a b:aZ} (h:KG a b=false):(∀d,a.dst=some d->d∉BP b/\b.dst≠some d)/\(∀d,b.dst=some d->d∉BP a):=by
 have mem:∀{i:Nat} {l:List Nat},lz i l=false->i∉l:=by
  intro i l
  induction l with
  | nil=>intro _ h;cases h
  | cons j r ih=>
   intro h hm;simp only [lz] at h
   cases hb:yr j i with
   | true=>rw [hb] at h;cases h
   | false=>
    simp_all
 simp only [KG,yaM] at h;obtain ⟨⟨h1,h2⟩,h3⟩:=h;refine ⟨fun d hd=>⟨mem (by simpa [hd,D5] using h1),fun hb=>?_⟩,fun d hd=>mem (by simpa [hd,D5] using h2)⟩;rw [hd,hb] at h3;simp [aaa] at h3
def Wj {t:Nat}:∀{l:List aZ},B5 t l=true->∀r,r∈l->r.dst≠some t
 | [],_,r,h=>by cases h
 | x::l,h,r,hr=>by
  simp only [B5,yg,uX] at h;rcases wA.1 hr with rfl | hr
  ·intro hd;rw [hd] at h;simp [D5,lz] at h
  ·exact Wj h.2 r hr
def Ku {sz t:Nat} {ag:Bool}:∀{l:List (Nat×Bool×Nat)},Cf sz ag t l=true->(sz,ag,t)∈l
 | [],h=>by simp [Cf] at h
 | (s,g,u)::r,h=>by
  simp only [Cf,yaa,yg] at h;rcases h with ⟨h1,h2,h3⟩ | h
  ·simp_all
  ·exact wS _ (Ku h)
def PO:∀{a b:List Nat},cN a b=true->a=b
 | [],[],_=>rfl
 | [],_::_,h=>by simp [cN] at h
 | _::_,[],h=>by simp [cN] at h
 | x::a,y::b,h=>by
  simp only [cN,yg] at h;rw [yj h.1,PO h.2]
def ahs {a b:AV} (h:Mo a b=true):a=b:=by
 unfold Mo at h
 split at h
 ·grind
 ·grind
 ·rw [PO h]
 ·rfl
 ·rfl
 ·simp_all
 ·simp_all
 ·simp_all
 ·cases h
def OM {tm:Env} {hp an:Hp} {sz t:Nat} {ag:Bool} {v:AV}:∀{l:List (Nat×Bool×Nat)},lQ tm hp an l=true->(sz,ag,t)∈l->iW hp sz ag (aj tm t)=some v->iW an sz ag (aj tm t)=some v
 | [],_,h,_=>by cases h
 | (s,g,u)::r,h,hm,hv=>by
  simp only [lQ] at h
  cases h1:iW hp s g (aj tm u) with
  | none=>simp [h1] at h
  | some x=>
   cases h2:iW an s g (aj tm u) with
   | none=>simp [h1,h2] at h
   | some y=>
    simp only [h1,h2,yg] at h;rcases wA.1 hm with e | hm
    ·simp only [ym] at e;obtain ⟨rfl,rfl,rfl⟩:=e;rw [h1] at hv;rw [h2,<-ahs h.1,hv]
    ·exact OM h.2 hm hv
structure Mv (P:aF) (L:Lib) (run:cu) (rs:List aZ) (bN:Nat->Env) (bF:Nat->Hp) (bw:Nat->Nat) (vF:Nat->AV):Prop where
 step:∀i r,rs[i]? =some r->eD P L run (bN i) (bF i) (bw i) r=some (vF i,bF (i+1),bw (i+1))
 tm:∀i r,rs[i]? =some r->bN (i+1)=put r.dst (vF i) (bN i)
def YY {P:aF} {L:Lib} {self:cu}:∀{rs:List aZ} {s s':St},dl P L self rs s=some s'->
  ∃bN bF bw vF,Mv P L self rs bN bF bw vF/\bN 0=s.tm/\bF 0=s.hp/\bw 0=s.ct/\bN rs.length=s'.tm/\bF rs.length=s'.hp/\bw rs.length=s'.ct/\s'.base=s.base
 | [],s,s',h=>by
  simp only [dl,yb] at h;subst h;exact ⟨fun _=>s.tm,fun _=>s.hp,fun _=>s.ct,fun _=> .undef,⟨fun i r h=>by simp at h,fun i r h=>by simp at h⟩,rfl,rfl,rfl,rfl,rfl,rfl,rfl⟩
 | r::rs,s,s',h=>by
  rw [Wh] at h
  cases h1:eD P L self s.tm s.hp s.ct r with
  | none=>simp [h1] at h
  | some q=>
   obtain ⟨v,bh,nV⟩:=q;simp only [h1] at h;obtain ⟨bN,bF,bw,vF,g1,g2,g3,g4,g5,g6,g7,g8⟩:=YY h;refine ⟨fun i=>match i with | 0=>s.tm | i+1=>bN i,fun i=>match i with | 0=>s.hp | i+1=>bF i,fun i=>match i with | 0=>s.ct | i+1=>bw i,fun i=>match i with | 0=>v | i+1=>vF i,⟨?_,?_⟩,rfl,rfl,rfl,by simpa using g5,by simpa using g6,by simpa using g7,g8⟩
   ·intro i r' hi
    cases i with
    | zero=>
     grind
    | succ i=>exact g1.step i r' (by simpa using hi)
   ·intro i r' hi
    cases i with
    | zero=>
     grind
    | succ i=>exact g1.tm i r' (by simpa using hi)
section
variable {P:aF} {L:Lib} {self:cu} {rs:List aZ} {bN:Nat->Env} {bF:Nat->Hp} {bw:Nat->Nat} {vF:Nat->AV}
def GB (hR:Mv P L self rs bN bF bw vF) {t i:Nat}:∀(k:Nat),i+k<=rs.length->(∀j r,i<=j->j<i+k->rs[j]? =some r->r.dst≠some t)->aj (bN (i+k)) t=aj (bN i) t
 | 0,_,_=>rfl
 | k+1,hk,h=>by
  have hr:rs[i+k]? =some rs[i+k]:=by simp_all
  rw [show i+(k+1)=i+k+1 by omega,hR.tm _ _ hr,PL,yB (h (i+k) _ (by omega) (by omega) hr)];exact GB hR k (by omega) (fun j r h1 h2=>h j r h1 (by omega))
def Xa {r:aZ} {tm:Env} {hp an:Hp} {ct aV:Nat} {v:AV} (hk:bj r.op<=1) (hv:eD P L self tm hp ct r=some (v,an,aV)) (aR:∀id o,ak hp id=some o->id<ct):iy hp ct an aV:=by
 unfold eD at hv
 cases hw:oD tm r.guard with
 | none=>simp [hw] at hv
 | some b=>
  cases b with
  | true=>simp only [hw] at hv;exact VM hk hv aR
  | false=>
   simp only [hw,yb,ym] at hv;obtain ⟨rfl,rfl,rfl⟩:=hv;exact iy.refl aR
def Kv (hR:Mv P L self rs bN bF bw vF) {i:Nat} (aR:∀id o,ak (bF i) id=some o->id<bw i):∀(k:Nat),i+k<=rs.length->(∀j r,i<=j->j<i+k->rs[j]? =some r->bj r.op<=1)->iy (bF i) (bw i) (bF (i+k)) (bw (i+k))
 | 0,_,_=>iy.refl aR
 | k+1,hk,h=>by
  have ih:=Kv hR aR k (by omega) (fun j r h1 h2=>h j r h1 (by omega));have hr:rs[i+k]? =some rs[i+k]:=by simp_all
  exact ih.trans (Xa (h (i+k) _ (by omega) (by omega) hr) (hR.step _ _ hr) ih.lt)
end
end
section
open Go
def KO {tm:Env} {t:Nat}:∀{l:List Nat},t∈l->aj (cG tm l) t=aj tm t
 | [],h=>by cases h
 | i::r,h=>by
  simp only [cG,aj]
  cases hb:yr i t with
  | true=>rw [yj hb];rfl
  | false=>
   rcases wA.1 h with e | h
   ·simp_all
   ·exact KO h
def aht {P:aF} {L:Lib} {self:cu} {tm tm':Env} {hp:Hp} {ct:Nat} {o:Op} {r:AV×Hp×Nat} (h:∀t,t∈jL o->aj tm' t=aj tm t) (hv:a6 P L self tm hp ct o=some r):a6 P L self tm' hp ct (iS o)=some r:=by
 cases o with
 | gZ rs f xs=>
  simp only [jL,wC] at h;simp only [iS,a6] at hv ⊢
  rw [dw (x:=f) fun t ht=>h t (.inl ht),BD (xs:=xs) fun t ht=>h t (.inr ht)]
  cases hc:dj P L self hp ct .dyn (aw tm f) (cZ tm xs) with
  | none=>simp [hc] at hv
  | some q=>
   obtain ⟨v1,bh,nV⟩:=q;simp only [hc] at hv
   cases hs:lQ tm hp bh rs with
   | false=>rw [hs] at hv;cases hv
   | true=>
    rw [hs] at hv;simpa only [lQ,yt] using hv
 | jU rs sz x v=>
  simp only [iS,a6] at hv ⊢
  rw [BA (o:= .st sz x v) (tm:=tm) h]
  split at hv
  ·rename_i id off hx
   cases hf:nj tm id rs with
   | false=>rw [hf] at hv;cases hv
   | true=>rw [hf] at hv;exact hv
  ·cases hv
 | kI rs sz b x v=>
  simp only [iS,a6] at hv ⊢
  rw [BA (o:= .cQ sz b x v) (tm:=tm) h]
  cases hc:cF tm hp ct (.cQ sz b x v) with
  | none=>simp [hc] at hv
  | some q=>
   obtain ⟨v1,bh,nV⟩:=q;simp only [hc] at hv
   cases hs:lQ tm hp bh rs with
   | false=>rw [hs] at hv;cases hv
   | true=>rw [hs] at hv;exact hv
 | oT sz b x v=>
  rw [<-hv];simp only [jL,wC] at h;simp only [iS,a6]
  rw [dw (x:=x) fun t ht=>h t (.inl ht),dw (x:=v) fun t ht=>h t (.inr ht)]
 | call md f xs=>
  rw [<-hv];simp only [jL,wC] at h;simp only [iS,a6]
  rw [dw (x:=f) fun t ht=>h t (.inl ht),BD (xs:=xs) fun t ht=>h t (.inr ht)]
 | st s x y=>rw [<-hv];simp only [iS,a6];exact BA h
 | oQ kk x y z=>rw [<-hv];simp only [iS,a6];exact BA h
 | oS x=>rw [<-hv];simp only [iS,a6];exact BA h
 | cQ s b x y=>rw [<-hv];simp only [iS,a6];exact BA h
 | oU s x y=>rw [<-hv];simp only [iS,a6];exact BA h
 | box s x=>rw [<-hv];simp only [iS,a6];rw [Gp (hp:=hp) h]
 | mK n s z ps=>rw [<-hv];simp only [iS,a6];rw [Gp (hp:=hp) h]
 | nN s b z x y=>rw [<-hv];simp only [iS,a6];rw [Gp (hp:=hp) h]
 | zu=>exact hv
 | oR x=>rw [<-hv];simp only [iS,a6];rw [Gp (hp:=hp) h]
 | _=>rw [<-hv];simp only [iS,a6];rw [afF h]
def XW {P:aF} {L:Lib} {self:cu} {tm:Env} {hp an:Hp} {ct aV:Nat} {q:Op} {v:AV} (hk:bj q=0\/∃sz ag x,q= .ld sz ag x) (hv:a6 P L self tm hp ct q=some (v,an,aV)):bi tm hp q=some v/\an=hp/\aV=ct:=by
 have fY:∀{q:Op},(match bi tm hp q with | some v=>some (v,hp,ct) | none=>(none:fN))=some (v,an,aV)->bi tm hp q=some v/\an=hp/\aV=ct:=by
  intro q h
  cases hm:bi tm hp q with
  | none=>simp [hm] at h
  | some r=>
   simp only [hm,yb,ym] at h;obtain ⟨rfl,rfl,rfl⟩:=h;exact ⟨rfl,rfl,rfl⟩
 rcases hk with hk | ⟨sz,ag,x,rfl⟩
 ·cases bH:q with
  | call md f xs=>subst bH;cases md<;>simp [bj] at hk
  | gZ rs f xs=>subst bH;simp [bj] at hk
  | jU rs s x y=>subst bH;simp [bj] at hk
  | kI rs s b x y=>subst bH;simp [bj] at hk
  | oT s b x y=>subst bH;simp [bj] at hk
  | st s x y=>subst bH;simp [bj] at hk
  | oQ kk x y z=>subst bH;simp [bj] at hk
  | oS x=>subst bH;simp [bj] at hk
  | cQ s b x y=>subst bH;simp [bj] at hk
  | oU s x y=>subst bH;simp [bj] at hk
  | box s x=>subst bH;simp [bj] at hk
  | mK n s z ps=>subst bH;simp [bj] at hk
  | nN s b z x y=>subst bH;simp [bj] at hk
  | zu=>subst bH;simp [bj] at hk
  | oR x=>subst bH;simp [bj] at hk
  | _=>exact bH▸fY (q:=q) (by rw [bH] at hv ⊢;simp only [a6] at hv;exact hv)
 ·exact fY (q:= .ld sz ag x) (by simp only [a6] at hv;exact hv)
section
variable {O:bk} {H:Hint} {ops:Array yZ} {rs:List aZ} {bN:Nat->Env} {bF:Nat->Hp} {bw:Nat->Nat} {vF:Nat->AV} {self:cu} {ro:Option Nat} {Q:ud->Act->yi->Prop}
structure qW (O:bk) (H:Hint) (slf:cu) (ops:Array yZ) (rs:List aZ) (bN:Nat->Env) (bF:Nat->Hp) (bw:Nat->Nat) (vF:Nat->AV):Prop where
 run:Mv O.prog O.aX slf rs bN bF bw vF
 len:rs.length=ops.size
 of:∀(i:Nat) (r:aZ) (o:yZ),rs[i]? =some r->ops[i]? =some o->LV O.P H ops r o
 pair:∀(i j:Nat) (a b:aZ),i<j->rs[i]? =some a->rs[j]? =some b->Ord ops i j\/Mu a b ((rs.take j).drop (i+1))
 back:∀(i:Nat) (o:yZ),ops[i]? =some o->∀e,e∈o.after->Region.binds .any e=true->e.on<i
def jG (rs:List aZ) (i:Nat):Prop:=∃r,rs[i]? =some r/\bj r.op=2
def QD (rs:List aZ):∀(k i:Nat),i+k=rs.length->∃c,i<=c/\c<=rs.length/\(∀j,i<=j->j<c->¬jG rs j)/\(c=rs.length\/jG rs c)
 | 0,i,h=>⟨i,yA _,by omega,fun j h1 h2=>by omega,.inl (by omega)⟩
 | k+1,i,h=>by
  rcases uI (jG rs i) with hw | hw
  ·grind
  ·obtain ⟨c,h1,h2,h3,h4⟩:=QD rs k (i+1) (by omega)
   grind
def GX {rs:List aZ} {i:Nat} {r:aZ} (hr:rs[i]? =some r) (hw:¬jG rs i):bj r.op<=1:=by
 have h:bj r.op≠2:=fun e=>hw ⟨r,hr,e⟩
 have:bj r.op<=2:=by
  cases r.op with
  | oP k x lo hi=>cases k<;>simp [bj]
  | len k x=>rcases k with _ | _ | k<;>simp [bj]
  | call md f xs=>cases md<;>simp [bj]
  | _=>simp [bj]
 omega
def NM (O:bk) (rs:List aZ) (bN:Nat->Env) (D:Nat->Prop) (m:Mp) (S:Nat->Prop) (w:yi) (a:Act):Prop:=
 ∀t,∃j,j<=rs.length/\(∀(i:Nat) (r:aZ),rs[i]? =some r->r.dst=some t->(D i↔i<j))/\af O.ab m S w (aj (bN j) t) (a.tmps.getD t undef)
def alY {D:Nat->Prop} {m:Mp} {S:Nat->Prop} {w:yi} {a:Act} {i:Nat} {r:aZ} (hG:qW O H self ops rs bN bF bw vF) (hT:NM O rs bN D m S w a) (hr:rs[i]? =some r) (hi:¬D i)
  (eH:∀j,Ord ops j i->D j) (fR:∀j,Ord ops i j->¬D j):∀t,t∈BP r->af O.ab m S w (aj (bN i) t) (a.tmps.getD t undef):=by
 intro t ht;obtain ⟨j,h1,h2,h3⟩:=hT t;have EH:i<rs.length:=(wv.1 hr).1;have e:aj (bN j) t=aj (bN i) t:=by
  rcases Nat.le_total j i with hji | Tq
  ·obtain ⟨k,rfl⟩:∃k,i=j+k:=⟨i-j,by omega⟩;refine (GB hG.run k (by omega) (fun l rl g1 g2 hl hd=>?_)).symm;rcases hG.pair l (j+k) rl r (by omega) hl hr with ho | hf
   ·grind
   ·exact ((JW hf.1).1 t hd).1 ht
  ·obtain ⟨k,rfl⟩:∃k,j=i+k:=⟨j-i,by omega⟩;refine GB hG.run k h1 (fun l rl g1 g2 hl hd=>?_);rcases vh g1 with rfl | g1
   ·grind
   ·rcases hG.pair i l r rl g1 hr hl with ho | hf
    ·grind
    ·exact (JW hf.1).2 t hd ht
 grind
def YZ {D D':Nat->Prop} {m m':Mp} {S S':Nat->Prop} {w w':yi} {a:Act} {i:Nat} {r:aZ} {u:yh} (hG:qW O H self ops rs bN bF bw vF) (hT:NM O rs bN D m S w a) (hr:rs[i]? =some r) (hi:¬D i)
  (eH:∀j,Ord ops j i->D j) (fR:∀j,Ord ops i j->¬D j) (hD:∀j,D' j↔D j\/j=i) (hm:cY m m') (hS:∀b,S b->S' b) (hw:fE S w w') (hd:∀d,r.dst=some d->d<a.tmps.size)
  (hv:af O.ab m' S' w' (vF i) u):NM O rs bN D' m' S' w' (a.put r.dst u):=by
 intro t;have EH:i<rs.length:=(wv.1 hr).1;by_cases Jj:r.dst=some t
 ·refine ⟨i+1,EH,fun l rl hl Tt=>?_,?_⟩
  ·rw [hD];constructor
   ·rintro (h | h)
    ·rcases vE l (i+1) with g | g
     ·grind
     ·rcases hG.pair i l r rl (by omega) hr hl with ho | hf
      ·grind
      ·exact (((JW hf.1).1 t Jj).2 Tt).elim
    ·omega
   ·intro h;rcases vh (yas h) with h | h
    ·grind
    ·rcases hG.pair l i rl r h hl hr with ho | hf
     ·grind
     ·exact (((JW hf.1).1 t Tt).2 Jj).elim
  ·rw [hG.run.tm i r hr,PL,PM hd,yN Jj,yN Jj];exact hv
 ·obtain ⟨j,h1,h2,h3⟩:=hT t;refine ⟨j,h1,fun l rl hl Tt=>?_,?_⟩
  ·grind
  ·rw [PM hd,yB Jj];exact kU hm hS hw _ _ h3
def VO {tm:Env} {hp an:Hp} {ct aV id off sz CL t:Nat} {ag:Bool} {x y:X} {v v':AV}:∀{l:List (Nat×Bool×Nat)},nj tm id l=true->(sz,ag,t)∈l->aw tm x= .ptr id off->
  cF tm hp ct (.st CL x y)=some (v',an,aV)->iW hp sz ag (aj tm t)=some v->iW an sz ag (aj tm t)=some v
 | [],_,h,_,_,_=>by cases h
 | (s,g,u)::r,h,hm,hx,hw,hv=>by
  simp only [nj,yg] at h;rcases wA.1 hm with e | hm
  ·simp only [ym] at e;obtain ⟨rfl,rfl,rfl⟩:=e;have h1:=h.1
   split at h1
   ·rename_i j o hj;have fb:j≠id:=by
     intro e
     simp_all
    rw [hj] at hv ⊢;simp only [cF,hx] at hw;have key:∀ob,ak (aU hp id ob) j=ak hp j:=fun ob=>by rw [qD,yB (ycT fb)]
    split at hw
    ·rename_i pu ex z cs EI;generalize (yr _ _&&yF _ _&&bL _)=bb at hw
     cases bb with
     | false=>cases hw
     | true=>
      obtain ⟨_,rfl,_⟩:=hw;simp only [iW,key] at hv ⊢;exact hv
    ·cases hw
   ·rename_i cs hj;rw [hj] at hv ⊢;simpa only [iW] using hv
   ·cases h1
  ·exact VO h.2 hm hx hw hv
def VB {D:Nat->Prop} {i c:Nat} {r:aZ} {sz t:Nat} {ag:Bool} (hG:qW O H self ops rs bN bF bw vF) (hr:rs[i]? =some r) (hi:¬D i) (Bc:r.guard=none/\r.op= .ld sz ag (.t t)) (hc:c<=rs.length)
  (hW:∀j,j<c->jG rs j->D j) (fR:∀j,Ord ops i j->¬D j) (aR:∀j,j<=c->∀id o,ak (bF j) id=some o->id<bw j):∀k,i+1+k<=c->iW (bF (i+1+k)) sz ag (aj (bN i) t)=some (vF i)
 | 0,hk=>by
  have h1:=hG.run.step i r hr;simp only [eD,Bc.1,oD,Bc.2] at h1;obtain ⟨h2,h3,h4⟩:=XW (.inr ⟨_,_,_,rfl⟩) h1;simp only [bi,aw] at h2;rw [Nat.add_zero,h3];exact h2
 | k+1,hk=>by
  have ih:=VB hG hr hi Bc hc hW fR aR k (by omega);have hl:i+1+k<rs.length:=by omega
  have hj:rs[i+1+k]? =some rs[i+1+k]:=by simp [hl]
  have aO:=hG.run.step _ _ hj;rw [show i+1+(k+1)=i+1+k+1 by omega];rcases uI (jG rs (i+1+k)) with hw | hw
  ·have hD:=hW _ (by omega) hw;rcases hG.pair i (i+1+k) r _ (by omega) hr hj with ho | hf
   ·exact (fR _ ho hD).elim
   ·obtain ⟨EG,fZ⟩:=hf;obtain ⟨dW,h5,h6⟩:=hw;rw [hj] at h5;injection h5 with h5
    subst h5;rcases fZ with fZ | fZ
    ·have h1k:bj r.op=1:=by rw [Bc.2];rfl
     simp only [Gy,h1k,h6] at fZ;cases fZ
    ·unfold GU at fZ;simp only [Bc.1,Bc.2] at fZ;generalize ja:(rs[i+1+k]).op=q at fZ;have Q7:B5 t (r::(rs.take (i+1+k)).drop (i+1))=true->aj (bN (i+1+k)) t=aj (bN i) t:=by
      intro asv;have lI:=Wj asv;rw [show i+1+k=i+(1+k) by omega];refine GB hG.run (1+k) (by omega) (fun l rl g1 g2 zD=>lI rl ?_);rcases vh g1 with rfl | g1
      ·rw [hr] at zD;injection zD with zD;subst zD;exact vH
      ·refine wS _ ?_
       have:((rs.take (i+1+k)).drop (i+1))[l-(i+1)]? =some rl:=by
        rw [List.getElem?_drop,List.getElem?_take_of_lt (by omega),show i+1+(l-(i+1))=l by omega];exact zD
       exact List.mem_of_getElem? this
     unfold eD at aO
     cases hg:oD (bN (i+1+k)) (rs[i+1+k]).guard with
     | none=>simp [hg] at aO
     | some b=>
      cases b with
      | false=>
       simp only [hg,yb,ym] at aO;rw [<-aO.2.1];exact ih
      | true=>
       simp only [hg,ja] at aO;cases q<;>simp only [yD] at fZ
       case gZ CN fx xs=>
        simp only [yg] at fZ;have Ic:=Ku fZ.1;have Be:=Q7 fZ.2;simp only [a6] at aO
        cases eM:dj O.prog O.aX self (bF (i+1+k)) (bw (i+1+k)) .dyn (aw (bN (i+1+k)) fx) (cZ (bN (i+1+k)) xs) with
        | none=>simp [eM] at aO
        | some z=>
         obtain ⟨v1,bh,nV⟩:=z;simp only [eM] at aO
         cases hs:lQ (bN (i+1+k)) (bF (i+1+k)) bh CN with
         | false=>rw [hs] at aO;cases aO
         | true=>
          rw [hs] at aO;simp only [yt,yb,ym] at aO;obtain ⟨_,h8,_⟩:=aO;rw [<-h8,<-Be];exact OM hs Ic (by rw [Be];exact ih)
       case jU CN CL x v=>
        simp only [yg] at fZ;have Ic:=Ku fZ.1;have Be:=Q7 fZ.2;simp only [a6] at aO
        split at aO
        ·rename_i id off hx
         cases hs:nj (bN (i+1+k)) id CN with
         | false=>rw [hs] at aO;cases aO
         | true=>
          rw [hs] at aO;simp only [yt] at aO;rw [<-Be];exact VO hs Ic hx aO (by rw [Be];exact ih)
        ·cases aO
       case kI CN CL b x v=>
        simp only [yg] at fZ;have Ic:=Ku fZ.1;have Be:=Q7 fZ.2;simp only [a6] at aO
        cases eM:cF (bN (i+1+k)) (bF (i+1+k)) (bw (i+1+k)) (.cQ CL b x v) with
        | none=>simp [eM] at aO
        | some z=>
         obtain ⟨v1,bh,nV⟩:=z;simp only [eM] at aO
         cases hs:lQ (bN (i+1+k)) (bF (i+1+k)) bh CN with
         | false=>rw [hs] at aO;cases aO
         | true=>
          rw [hs] at aO;simp only [yt,yb,ym] at aO;obtain ⟨_,h8,_⟩:=aO;rw [<-h8,<-Be];exact OM hs Ic (by rw [Be];exact ih)
  ·exact YR (Xa (GX hj hw) aO (aR _ (by omega))).le ih
structure Inv (O:bk) (ops:Array yZ) (rs:List aZ) (bN:Nat->Env) (bF:Nat->Hp) (bw:Nat->Nat) (D:Nat->Prop) (m0:Mp) (S0:Nat->Prop) (w0:yi) (n0:Nat) (d0:List yab) (st c:Nat) (m:Mp) (S:Nat->Prop) (w:yi) (a:Act):Prop where
 Tu:st<=c
 cn:c<=rs.length
 before:∀i,i<st->jG rs i->D i
 EJ:∀i,st<=i->i<c->¬jG rs i
 cut:c=rs.length\/(jG rs c/\¬D c)
 behind:∀(i:Nat) (r:aZ),c<=i->rs[i]? =some r->1<=bj r.op->¬D i
 hp:aQ O m S w (bF c) (bw c)
 Tv:∀id p,m id=some p->id<bw st\/∃i,st<=i/\i<c/\D i/\bw i<=id/\id<bw (i+1)
 tm:NM O rs bN D m S w a
 NN:bU m0 S0 w0 (bF 0) m S w (bF c) (bw 0)
 ge:bw 0<=bw c
 size:a.tmps.size=n0
 defers:a.defers=d0
 EK:st=0\/jG rs (st-1)
 EL:∀j,j<=c->∀id o,ak (bF j) id=some o->id<bw j
end
end
section
open Go
section
variable {O:bk} {H:Hint} {ops:Array yZ} {rs:List aZ} {bN:Nat->Env} {bF:Nat->Hp} {bw:Nat->Nat} {vF:Nat->AV} {self:cu} {ro:Option Nat} {Q:ud->Act->yi->Prop}
variable {D D':Nat->Prop} {m0:Mp} {S0:Nat->Prop} {w0:yi} {n0:Nat} {d0:List yab} {st c i:Nat} {m:Mp} {S:Nat->Prop} {w:yi} {a:Act} {r:aZ} {o:yZ}
def Kw (hG:qW O H self ops rs bN bF bw vF) (hI:Inv O ops rs bN bF bw D m0 S0 w0 n0 d0 st c m S w a) {x y:Nat} (hx:st<=x) (hxy:x<=y) (hy:y<=c):iy (bF x) (bw x) (bF y) (bw y):=by
 obtain ⟨k,rfl⟩:∃k,y=x+k:=⟨y-x,by omega⟩
 have:=hI.cn
 exact Kv hG.run (hI.EL x (by omega)) k (by omega) (fun j r h1 h2 hr=>GX hr (hI.EJ j (by omega) (by omega)))
def PP (hG:qW O H self ops rs bN bF bw vF) (hI:Inv O ops rs bN bF bw D m0 S0 w0 n0 d0 st c m S w a) (hr:rs[i]? =some r) (hi:¬D i) (eH:∀j,Ord ops j i->D j) (fR:∀j,Ord ops i j->¬D j) (hD:∀j,D' j↔D j\/j=i)
  (hd:∀d,r.dst=some d->d<a.tmps.size) (hw:¬jG rs i) (zB:bj r.op=0\/i<c) {m':Mp} {S':Nat->Prop} {w':yi} {u:yh} (k1:aQ O m' S' w' (bF c) (bw c)) (k2:cY m m')
  (k3:∀id p,m' id=some p->m id=some p\/(st<=i/\i<c/\bw i<=id/\id<bw (i+1))) (k4:af O.ab m' S' w' (vF i) u) (k5:bU m S w (bF c) m' S' w' (bF c) (bw c)):
  Inv O ops rs bN bF bw D' m0 S0 w0 n0 d0 st c m' S' w' (a.put r.dst u) where
 Tu:=hI.Tu
 cn:=hI.cn
 before j hj CO:=(hD j).2 (.inl (hI.before j hj CO))
 EJ:=hI.EJ
 cut:=hI.cut.imp (fun h=>h) (fun h=>⟨h.1,fun hc=>((hD c).1 hc).elim h.2 (fun e=>hw (e▸h.1))⟩)
 behind j rj hj CP hk Jk:=((hD j).1 Jk).elim (hI.behind j rj hj CP hk) (fun e=>by
  subst e;rw [hr] at CP;injection CP with CP
  subst CP
  rcases zB with h | h<;>omega)
 hp:=k1
 Tv id p hp:=by
  rcases k3 id p hp with h | ⟨h1,h2,h3,h4⟩
  ·rcases hI.Tv id p h with h | ⟨j,g1,g2,g3,g4,g5⟩
   ·exact .inl h
   ·exact .inr ⟨j,g1,g2,(hD j).2 (.inl g3),g4,g5⟩
  ·exact .inr ⟨i,h1,h2,(hD i).2 (.inr rfl),h3,h4⟩
 tm:=YZ hG hI.tm hr hi eH fR hD k2 k5.sub (fun b hb=>k5.still b hb) hd k4
 NN:=hI.NN.trans (k5.rb hI.ge)
 ge:=hI.ge
 size:=by rw [KN];exact hI.size
 defers:=by rw [O5];exact hI.defers
 EK:=hI.EK
 EL:=hI.EL
def Y0 (hG:qW O H self ops rs bN bF bw vF) (hI:Inv O ops rs bN bF bw D m0 S0 w0 n0 d0 st c m S w a) (hr:rs[c]? =some r) (hi:¬D c) (eH:∀j,Ord ops j c->D j) (fR:∀j,Ord ops c j->¬D j) (hD:∀j,D' j↔D j\/j=c)
  (hd:∀d,r.dst=some d->d<a.tmps.size) (hw:jG rs c) {m':Mp} {S':Nat->Prop} {w':yi} {u:yh} (k1:aQ O m' S' w' (bF (c+1)) (bw (c+1))) (k2:bw c<=bw (c+1))
  (k4:af O.ab m' S' w' (vF c) u) (k5:bU m S w (bF c) m' S' w' (bF (c+1)) (bw c)):
  ∃c' A7,Inv O ops rs bN bF bw D' m0 S0 w0 n0 d0 (c+1) c' m' A7 w' (a.put r.dst u):=by
 have eM:c<rs.length:=(wv.1 hr).1;obtain ⟨c',h1,h2,h3,h4⟩:=QD rs (rs.length-(c+1)) (c+1) (by omega);obtain ⟨k,rfl⟩:∃k,c'=c+1+k:=⟨c'-(c+1),by omega⟩;have hg:∀k',k'<=k->iy (bF (c+1)) (bw (c+1)) (bF (c+1+k')) (bw (c+1+k')):=fun k' A8=>
  Kv hG.run k1.aR k' (by omega) (fun j r g1 g2 hr=>GX hr (h3 j g1 (by omega)))
 obtain ⟨A7,g1,g2,g3,g4⟩:=KM k1 (hg k (yA _));have hml:cY m m':=fun id p h=>k5.old id p (hI.hp.lt id p h) h
 refine ⟨c+1+k,A7,⟨by omega,h2,?_,h3,?_,?_,g1,fun id p h=> .inl (k1.lt id p h),?_,?_,?_,by rw [KN];exact hI.size,by rw [O5];exact hI.defers,.inr (by simpa using hw),?_⟩⟩
 ·intro j hj CO;rcases vh (yas hj) with e | hj
  ·exact (hD j).2 (.inr e)
  ·rcases vE j st with g | g
   ·exact (hD j).2 (.inl (hI.before j g CO))
   ·exact (hI.EJ j g hj CO).elim
 ·refine h4.imp (fun h=>h) (fun h=>⟨h,fun hc=>?_⟩);obtain ⟨rc,Tw,zB⟩:=h;rcases (hD _).1 hc with g | g
  ·exact hI.behind _ rc (by omega) Tw (by omega) g
  ·omega
 ·intro j rj hj CP hk Jk;rcases (hD j).1 Jk with g | g
  ·exact hI.behind j rj (by omega) CP hk g
  ·omega
 ·exact YZ hG hI.tm hr hi eH fR hD hml (fun b hb=>g2 b (k5.sub b hb)) (fun b hb=>k5.still b hb) hd (kU (fun _ _ h=>h) g2 (fun _ _=>rfl) _ _ k4)
 ·exact (hI.NN.trans (k5.rb hI.ge)).trans (g4 (bw 0))
 ·have:=(hg k (yA _)).oX
  have:=hI.ge
  omega
 ·intro j hj;rcases vE c j with g | g
  ·obtain ⟨k',rfl⟩:∃k',j=c+1+k':=⟨j-(c+1),by omega⟩;exact (hg k' (by omega)).lt
  ·exact hI.EL j g
def ajy {q:Op} (h:bj q≠2):iS q=q:=by
 cases q<;>first
  | rfl
  | exact absurd rfl h
def Wk {x y:aZ} {l:List aZ} (h:Mu x y l):¬(bj x.op=2/\1<=bj y.op)/\(1<=bj x.op->bj y.op=2->x.guard=none/\∃sz ag t,x.op= .ld sz ag (.t t)):=by
 obtain ⟨_,h⟩:=h;have ex:GU x y l=true->x.guard=none/\∃sz ag t,x.op= .ld sz ag (.t t):=by
  intro he;unfold GU at he
  split at he
  ·rename_i sz ag t CN fx xs h1 h2 h3;exact ⟨h1,sz,ag,t,h2⟩
  ·rename_i h1 h2 h3;exact ⟨h1,_,_,_,h2⟩
  ·rename_i h1 h2 h3;exact ⟨h1,_,_,_,h2⟩
  ·cases he
 have k2:∀q:Op,bj q<=2:=fun q=>by
  cases q with
  | oP k x lo hi=>cases k<;>simp [bj]
  | len k x=>rcases k with _ | _ | k<;>simp [bj]
  | call md f xs=>cases md<;>simp [bj]
  | _=>simp [bj]
 constructor
 ·rintro ⟨h1,h2⟩;rcases h with h | h
  ·have:bj y.op=1\/bj y.op=2:=by have:=k2 y.op;omega
   rcases this with e | e<;>(simp only [Gy,h1,e] at h;cases h)
  ·obtain ⟨_,sz,ag,t,e⟩:=ex h;rw [e] at h1;cases h1
 ·intro h1 h2;rcases h with h | h
  ·have:bj x.op=1\/bj x.op=2:=by have:=k2 x.op;omega
   rcases this with e | e<;>(simp only [Gy,h2,e] at h;cases h)
  ·exact ex h
def ajz (hC:nh O self) (hH:eT O H) (hG:qW O H self ops rs bN bF bw vF) (hn:H.n<=n0) (hI:Inv O ops rs bN bF bw D m0 S0 w0 n0 d0 st c m S w a) (hr:rs[i]? =some r) (ho:ops[i]? =some o) (hi:¬D i)
  (eH:∀j,Ord ops j i->D j) (fR:∀j,Ord ops i j->¬D j) (hD:∀j,D' j↔D j\/j=i) {K:Act->yi->Prop}
  (hK:∀st' c' m' S' w' a',Inv O ops rs bN bF bw D' m0 S0 w0 n0 d0 st' c' m' S' w' a'->K a' w'):wpOpIn (WF ro) 0 O.P ops Q i K a w:=by
 have cR:=hG.of i r o hr ho;have RN:=alY hG hI.tm hr hi eH fR;have aO:=hG.run.step i r hr;have hd:∀d,r.dst=some d->d<a.tmps.size:=by
  rw [cR.dst];exact XV cR.ok (by rw [hI.size];exact hn)
 have kK:=hI.Tu;have jF:1<=bj r.op->i<=c:=by
  intro hk;rcases vE c i with Tz | Tz
  ·have EH:i<rs.length:=(wv.1 hr).1;rcases hI.cut with h | ⟨⟨rc,Tw,zB⟩,Ja⟩
   ·omega
   ·rcases hG.pair c i rc r Tz Tw hr with h | h
    ·exact (Ja (eH c h)).elim
    ·exact ((Wk h).1 ⟨zB,hk⟩).elim
  ·exact Tz
 have hwc:jG rs i->i=c:=by
  intro hw;obtain ⟨dW,h1,h2⟩:=hw;rw [hr] at h1;injection h1 with h1
  subst h1;have h3:=jF (by omega);rcases vh h3 with e | h3
  ·exact e
  ·rcases vE i st with g | g
   ·exact (hi (hI.before i g ⟨r,hr,h2⟩)).elim
   ·exact (hI.EJ i g h3 ⟨r,hr,h2⟩).elim
 have aR:1<=bj r.op->¬jG rs i->i<c:=by
  intro hk hw;rcases vh (jF hk) with e | h
  ·subst e;rcases hI.cut with h | h
   ·have EH:i<rs.length:=(wv.1 hr).1;omega
   ·exact (hw h.1).elim
  ·exact h
 have zB:¬jG rs i->bj r.op=0\/i<c:=fun hw=>by
  rcases xi (bj r.op) with h | h
  ·exact .inl h
  ·exact .inr (aR h hw)
 unfold wpOpIn;simp only [ho];unfold eD at aO
 cases NO:oD (bN i) r.guard with
 | none=>simp [NO] at aO
 | some b=>
  have Tp:=W7 cR.guard (fun t ht=>RN t (by simp [BP,ht])) NO;rw [Tp]
  cases b with
  | false=>
   simp only [NO,yb,ym] at aO;obtain ⟨hv,hh,hc⟩:=aO;simp only [yD,xk];refine ⟨fun _ _=>trivial,?_⟩;have dK:∀m S w,af O.ab m S w (vF i) undef:=fun m S w=>by rw [<-hv];simp [af,aq,undef]
   rw [<-cR.dst];rcases uI (jG rs i) with hw | hw
   ·have e:=hwc hw;subst e;obtain ⟨c',A7,h⟩:=Y0 hG hI hr hi eH fR hD hd hw (m':=m) (S':=S) (w':=w) (u:=undef) (by rw [<-hh,<-hc];exact hI.hp) (by omega) (dK _ _ _) (by rw [<-hh];exact bU.refl)
    exact hK _ _ _ _ _ _ h
   ·exact hK _ _ _ _ _ _ (PP hG hI hr hi eH fR hD hd hw (zB hw) (m':=m) (S':=S) (w':=w) (u:=undef) hI.hp cY.refl (fun _ _ h=> .inl h) (dK _ _ _) bU.refl)
  | true=>
   simp only [NO] at aO;simp only [xA];have lI:=VN cR.op aO;have NP:bP O m S w (cG (bN i) (jL r.op)) a.tmps:=fun t=>by
    rcases uI (t∈jL r.op) with h | h
    ·rw [KO h];exact RN t (by simp [BP,h])
    ·have:aj (cG (bN i) (jL r.op)) t= .undef:=by
      clear RN aO;revert h;generalize jL r.op=l;intro h
      induction l with
      | nil=>rfl
      | cons x l ih=>
       simp only [cG,aj];have hx:yr x t=false:=by
        cases hq:yr x t with
        | false=>rfl
        | true=>exact absurd (by rw [yj hq];exact vH) h
       rw [hx];exact ih (fun h'=>h (wS _ h'))
     rw [this];simp only [af]
   have CQ:a6 O.prog O.aX self (cG (bN i) (jL r.op)) (bF i) (bw i) (iS r.op)=some (vF i,bF (i+1),bw (i+1)):=
    aht (fun t ht=>KO ht) aO
   have Zy:¬jG rs i->iS r.op=r.op:=fun hw=>ajy (fun h=>hw ⟨r,hr,h⟩)
   have now:¬jG rs i->bi (cG (bN i) (jL r.op)) (bF c) r.op=some (vF i)->Oper.wpIn (WF ro) 0 O.P o a w K Q:=by
    intro hw fY;have ja:∃k,r.op=aS O.P H k o:=by
     rcases cR.op with h | ⟨cc,f,rr,_,_,h⟩ | ⟨_,_,_,_,_,_,_,h⟩ | ⟨_,_,_,_,_,_,_,h⟩ | ⟨_,_,_,_,_,_,h⟩
     ·exact h
     ·rw [h] at fY;simp [bi] at fY
     ·rw [h] at fY;simp [bi] at fY
     ·rw [h] at fY;simp [bi] at fY
     ·rw [h] at fY;simp [bi] at fY
    obtain ⟨k,hk⟩:=ja;rw [hk] at fY;rw [hk] at NP;obtain ⟨u,h1,h2⟩:=YK hH NP hI.hp fY;refine He lI h1 (.inl rfl) ?_;rw [<-cR.dst];exact hK _ _ _ _ _ _ (PP hG hI hr hi eH fR hD hd hw (zB hw) hI.hp cY.refl (fun _ _ h=> .inl h) h2 bU.refl)
   rcases uI (jG rs i) with hw | hw
   ·have e:=hwc hw;subst e;refine XU hC hH (agl cR.op) lI CQ NP hI.hp (fun u m' S' w' k1 k2 k3 k4=>?_);rw [<-cR.dst];obtain ⟨c',A7,h⟩:=Y0 hG hI hr hi eH fR hD hd hw k1 k2 k3 k4;exact hK _ _ _ _ _ _ h
   ·rcases xi (bj r.op) with hk | hk
    ·have CQ:=Zy hw▸CQ;obtain ⟨h1,_,_⟩:=XW (.inl hk) CQ;exact now hw (by rw [ahk hk (bF c) (bF i)];exact h1)
    ·have EC:=aR hk hw;rcases vE i st with RO | RO
     ·
      rcases hI.EK with h0 | h0
      ·omega
      ·have bh:D (st-1):=hI.before _ (by omega) h0;have fb:i≠st-1:=fun e=>hi (e▸bh)
       obtain ⟨rp,hrp,hkp⟩:=h0;rcases hG.pair i (st-1) r rp (by omega) hr hrp with h | h
       ·exact (fR _ h bh).elim
       ·obtain ⟨hg,sz,ag,t,ja⟩:=(Wk h).2 hk hkp;have hl:=VB (c:=c) hG hr hi ⟨hg,ja⟩ hI.cn (fun j hj CO=>by
         rcases vE j st with g | g
         ·exact hI.before j g CO
         ·exact (hI.EJ j g hj CO).elim) fR hI.EL (c-(i+1)) (by omega)
        rw [show i+1+(c-(i+1))=c by omega] at hl;refine now hw ?_;rw [ja];simp only [bi,aw];rw [KO (by simp [jL,iR])];exact hl
     ·have ic:=Kw hG hI (x:=i+1) (y:=c) (by omega) EC (yA _);have Jl:=Kw hG hI (x:=st) (y:=i) (yA _) RO (by omega)
      refine quiet_step (Hq:=bF c) (cH:=bw c) hC hH (GX hr hw) cR.op lI (Zy hw▸CQ) ic.le ic.oX (hI.EL i (by omega)) ?_ NP hI.hp (fun u m' S' w' k1 k2 k3 k4 k5=>?_)
      ·intro id h1 h2
       cases hm:m id with
       | none=>rfl
       | some p=>
        rcases hI.Tv id p hm with h | ⟨j,q1,q2,q3,q4,q5⟩
        ·have:=Jl.oX;omega
        ·rcases Nat.lt_trichotomy j i with g | g | g
         ·have:=(Kw hG hI (x:=j+1) (y:=i) (by omega) g (by omega)).oX;omega
         ·subst g;exact (hi q3).elim
         ·have:=(Kw hG hI (x:=i+1) (y:=j) (by omega) g (by omega)).oX;omega
      ·rw [<-cR.dst];exact hK _ _ _ _ _ _ (PP hG hI hr hi eH fR hD hd hw (.inr EC) k1 k2 (fun id p h=>(k3 id p h).imp (fun h=>h) (fun h=>⟨RO,EC,h.1,h.2⟩)) k4 k5)
def left (n:Nat) (listed:Array Bool):Nat:=(List.range n).countP fun i=> !listed.getD i false
def ajA {n:Nat} {listed:Array Bool} {i:Nat} (hi:i<n) (hs:listed.size=n) (hl:listed.getD i true=false):left n (listed.setIfInBounds i true)+1=left n listed:=by
 have key:∀(l:List Nat),l.Nodup->(i∈l->(l.countP fun j=> !(listed.setIfInBounds i true).getD j false)+1=l.countP fun j=> !listed.getD j false)/\(i∉l->(l.countP fun j=> !(listed.setIfInBounds i true).getD j false)=l.countP fun j=> !listed.getD j false):=by
  intro l
  induction l with
  | nil=>intro _;exact ⟨fun h=>(by cases h),fun _=>rfl⟩
  | cons x l ih=>
   intro lI;have hx:x≠i->(listed.setIfInBounds i true).getD x false=listed.getD x false:=fun h=>getD_set_ne false (ycT h)
   refine ⟨fun hm=>?_,fun hm=>?_⟩
   ·rw [ybB,ybB];by_cases e:x=i
    ·simp_all
    ·grind
   ·grind
 exact (key _ List.nodup_range).1 (List.mem_range.2 hi)
def ahu {n:Nat} {listed:Array Bool} (h:left n listed=0):∀i,i<n->listed.getD i false=true:=by
 unfold left at h
 simp_all
def ahv {listed:Array Bool} (hs:listed.size=ops.size) (hb:∀(i:Nat) (o:yZ),ops[i]? =some o->∀e,e∈o.after->Region.binds .any e=true->e.on<i) (h:Region.ready .any ops listed=[]):∀i,i<ops.size->listed.getD i false=true:=by
 intro i
 induction i using vC with
 | _ i ih=>
  intro hi
  cases hq:listed.getD i false with
  | true=>rfl
  | false=>
   have:i∈Region.ready .any ops listed:=by
    refine mem_ready.2 ⟨?_,ops[i],by simp [hi],fun e he rL=>?_⟩
    ·have aR:i<listed.size:=by omega
     simp only [wR,aR,Array.getElem?_eq_getElem,uz] at hq ⊢;exact hq
    ·have:=hb i ops[i] (by simp [hi]) e he rL
     exact ih e.on this (by omega)
   rw [h] at this;cases this
def alZ (hG:qW O H self ops rs bN bF bw vF) (hI:Inv O ops rs bN bF bw D m0 S0 w0 n0 d0 st c m S w a) (gL:∀i,i<rs.length->D i):
  aQ O m S w (bF rs.length) (bw rs.length)/\bP O m S w (bN rs.length) a.tmps/\bU m0 S0 w0 (bF 0) m S w (bF rs.length) (bw 0)/\bw 0<=bw rs.length:=by
 have hc:c=rs.length:=by
  rcases hI.cut with h | ⟨⟨r,h1,_⟩,h2⟩
  ·grind
  ·grind
 subst hc;refine ⟨hI.hp,fun t=>?_,hI.NN,hI.ge⟩;obtain ⟨j,h1,h2,h3⟩:=hI.tm t;obtain ⟨k,hk⟩:∃k,rs.length=j+k:=⟨rs.length-j,by omega⟩
 have:=GB (t:=t) (i:=j) hG.run k (by omega) (fun l r g1 g2 hl hd=>by
  have:=(h2 l r hl hd).1 (gL l (wv.1 hl).1)
  omega)
 grind
def aol (hC:nh O self) (hH:eT O H) (hG:qW O H self ops rs bN bF bw vF) (hn:H.n<=n0)
  (hQ:∀a' m' S' w',aQ O m' S' w' (bF rs.length) (bw rs.length)->bw 0<=bw rs.length->bP O m' S' w' (bN rs.length) a'.tmps->bU m0 S0 w0 (bF 0) m' S' w' (bF rs.length) (bw 0)->a'.tmps.size=n0->a'.defers=d0->Q .normal a' w'):
  ∀(bg:Nat) (listed:Array Bool) (st c:Nat) (m:Mp) (S:Nat->Prop) (w:yi) (a:Act),listed.size=ops.size->left ops.size listed=bg->QC ops (fun i=>listed.getD i false=true)->
   Inv O ops rs bN bF bw (fun i=>listed.getD i false=true) m0 S0 w0 n0 d0 st c m S w a->wpAnyIn (WF ro) 0 O.P .any ops Q bg listed a w:=by
 have fin:∀(listed:Array Bool) (st c:Nat) (m:Mp) (S:Nat->Prop) (w:yi) (a:Act),Inv O ops rs bN bF bw (fun i=>listed.getD i false=true) m0 S0 w0 n0 d0 st c m S w a->(∀i,i<ops.size->listed.getD i false=true)->Q .normal a w:=by
  intro listed st c m S w a hI gL;obtain ⟨h1,h2,h3,h4⟩:=alZ hG hI (fun i hi=>gL i (by rw [<-hG.len];exact hi))
  exact hQ a m S w h1 h4 h2 h3 hI.size hI.defers
 intro bg
 induction bg with
 | zero=>
  intro listed st c m S w a hs hl hc hI;have gL:=ahu hl;refine ⟨?_,fin listed st c m S w a hI gL⟩;rw [List.eq_nil_iff_forall_not_mem];intro i hm;obtain ⟨h1,o,ho,_⟩:=mem_ready.1 hm
  grind
 | succ bg ih=>
  intro listed st c m S w a hs hl hc hI;refine ⟨fun h=>fin listed st c m S w a hI (ahv hs hG.back h),fun i hm=>?_⟩;obtain ⟨h1,o,ho,h2⟩:=mem_ready.1 hm;have hi:i<ops.size:=(xu.1 ho).1;have hr:rs[i]? =some (rs[i]'(by rw [hG.len];exact hi)):=by simp [hG.len,hi]
  have aR:i<listed.size:=by omega
  have hni:¬listed.getD i false=true:=by
   grind
  have hD:∀j,(listed.setIfInBounds i true).getD j false=true↔listed.getD j false=true\/j=i:=by
   intro j;by_cases e:j=i
   ·simp_all
   ·rw [getD_set_ne false (ycT e)];simp [e]
  refine ajz hC hH hG hn hI hr ho hni (W9 hc i o ho h2) (fun j hj Jk=>?_) hD (fun st' c' m' S' w' a' TA=>ih (listed.setIfInBounds i true) st' c' m' S' w' a' (by simp [hs]) ?_ ?_ TA)
  ·have hjl:j<ops.size:=by
    grind
   exact hni (ajx hc (show ops[j]? =some ops[j] by simp [hjl]) Jk hj)
  ·have:=ajA hi hs h1
   omega
  ·intro j oj hoj hj e he hb;rw [hD];rcases (hD j).1 hj with g | g
   ·exact .inl (hc j oj hoj g e he hb)
   ·grind
end
end
section
open Go
def agn {F:Fence} {n:Nat} {P:y5} {Q:ud->Act->yi->Prop} {a:Act} {w:yi} {c:wU} (h:c.wpIn F n P Q a w) (hg:∀l a w,¬Q (.goto l) a w):(Code.scope c).wpIn F n P Q a w:=by
 intro b k cs cR hb hr;have h0:(lone (b.atR a (.code (.scope c)::k)) cs w).fenced P F:=fenced_calm hb hr rfl;have s0:step P (lone (b.atR a (.code (.scope c)::k)) cs w)= .next (lone (b.atR a (.code c:: .inScope c::k)) cs w):=step_lone_go (by simp [stepG,stepG.exec,Frame.atR]);obtain ⟨e,a₁,w₁,hq,Cg⟩:=h b (.inScope c::k) cs cR hb hr;have hx:∀id,exitTo id (.inScope c::k)=exitTo id k:=fun id=>by simp [exitTo]
 cases e with
 | normal=>
  have s1:step P (lone (b.atR a₁ (.inScope c::k)) cs w₁)= .next (lone (b.atR a₁ k) cs w₁):=step_lone_go (by simp [stepG,stepG.exec,Frame.atR]);exact ⟨.normal,a₁,w₁,hq,.head h0 s0 (StepsIn.trans Cg (.one (fenced_calm hb hr rfl) s1))⟩
 | exit id=>
  exact ⟨.exit id,a₁,w₁,hq,fun k' hk=> .head h0 s0 (Cg.1 k' (by rw [hx];exact hk)),fun bC hk=>let ⟨k₁,h1,h2⟩:=Cg.2 bC (by rw [hx];exact hk);⟨k₁,h1,.head h0 s0 h2⟩⟩
 | goto l=>exact (hg _ _ _ hq).elim
 | ret=>exact ⟨_,a₁,w₁,hq,.of_steps (.one h0 s0) Cg⟩
 | panic ch=>exact ⟨_,a₁,w₁,hq,.of_steps (.one h0 s0) Cg⟩
 | outgrown=>exact ⟨_,a₁,w₁,hq,.of_steps (.one h0 s0) Cg⟩
def pP:Ex->ud
 | .normal=> .normal
 | .ret=> .ret
 | .exit id=> .exit id
def Marks (lo:Nat) (S:Nat->Prop) (w:yi) (ds:List yab):Prop:=∃rs:List Nat,ds=rs.map (fun r=>{target:= .collected r,args:=#[]})/\rs.Nodup/\
 ∀r,r∈rs->w.heap[r]? =some (.deferred (some []))/\¬S r/\lo<=r
def sO (ro:Option Nat) (w:yi):Prop:=∀l,ro=some l->∃r:uG,w.heap[l]? =some (.loop r)
section
variable {O:bk} {m:Mp} {S:Nat->Prop} {w:yi} {hp:Hp} {ct:Nat}
def XX (hh:aQ O m S w hp ct) {b:Nat} (h:dM m hp b):∀x,w.heap[b]?≠some (.deferred x):=by
 intro x hx;obtain ⟨id,o,p,h1,h2,rfl⟩:=h;have h3:=hh.obj id o p h1 h2
 cases o with
 | cells rw pu ex sz cs=>obtain ⟨q,arr,t,g1,g2,_⟩:=h3;rw [h2] at g1;injection g1 with g1;subst g1;rw [hx] at g2;cases g2
 | mp rw ks vs=>obtain ⟨q,es,clock,g1,g2,_⟩:=h3;rw [h2] at g1;injection g1 with g1;subst g1;rw [hx] at g2;cases g2
 | si s pos=>obtain ⟨q,t,g1,g2,_⟩:=h3;rw [h2] at g1;injection g1 with g1;subst g1;rw [hx] at g2;cases g2
 | lp tm ps as_ body st pe=>obtain ⟨q,l,hi,g1,g2,_⟩:=h3;rw [h2] at g1;injection g1 with g1;subst g1;rw [hx] at g2;cases g2
def z7 (hh:aQ O m S w hp ct) {m':Mp} {S':Nat->Prop} {w':yi} {an:Hp} {base lo:Nat} (hf:bU m S w hp m' S' w' an base) {ds:List yab} (h:Marks lo S w ds):Marks lo S' w' ds:=by
 obtain ⟨rs,h1,h2,h3⟩:=h;refine ⟨rs,h1,h2,fun r hr=>?_⟩;obtain ⟨this,h4,h5⟩:=h3 r hr;have aR:=(xu.1 this).1;have nU:¬dM m hp r:=fun ho=>XX hh ho _ this
 refine ⟨(hf.same r aR nU).trans this,fun hs=>?_,h5⟩;rcases hf.new r hs with h | h | h
 ·grind
 ·grind
 ·omega
def Kx {m':Mp} {S':Nat->Prop} {w':yi} {an:Hp} {base:Nat} {ro:Option Nat} (hf:bU m S w hp m' S' w' an base) (h:sO ro w):sO ro w':=fun l hl=>
 let ⟨r,hr⟩:=h l hl
 hf.loops l r hr
def ej (O:bk) (m:Mp) (S:Nat->Prop) (w:yi) (s:St) (ex:Ex) (s':St) (n lo:Nat) (e:ud) (a':Act) (w':yi):Prop:=
 e=pP ex/\∃m' S',bP O m' S' w' s'.tm a'.tmps/\aQ O m' S' w' s'.hp s'.ct/\s'.base=s.base/\s.base<=s'.ct/\bU m S w s.hp m' S' w' s'.hp s.base/\a'.tmps.size=n/\Marks lo S' w' a'.defers
def AB (O:bk) (h:Nat) (c:wU) (s:St) (ex:Ex) (s':St):Prop:=
 ∀(ro:Option Nat) (lo:Nat) (m:Mp) (S:Nat->Prop) (w:yi) (a:Act),sO ro w->bP O m S w s.tm a.tmps->aQ O m S w s.hp s.ct->s.base<=s.ct->(O.hint h).n<=a.tmps.size->O.w0.heap.size<=lo->lo<=w.heap.size->Marks lo S w a.defers->
  c.wpIn (WF ro) 0 O.P (ej O m S w s ex s' a.tmps.size lo) a w
structure gI (O:bk):Prop where
 hint:∀h,eT O (O.hint h)
 mixed:O.P.follows .mixedOrders=true
 prog:∀n F,O.prog n=some F->∃fn,O.P.funcs[O.ab n]? =some fn/\DC O.P (O.hint n) fn=some F/\fn.name≠ "runtime.NumGoroutine"
 aX:∀n sp vals r,O.aX.pure n=some sp->sp vals=some r->dV O n vals r
 D6:∀n sp hp ct vals v an aV,O.aX.heap n=some sp->sp hp ct vals=some (v,an,aV)->AA O n hp ct vals v an aV
def GL {P:y5} {H:Hint} {ops:Array yZ}:∀(rs:List aZ) (l:List yZ) (done:List aZ) (ms:List Nat),fQ P H ops rs l->fQ P H ops (mH done rs ms) l
 | [],l,done,ms,h=>by
  cases ms<;>simpa only [mH] using h
 | r::rs,[],done,ms,h=>by simp [fQ] at h
 | r::rs,o::l,done,[],h=>by
  obtain ⟨d,g,op⟩:=r;cases op<;>simpa only [mH] using h
 | r::rs,o::l,done,m::ms,h=>by
  simp only [fQ] at h;obtain ⟨h1,h2⟩:=h;obtain ⟨d,g,op⟩:=r
  cases op with
  | gZ CN f xs=>
   simp only [mH,fQ];refine ⟨?_,GL rs l _ ms h2⟩;rcases h1 with h1 | ⟨_,h1⟩
   ·refine .inl ⟨?_,h1.dst,h1.ok,h1.guard⟩;obtain ⟨c,f',g1,g2,g3,g4⟩:=PK h1.op;rw [g3,g4];exact .inr (.inl ⟨c,f',_,g1,g2,rfl⟩)
   ·simp [bad] at h1
  | st sz x y=>
   simp only [mH,fQ];refine ⟨?_,GL rs l _ ms h2⟩;rcases h1 with h1 | ⟨_,h1⟩
   ·refine .inl ⟨?_,h1.dst,h1.ok,h1.guard⟩;unfold stOp
    split
    ·exact h1.op
    ·obtain ⟨t,x',y',g1,g2,g3,g4⟩:=aqS h1.op;exact .inr (.inr (.inl ⟨t,x',y',sz,_,g1,g2,by rw [g3,g4]⟩))
   ·simp [bad] at h1
  | cQ sz b x y=>
   simp only [mH,fQ];refine ⟨?_,GL rs l _ ms h2⟩;rcases h1 with h1 | ⟨_,h1⟩
   ·refine .inl ⟨?_,h1.dst,h1.ok,h1.guard⟩;unfold abt
    split
    ·exact h1.op
    ·obtain ⟨k,hk⟩:=Zx h1.op;exact .inr (.inr (.inr (.inl ⟨k,_,sz,b,x,y,hk,rfl⟩)))
   ·simp [bad] at h1
  | _=>
   simp only [mH,fQ];exact ⟨h1,GL rs l _ ms h2⟩
def XY {P:y5} {H:Hint} {ops:Array yZ}:∀(rs:List aZ) (l:List yZ) (done:List aZ),fQ P H ops rs l->fQ P H ops (DW done rs) l
 | [],[],_,h=>h
 | [],_::_,_,h=>by simp [fQ] at h
 | r::rs,[],done,h=>by simp [fQ] at h
 | r::rs,o::l,done,h=>by
  simp only [fQ] at h;obtain ⟨h1,h2⟩:=h;simp only [DW,fQ];refine ⟨?_,XY rs l _ h2⟩;obtain ⟨d,g,op⟩:=r
  cases op with
  | cQ sz b x y=>
   simp only
   cases Zt done x with
   | false=>exact h1
   | true=>
    simp only [yt];rcases h1 with h1 | ⟨_,h1⟩
    ·refine .inl ⟨?_,h1.dst,h1.ok,h1.guard⟩;obtain ⟨k,hk⟩:=Zx h1.op;exact .inr (.inr (.inr (.inr ⟨k,sz,b,x,y,hk,rfl⟩)))
    ·simp [bad] at h1
  | _=>exact h1
end
section
variable {O:bk} {self:cu}
def XZ {P:y5} {H:Hint} {ops:Array yZ}:∀{rs:List aZ} {l:List yZ},fQ P H ops rs l->rs.length=l.length/\∀(i:Nat) (r:aZ) (o:yZ),rs[i]? =some r->l[i]? =some o->LV P H ops r o\/(r.guard=none/\r.op=bad)
 | [],[],_=>⟨rfl,fun i r o h=>by simp at h⟩
 | [],_::_,h=>by simp [fQ] at h
 | _::_,[],h=>by simp [fQ] at h
 | r::rs,o::l,h=>by
  obtain ⟨h1,h2⟩:=XZ h.2;refine ⟨by simp [h1],fun i r' o' hr ho=>?_⟩
  cases i with
  | zero=>simp at hr ho;subst hr;subst ho;exact h.1
  | succ i=>exact h2 i r' o' (by simpa using hr) (by simpa using ho)
def ahw {m:Mp} {S:Nat->Prop} {w:yi} {hp:Hp} {ct:Nat} (hh:aQ O m S w hp ct):Calm w {w with drawn:=w.drawn+1}:=⟨rfl,rfl,rfl,yA _,fun _ _=>rfl⟩
def aom (hO:gI O) (hC:nh O self) (h:Nat) (id:Nat) (ops:Array yZ) (draw:Bool) (k:Nat) {s s':St} (hv:dl O.prog O.aX self (Lb O.P (O.hint h) ops draw k).1 s=some s'):AB O h (.region id ops draw) s .normal s':=by
 intro ro lo m S w a cR ht hh hb hn aY eO cE;unfold Lb at hv;have NQ:=Wi (P:=O.P) (H:=O.hint h) (ops:=ops) ops.toList k;generalize hq:BL O.P (O.hint h) ops ops.toList k=q at hv NQ;obtain ⟨l,k'⟩:=q;simp only at hv NQ;have post:∀{a':Act} {m':Mp} {S':Nat->Prop} {w':yi},aQ O m' S' w' s'.hp s'.ct->s.ct<=s'.ct->bP O m' S' w' s'.tm a'.tmps->bU m S w s.hp m' S' w' s'.hp s.ct->a'.tmps.size=a.tmps.size->a'.defers=a.defers->s'.base=s.base->ej O m S w s .normal s' a.tmps.size lo .normal a' w':=by
  intro a' m' S' w' h1 h2 h3 h4 h5 h6 h7;exact ⟨rfl,m',S',h3,h1,h7,by omega,h4.rb hb,h5,by rw [h6];exact z7 hh h4 cE⟩
 cases draw with
 | false=>
  simp only [yG] at hv;refine wpIn_region ?_;rw [List.range_eq_range'];have hl:ops.size=ops.toList.length:=by simp
  rw [hl];exact YX hC (hO.hint h) ops.toList l 0 s s' a m S w (fun j=>by simp) NQ hv ht hh hn (fun a' m' S' w' h1 h2 h3 h4 h5 h6 h7=>post h1 h2 h3 h4 h5 h6 h7)
 | true=>
  simp only [yt] at hv;have Bf:∃rs,(zZ ops.toList 0&&sH [] rs (kj [] ops.toList))=true/\fQ O.P (O.hint h) ops rs ops.toList/\dl O.prog O.aX self rs s=some s':=by
   have Mw:=GL l ops.toList [] (kj [] ops.toList) NQ
   cases mT:(zZ ops.toList 0&&sH [] (mH [] l (kj [] ops.toList)) (kj [] ops.toList)) with
   | true=>
    rw [mT] at hv;exact ⟨_,mT,Mw,hv⟩
   | false=>
    rw [mT] at hv;simp only [yG] at hv
    cases RP:(zZ ops.toList 0&&sH [] (DW [] (mH [] l (kj [] ops.toList))) (kj [] ops.toList)) with
    | true=>
     rw [RP] at hv;exact ⟨_,RP,XY _ _ _ Mw,hv⟩
    | false=>
     rw [RP] at hv;simp [dl,bad,a6,dj,aw] at hv
  clear hv;obtain ⟨rs,mT,Mw,hv⟩:=Bf
  ·simp only [yg] at mT;obtain ⟨hlen,ak⟩:=XZ Mw;obtain ⟨bN,bF,bw,vF,hR,e1,e2,e3,e4,e5,e6,e7⟩:=YY hv;have hG:qW O (O.hint h) self ops rs bN bF bw vF:=by
    refine ⟨hR,by rw [hlen];simp,fun i r o hr ho=>?_,fun i j x y Tq hx hy=>?_,fun i o ho e he hbd=>?_⟩
    ·rcases ak i r o hr (by simpa using ho) with g | ⟨g1,g2⟩
     ·exact g
     ·have:=hR.step i r hr
      simp [eD,g1,oD,g2,bad,a6,dj,aw] at this
    ·obtain ⟨mm,g1,g2⟩:=VA (done:=[]) (i:=i) (j:=j) (a:=x) (b:=y) mT.2 (by simpa using hx) hy (by simpa using Tq);refine g2.imp (fun g=>?_) (fun g=>by simpa using g);unfold Ord;rw [xx,g1];exact g
    ·have:=Vs mT.1 (j:=i) (o:=o) (by simpa using ho) e he hbd
     omega
   refine wpIn_region_any hO.mixed ?_;have HT:=ahw hh;have gT:=BF hh HT (S':=S) (fun _ h=>h) (fun _ h=> .inl h) hh.slt
   have EG:bU m S w s.hp m S {w with drawn:=w.drawn+1} s.hp (bw 0):=z8 hh HT (fun _ h=>h) (fun _ h=> .inl h);obtain ⟨c,c1,c2,c3,c4⟩:=QD rs rs.length 0 (by omega);have hg:∀k',k'<=c->iy (bF 0) (bw 0) (bF (0+k')) (bw (0+k')):=fun k' A8=>
    Kv hR (by rw [e2,e3];exact hh.aR) k' (by omega) (fun j r g1 g2 hr=>GX hr (c3 j g1 (by omega)))
   have ic:=hg c (yA _);rw [yf] at ic;obtain ⟨S1,g1,g2,g3,g4⟩:=KM (by rw [e2,e3];exact gT:aQ O m S {w with drawn:=w.drawn+1} (bF 0) (bw 0)) ic
   have qV:∀i,(ue ops.size false).getD i false=true->False:=fun i hi=>by
    simp only [wR] at hi;by_cases aR:i<ops.size
    ·simp [aR] at hi
    ·rw [Array.getElem?_eq_none (by simpa using aR)] at hi;simp at hi
   refine aol (m0:=m) (S0:=S) (w0:=w) (n0:=a.tmps.size) (d0:=a.defers) hC (hO.hint h) hG hn (fun a' m' S' w' h1 h2 h3 h4 h5 h6=>?_) ops.size _ 0 c m S1 _ a (by simp) ?_ (fun j o _ hj=>(qV j hj).elim) ?_
   ·rw [e5,e6] at h1;rw [e3,e6] at h2;rw [e4] at h3;rw [e2,e3,e5] at h4;exact post h1 h2 h3 h4 h5 h6 e7
   ·unfold left;rw [List.countP_eq_length.2]
    ·simp
    ·intro i hi;simp only [uX]
     cases hq:(ue ops.size false).getD i false with
     | false=>rfl
     | true=>exact (qV i hq).elim
   ·refine ⟨tG _,c2,fun i hi=>by omega,c3,c4.imp (fun h=>h) (fun h=>⟨h,fun hd=>qV c hd⟩),fun i r _ _ _ hd=>qV i hd,g1,fun id p hp=> .inl (by rw [e3];exact hh.lt id p hp),fun t=>⟨0,tG _,fun i r _ _=>⟨fun hd=>(qV i hd).elim,fun h=>by omega⟩,?_⟩,?_,ic.oX,rfl,rfl,.inl rfl,fun j hj=>?_⟩
    ·rw [e1];exact kU (fun _ _ h=>h) (fun b hb=>g2 b hb) (fun b hb=>HT.same b (hh.slt b hb)) _ _ (ht t)
    ·rw [e2];have g5:=g4 (bw 0);rw [e2] at g5;exact EG.trans g5
    ·have:=(hg j hj).lt
     rw [yf] at this;exact this
end
end
section
open Go
section
variable {O:bk} {m:Mp} {S:Nat->Prop} {w:yi} {hp:Hp} {ct:Nat}
def Wl (hh:aQ O m S w hp ct) {g:Nat} {w':yi} (hw:One w w' g) (hg:¬S g) (ho:¬dM m hp g) (aY:O.w0.heap.size<=g):aQ O m S w' hp ct:=by
 have aO:fE S w w':=fun b hb=>hw.other b (fun e=>hg (e▸hb))
 refine ⟨fun id o p h1 h2=>?_,hh.lt,hh.inj,fun b hb=>by rw [hw.size];exact hh.slt b hb,fun id p h=>by rw [hw.size];exact hh.blt id p h,hh.low,fun b hb=>?_,by rw [hw.size];exact hh.fK,hh.aR⟩
 ·exact qC (fun _ _ h=>h) (fun _ h=>h) aO (fun q hq=>hw.other _ (fun e=>ho ⟨id,o,q,h1,hq,e⟩)) (fun _ _ h=>h) (hh.obj id o p h1 h2)
 ·rw [hw.other b (by omega)];exact hh.lA b hb
def Wm {P:y5} {b:Nat} {o:tZ} (h:w.heap[b]? =some o) (hc:∀c t f,o≠.cells c t f):(getObj b).run P w= .ok o w:=by
 simp only [getObj,Sem.run,h]
def Kc {P:y5} {b:Nat} {o x:tZ} (h:w.heap[b]? =some o) (hc:∀c t f,o≠.cells c t f):(setObj b x).run P w= .ok () {w with heap:=w.heap.setIfInBounds b x}:=by
 simp only [setObj,Sem.run,h]
def Gq {P:y5} {b:Nat} {r:uG} (h:w.heap[b]? =some (.loop r)):(Instr.getLoop b).run P w= .ok r w:=by
 simp only [Instr.getLoop,Sem.run_bind,Wm (P:=P) h (fun _ _ _=>by simp),Result.andThen_ok,Sem.run_pure]
def GY (hh:aQ O m S w hp ct) {l:Nat} {tm:Env} {ps:List Nat} {as_ body:VC} {st:Nat} {pe:q9} {p:Pl} (hg:ak hp l=some (.lp tm ps as_ body st pe)) (hm:m l=some p):
  ∃(r:uG) (h:Nat),w.heap[p.b]? =some (.loop r)/\¬S p.b/\r.state=AI st/\st<=2/\r.pending=sN pe/\bP O m S w tm r.tmps/\r.params.toList=ps/\A6 O.P (O.hint h) as_ r.assign/\A6 O.P (O.hint h) body r.body/\
   (O.hint h).n<=r.tmps.size/\sS (O.hint h).n ps=true:=by
 obtain ⟨q,r,h,g1,g2,g3⟩:=hh.obj l _ p hg hm
 grind
def Xb (hh:aQ O m S w hp ct) {l:Nat} {tm:Env} {ps:List Nat} {as_ body:VC} {st:Nat} {pe:q9} {p:Pl} (hg:ak hp l=some (.lp tm ps as_ body st pe)) (hm:m l=some p) {r:uG} (hr:w.heap[p.b]? =some (.loop r))
  {st':Nat} {pe':q9} (h2:st'<=2):
  aQ O m S {w with heap:=w.heap.setIfInBounds p.b (.loop {r with state:=AI st',pending:=sN pe'})} (aU hp l (.lp tm ps as_ body st' pe')) ct/\
  bU m S w hp m S {w with heap:=w.heap.setIfInBounds p.b (.loop {r with state:=AI st',pending:=sN pe'})} (aU hp l (.lp tm ps as_ body st' pe')) ct:=by
 obtain ⟨r',h,g1,g2,g3,g4,g5,g6,g7,g8,g9,g10,g11⟩:=GY hh hg hm;rw [hr] at g1;injection g1 with g1
 injection g1 with g1
 subst g1;have eV:=Dg w p.b (.loop {r with state:=AI st',pending:=sN pe'})
 refine GJ hh hg hm g2 eV ⟨p,{r with state:=AI st',pending:=sN pe'},h,hm,J8 hr,g2,rfl,h2,rfl,?_,g7,g8,g9,g10,g11⟩ (fun _ _=>⟨_,J8 hr⟩);exact z6 (fun _ _ h=>h) (fun _ h=>h) (fun b hb=>eV.other b (fun e=>g2 (e▸hb))) g6
def Xc {n:Nat}:∀{ps:List Nat} {vs:List AV} {us:List yh} {tm tm':Env} {tmps:Array yh},pJ tm ps vs=some tm'->aq O.ab m S w vs us->bP O m S w tm tmps->n<=tmps.size->sS n ps=true->
  ps.length=us.length/\bP O m S w tm' ((ps.zip us).foldl (fun t (x:Nat×yh)=>t.setIfInBounds x.1 x.2) tmps)/\((ps.zip us).foldl (fun t (x:Nat×yh)=>t.setIfInBounds x.1 x.2) tmps).size=tmps.size
 | [],[],us,tm,tm',tmps,h,hr,ht,hn,ha=>by
  simp only [pJ,yb] at h;simp only [aq] at hr
  simp_all
 | [],_::_,us,tm,tm',tmps,h,hr,ht,hn,ha=>by simp [pJ] at h
 | _::_,[],us,tm,tm',tmps,h,hr,ht,hn,ha=>by simp [pJ] at h
 | p::ps,v::vs,us,tm,tm',tmps,h,hr,ht,hn,ha=>by
  simp only [pJ] at h;obtain ⟨u,t,rfl,h1,h2⟩:=hr;simp only [sS,yg] at ha;have hp:=sJ.1 ha.1;have ht1:bP O m S w ((p,v)::tm) (tmps.setIfInBounds p u):=PN (a:=⟨tmps,[]⟩) (d:=some p) ht (fun i hi=>by injection hi with hi;show i<tmps.size;omega) h1
  obtain ⟨g1,g2,g3⟩:=Xc (n:=n) h h2 ht1 (by simpa using hn) ha.2
  simp_all
def ajB (ps:Array Tmp) (args:Array yh) (tmps:Array yh):(ps.zip args).foldl (fun tmps (x:Tmp×yh)=>tmps.setIfInBounds x.1 x.2) tmps=(ps.toList.zip args.toList).foldl (fun t (x:Nat×yh)=>t.setIfInBounds x.1 x.2) tmps:=by
 rw [<-Array.foldl_toList,Array.toList_zip]
def afo {P:y5} {b:Nat} {r:uG} (h:w.heap[b]? =some (.loop r)) (jump:Option wU):
  (Instr.endRound b jump).run P w= .ok (.bool jump.isNone) {w with heap:=w.heap.setIfInBounds b (.loop {r with state:=if jump.isNone then .ready else .done,pending:=jump})}:=by
 simp only [Instr.endRound,Sem.run_bind,Gq h,Result.andThen_ok,Kc (P:=P) h (fun _ _ _=>by simp),Sem.run_pure]
def afc {P:y5} {b:Nat} {r:uG} (h:w.heap[b]? =some (.loop r)) (hs:r.state= .ready):
  (Instr.beginRound b).run P w= .ok () {w with heap:=w.heap.setIfInBounds b (.loop {r with state:= .busy})}:=by
 simp only [Instr.beginRound,Sem.run_bind,Gq h,Result.andThen_ok,Kc (P:=P) h (fun _ _ _=>by simp),hs,Sem.run_pure]
def ajC {self:cu} (hS:∀v s ex s',self v s=some (ex,s')->∀c h l k,(comp O.P (O.hint h) c l k).1=v->AB O h c s ex s') {l:Nat} {xs:List AV} {v:AV} {an:Hp} {aV:Nat}
  (hv:j9 self hp ct l xs=some (v,an,aV)):Zu O hp ct l xs v an aV:=by
 intro m S w args p hh hm fL;unfold j9 at hv
 split at hv
 case h_2=>cases hv
 rename_i tm ps as_ body pe hg;obtain ⟨r,h,g1,g2,g3,g4,g5,g6,g7,⟨ca,ka,g8⟩,⟨cb,kb,g9⟩,g10,g11⟩:=GY hh hg hm
 cases hb:pJ tm ps xs with
 | none=>simp [hb] at hv
 | some tm'=>
  simp only [hb] at hv;obtain ⟨b1,b2,b3⟩:=Xc hb fL g6 g10 g11;rw [<-g7] at b1 b2 b3;have ek:args.size=r.params.size:=by
   grind
  let tmps:Array yh:=(r.params.zip args).foldl (fun tmps (x:Tmp×yh)=>tmps.setIfInBounds x.1 x.2) r.tmps
  have abB:tmps=(r.params.toList.zip args.toList).foldl (fun t (x:Nat×yh)=>t.setIfInBounds x.1 x.2) r.tmps:=ajB _ _ _;refine ⟨r.fn,tmps,r.assign,r.body,?_,?_⟩
  ·simp only [Instr.yield,Sem.run_bind,Gq g1,Result.andThen_ok,ek,ycq,tk,xk,Sem.run_pure];rfl
  refine roundIn_of_wpIn (F:=Fence.wide) trivial ?_
  cases h1:self as_ ⟨tm',hp,ct,ct⟩ with
  | none=>simp [h1] at hv
  | some q=>
   obtain ⟨ex1,s1⟩:=q
   cases ex1 with
   | ret=>simp [h1] at hv
   | exit id=>simp [h1] at hv
   | normal=>
    simp only [h1] at hv;have dR:=hS _ _ _ _ h1 r.assign h ca ka g8;have cR:∀w',bU m S w hp m S w' hp ct->sO (some p.b) w':=fun w' hf=>Kx hf (fun l hl=>⟨r,by injection hl with hl;subst hl;exact g1⟩)
    refine wpIn_mono (dR (some p.b) w.heap.size m S w ⟨tmps,[]⟩ (cR w bU.refl) (by rw [abB];exact b2) hh (yA _) (by show _<=tmps.size;rw [abB,b3];exact g10) hh.fK (yA _) ⟨[],rfl,by simp,by simp⟩) ?_
    rintro e a1 w1 ⟨rfl,m1,S1,k1,k2,k3,k4,k5,k6,k7⟩;simp only [pP,Exit.then];have oY:m1 l=some p:=k5.old l p (hh.lt l p hm) hm
    split at hv
    case h_2=>cases hv
    rename_i iF rE A4 B6 oV ic;obtain ⟨r1,gT,f1,f2,f3,f4,f5,f6,f7,f8,f9,f10,f11⟩:=GY k2 ic oY;have TB:=afc (P:=O.P) f1 f3;obtain ⟨q1,q2⟩:=Xb k2 ic oY f1 (st':=1) (pe':=oV) (by omega)
    have cg:({r1 with state:=AI 1,pending:=sN oV}:uG)={r1 with state:= .busy}:=by rw [<-f5];rfl
    rw [cg] at q1 q2;refine ⟨_,TB,?_⟩
    cases h2:self body ⟨s1.tm,aU s1.hp l (.lp iF rE A4 B6 1 oV),s1.ct,s1.ct⟩ with
    | none=>simp [h2] at hv
    | some q=>
     obtain ⟨ex,s2⟩:=q;simp only [h2] at hv;have oW:=hS _ _ _ _ h2 r.body h cb kb g9
     have asw:sO (some p.b) {w1 with heap:=w1.heap.setIfInBounds p.b (.loop {r1 with state:= .busy})}:=fun l hl=>by
      grind
     have TC:bP O m1 S1 {w1 with heap:=w1.heap.setIfInBounds p.b (.loop {r1 with state:= .busy})} s1.tm a1.tmps:=
      z6 (fun _ _ h=>h) (fun _ h=>h) (fun b hb=>q2.still b hb) k1
     have asx:(O.hint h).n<=a1.tmps.size:=by
      grind
     refine wpIn_mono (oW (some p.b) w.heap.size m1 S1 _ a1 asw TC q1 (yA _) asx hh.fK (xg k5.size q2.size) (z7 k2 q2 k7)) ?_;rintro e a2 w2 ⟨rfl,m2,S2,j1,j2,j3,j4,j5,j6,j7⟩;have NR:m2 l=some p:=j5.old l p (k2.lt l p oY) oY
     split at hv
     case h_2=>cases hv
     rename_i mP A5 I8 HP pe2 rR;obtain ⟨r2,Jm,d1,d2,d3,d4,d5,d6,d7,d8,d9,d10,d11⟩:=GY j2 rR NR;have asy:bU m S w hp m2 S2 w2 s2.hp ct:=(k5.trans (q2.rb k4)).trans (j5.rb k4);have abC:ct<=s2.ct:=xg k4 j4;have fin:∀(jump:Option wU) (st':Nat) (pe':q9),sN pe'=jump->AI st'=(if jump.isNone then .ready else .done)->st'<=2->
       ∃v' w',(Instr.endRound p.b jump).run O.P w2= .ok v' w'/\sC O m S w hp ct (.bool jump.isNone) (aU s2.hp l (.lp mP A5 I8 HP st' pe')) s2.ct (.returned v') w':=by
      intro jump st' pe' e1 e2 e3;obtain ⟨z1,z2⟩:=Xb j2 rR NR d1 (st':=st') (pe':=pe') e3;rw [e1,e2] at z1 z2;exact ⟨_,_,afo d1 jump,_,m2,S2,rfl,z1,abC,by simp [af],asy.trans (z2.rb abC)⟩
     cases ex with
     | normal=>
      simp only [yb,ym] at hv;obtain ⟨rfl,rfl,rfl⟩:=hv;simp only [pP,roundPost];exact fin none 0 .none rfl rfl (by omega)
     | ret=>
      simp only [Qw,yb,ym] at hv;obtain ⟨rfl,rfl,rfl⟩:=hv;simp only [pP,roundPost];exact fin (some .ret) 2 .ret rfl rfl (by omega)
     | exit id=>
      simp only [Qw,yb,ym] at hv;obtain ⟨rfl,rfl,rfl⟩:=hv;simp only [pP,roundPost];exact fin (some (.exit id)) 2 (.exit id) rfl rfl (by omega)
end
end
section
open Go
section
variable {O:bk} {self:cu}
def KQ {P:y5} {f:tE} {fn:yaA} {args:Array yh} {w:yi} (hf:P.funcs[f]? =some fn) (hb:fn.body.isSome=true) (hn:fn.name≠ "runtime.NumGoroutine"):(callFunc f args).run P w= .ok (.enter f args) w:=by
 have h1:fn.body≠none:=fun e=>by rw [e] at hb;cases hb
 simp [callFunc,program,Sem.run,hf,h1,hn]
def OS {P:y5} {H:Hint} {fn:yaA} {F:ax} (h:DC P H fn=some F):∃c,fn.body=some c/\F.body=(comp P H c 0 0).1/\oh P fn.results.toList=some F.dQ/\H.n<=fn.ntmps:=by
 unfold DC at h
 split at h
 ·rename_i c rs h1 h2
  cases hb:yF H.n fn.ntmps with
  | false=>rw [hb] at h;cases h
  | true=>
   rw [hb] at h;simp only [yt,yb] at h;subst h
   simp_all
 ·cases h
def ajD {m:Mp} {S:Nat->Prop} {w:yi} {hp:Hp} {ct:Nat} {tm:Env} {a:Act} {ro:Option Nat} (fn:tE) (ps:Array Tmp) (assign body:wU) {as_ b':VC} {h:Nat} (hh:aQ O m S w hp ct) (ht:bP O m S w tm a.tmps) (cR:sO ro w)
  (TD:A6 O.P (O.hint h) as_ assign) (EM:A6 O.P (O.hint h) b' body) (hn:(O.hint h).n<=a.tmps.size) (eN:sS (O.hint h).n ps.toList=true) {lo:Nat} (eO:lo<=w.heap.size) (cE:Marks lo S w a.defers):
  ∃l mark w1,(Instr.enterLoop fn a.tmps ps assign body ro).run O.P w= .ok (l,mark) w1/\aQ O (fj m ct ⟨l,0,0,0⟩) S w1 ((ct,.lp tm ps.toList as_ b' 0 .none)::hp) (ct+1)/\
   bU m S w hp (fj m ct ⟨l,0,0,0⟩) S w1 ((ct,.lp tm ps.toList as_ b' 0 .none)::hp) ct/\m ct=none/\Marks lo S w1 (mark++a.defers)/\w.heap.size<=l:=by
 have bD:m ct=none:=by
  cases hq:m ct with
  | none=>rfl
  | some p=>have:=hh.lt ct p hq;omega
 have lay:∀(w':yi) (d:Nat),Calm w w'->Marks lo S w' a.defers->
   aQ O (fj m ct ⟨w'.heap.size,0,0,0⟩) S (w'.alloc (.loop {state:= .ready,pending:=none,fn:=fn,tmps:=a.tmps,params:=ps,assign:=assign,body:=body,defers:=d})) ((ct,.lp tm ps.toList as_ b' 0 .none)::hp) (ct+1)/\
   bU m S w hp (fj m ct ⟨w'.heap.size,0,0,0⟩) S (w'.alloc (.loop {state:= .ready,pending:=none,fn:=fn,tmps:=a.tmps,params:=ps,assign:=assign,body:=body,defers:=d})) ((ct,.lp tm ps.toList as_ b' 0 .none)::hp) ct:=by
  intro w' d hw abD;have gT:aQ O m S w' hp ct:=BF hh hw (fun _ h=>h) (fun _ h=> .inl h) (fun b hb=>yu (hh.slt b hb) hw.size);have EG:bU m S w hp m S w' hp ct:=z8 hh hw (fun _ h=>h) (fun _ h=> .inl h);have hg:iy hp ct ((ct,.lp tm ps.toList as_ b' 0 .none)::hp) (ct+1):=by
   refine ⟨fun id o ho=>⟨o,?_,jb.refl o⟩,by omega,fun id o ho=>?_,fun id o ho hi=>?_⟩
   ·rw [fC,yB (by have:=hh.aR id o ho;omega)];exact ho
   ·rw [fC] at ho;by_cases hc:ct=id
    ·omega
    ·simp only [hc,xk] at ho;have:=hh.aR id o ho;omega
   ·rw [fC,yB (by omega)] at ho;exact ⟨o,ho⟩
  have ie:∀i q,ak ((ct,Obj.lp tm ps.toList as_ b' 0 .none)::hp) i=some q->i≠ct->ak hp i=some q:=fun i q h hi=>by
   rw [fC,yB (fun e=>hi e.symm)] at h;exact h
  have Jm:aQ O m S w' ((ct,.lp tm ps.toList as_ b' 0 .none)::hp) (ct+1):=by
   have fb:∀id p,m id=some p->id≠ct:=fun id p hm e=>by have:=hh.lt id p hm;omega
   exact ⟨fun id o p ho hm=>gT.obj id o p (ie id o ho (fb id p hm)) hm,fun id p hm=>by have:=hh.lt id p hm;omega,
    fun i j oi oj pi pj hi hj bD fX e=>gT.inj i j oi oj pi pj (ie i oi hi (fb i pi bD)) (ie j oj hj (fb j pj fX)) bD fX e,gT.slt,gT.blt,gT.low,gT.lA,gT.fK,hg.lt⟩
  have nT:eJ O (fj m ct ⟨w'.heap.size,0,0,0⟩) S (w'.alloc (.loop {state:= .ready,pending:=none,fn:=fn,tmps:=a.tmps,params:=ps,assign:=assign,body:=body,defers:=d})) ct (.lp tm ps.toList as_ b' 0 .none):=by
   refine ⟨⟨w'.heap.size,0,0,0⟩,_,h,dE,heap_alloc_new w' _,?_,rfl,by omega,rfl,?_,rfl,TD,EM,hn,eN⟩
   ·intro hS
    have:=gT.slt _ hS
    simp at this
   ·exact z6 (jg bD) (fun _ h=>h) (fun b hb=>(Gt gT _ b hb).trans (hw.same b (hh.slt b hb))) ht
  obtain ⟨S',k1,k2,k3⟩:=PH (i:=ct) (p:=⟨w'.heap.size,0,0,0⟩) Jm bD (by omega) rfl (fun o ho=>by
   rw [fC] at ho;simp only [xA,yb] at ho;subst ho
   exact .inl ⟨nT,by simp [iv]⟩)
  have k1':aQ O (fj m ct ⟨w'.heap.size,0,0,0⟩) S (w'.alloc (.loop {state:= .ready,pending:=none,fn:=fn,tmps:=a.tmps,params:=ps,assign:=assign,body:=body,defers:=d})) ((ct,.lp tm ps.toList as_ b' 0 .none)::hp) (ct+1):=by
   have Je:∀id q,m id=some q->q.b≠w'.heap.size:=fun id q hq=>by have:=gT.blt id q hq;omega
   refine ⟨?_,k1.lt,k1.inj,fun b hb=>k1.slt b (k2 b hb),k1.blt,k1.low,k1.lA,k1.fK,k1.aR⟩;intro id o q ho hm;by_cases hc:id=ct
   ·subst hc;rw [fC] at ho
    grind
   ·rw [dO hc] at hm;exact qC (jg bD) (fun _ h=>h) (Gt gT _) (fun q' bH=>alloc_old (gT.blt id q' bH)) (fun _ _ h=>h) (gT.obj id o q (ie id o ho hc) hm)
  refine ⟨k1',EG.trans ⟨rfl,rfl,rfl,by simp,fun b hb _=>alloc_old hb,fun _ h=>h,fun b hb=>Gt gT _ b hb,fun b hb=> .inl hb,?_,fun i q _ hq=>jg bD i q hq,fun b r hb=>⟨r,(alloc_old (xu.1 hb).1).trans hb⟩⟩⟩;rintro b ⟨i,o,q,g1,g2,g3⟩;by_cases hc:i=ct
  ·subst hc;rw [dE] at g2
   grind
  ·rw [dO hc] at g2;exact .inl ⟨i,o,q,ie i o g1 hc,g2,g3⟩
 cases ro with
 | none=>
  have HT:Calm w (w.alloc (.deferred (some []))):=⟨rfl,rfl,rfl,by simp,fun b hb=>alloc_old hb⟩;obtain ⟨rs,r1,r2,r3⟩:=cE;have asz:Marks lo S (w.alloc (.deferred (some []))) a.defers:=⟨rs,r1,r2,fun r hr=>⟨(alloc_old (xu.1 (r3 r hr).1).1).trans (r3 r hr).1,(r3 r hr).2⟩⟩;obtain ⟨k1,k2⟩:=lay (w.alloc (.deferred (some []))) w.heap.size HT asz
  refine ⟨(w.alloc (.deferred (some []))).heap.size,[{target:= .collected w.heap.size,args:=#[]}],_,?_,k1,k2,bD,?_,by simp⟩
  ·simp [Instr.enterLoop,newObj,Sem.run]
  ·have hold:∀(b:Nat) (x:tZ),(w.alloc (.deferred (some []))).heap[b]? =some x->((w.alloc (.deferred (some []))).alloc (.loop {state:= .ready,pending:=none,fn:=fn,tmps:=a.tmps,params:=ps,assign:=assign,body:=body,defers:=w.heap.size})).heap[b]? =some x:=fun b x hb=>
    (alloc_old (xu.1 hb).1).trans hb
   refine ⟨w.heap.size::rs,by rw [r1];rfl,?_,?_⟩
   ·grind
   ·intro r hr;rcases wA.1 hr with rfl | hr
    ·exact ⟨hold _ _ (heap_alloc_new w _),fun hs=>by have:=hh.slt _ hs;omega,eO⟩
    ·exact ⟨hold _ _ ((alloc_old (xu.1 (r3 r hr).1).1).trans (r3 r hr).1),(r3 r hr).2⟩
 | some l0=>
  obtain ⟨r0,lJ⟩:=cR l0 rfl;obtain ⟨k1,k2⟩:=lay w r0.defers Calm.refl cE;refine ⟨w.heap.size,[],_,?_,k1,k2,bD,?_,yA _⟩
  ·simp [Instr.enterLoop,Gq lJ,newObj,Sem.run]
  ·exact z7 hh k2 cE
def aqT (hO:gI O) (hC:nh O self) {h:Nat} {f:xv} {ps:Array Tmp} {assign body:wU} {as_ b':VC} (TD:A6 O.P (O.hint h) as_ assign) (EM:A6 O.P (O.hint h) b' body) (eN:sS (O.hint h).n ps.toList=true)
  {s:St} {ex:Ex} {s':St} (hv:bq O.prog O.aX self (.rf (aI (O.hint h) f) ps.toList as_ b') s=some (ex,s')):AB O h (.rangeFunc f ps assign body) s ex s':=by
 intro ro lo m S w a cR ht hh hb hn aY eO cE;simp only [bq] at hv
 split at hv
 case h_2=>cases hv
 rename_i n first cap hx
 split at hv
 case h_1=>cases hv
 rename_i hL
 cases he:iw O.prog O.aX self ((s.ct,.lp s.tm ps.toList as_ b' 0 .none)::s.hp) (s.ct+1) n (first++(.fn (.y s.ct) [] []::cap)) with
 | none=>simp [he] at hv
 | some q=>
  obtain ⟨v,bh,nV⟩:=q;simp only [he] at hv
  split at hv
  case h_2=>cases hv
  rename_i mP A5 I8 HP st pe rR
  cases aO:yr st 1 with
  | true=>rw [aO] at hv;cases hv
  | false=>
   rw [aO] at hv;simp only [yG] at hv;refine wpIn_rangeFunc (fun fn _=>?_);obtain ⟨l,mark,w1,e1,e2,e3,e4,e5,e6⟩:=ajD (ro:=ro) fn ps assign body hh ht cR TD EM hn eN eO cE;have rf:=cf (hO.hint h) ht f;rw [hx] at rf;simp only [af] at rf;obtain ⟨fi,ca,hf,r2,r3⟩:=rf;have hle:=jg e4 (p:=⟨l,0,0,0⟩);have D7:fE S w w1:=fun b hb=>e3.still b hb
   have fL:aq O.ab (fj m s.ct ⟨l,0,0,0⟩) S w1 (first++(.fn (.y s.ct) [] []::cap)) (fi++#[Value.func (.yield l) #[] #[]]++ca).toList:=by
    have:=kS (gF hle (fun _ h=>h) D7 _ _ r2) (kS (a:=[.fn (.y s.ct) [] []]) (x:=[Value.func (.yield l) #[] #[]]) (by
     simp only [aq]
     exact ⟨_,[],rfl,by simp only [af];exact ⟨_,dE,rfl⟩,rfl⟩) (gF hle (fun _ h=>h) D7 _ _ r3))
    grind
   have qX:=hC.heap _ _ _ _ _ _ _ he _ S w1 _ e2 fL;have hP:∃F,O.prog n=some F:=by
    unfold iw at he;rw [hL] at he
    cases hq:O.prog n with
    | none=>simp [hq] at he
    | some F=>exact ⟨F,rfl⟩
   obtain ⟨F,hF⟩:=hP;obtain ⟨fn',q1,q2,q3⟩:=hO.prog n F hF;obtain ⟨cb,q4,_⟩:=OS q2;have fH:(callFunc (O.ab n) (fi++#[Value.func (.yield l) #[] #[]]++ca)).run O.P w1= .ok (.enter (O.ab n) (fi++#[Value.func (.yield l) #[] #[]]++ca)) w1:=KQ q1 (by rw [q4];rfl) q3
   refine ⟨l,mark,w1,{target:= .fn (.func (O.ab n)) ca,args:=fi++#[Value.func (.yield l) #[] #[]]},w1,O.ab n,fi++#[Value.func (.yield l) #[] #[]]++ca,w1,e1,?_,fun _ _=>trivial,?_,fun hd=>by simp [WF,Fence.wide] at hd,?_⟩
   ·show Sem.run O.P (Deferred.ofValue (a.eval f) _) w1=_
    rw [hf];simp [Deferred.ofValue,Act.eval]
   ·simp only [invoke];exact fH
   ·rcases qX with ⟨_,qX⟩ | ⟨u,w',h1,_⟩
    case inr=>rw [fH] at h1;cases h1
    have aon:CallsIn (WF ro) 0 O.P (O.ab n) (fi++#[Value.func (.yield l) #[] #[]]++ca) w1 (sC O (fj m s.ct ⟨l,0,0,0⟩) S w1 ((s.ct,.lp s.tm ps.toList as_ b' 0 .none)::s.hp) (s.ct+1) v bh nV):=qX;refine CallsIn.mono aon ?_;rintro e w3 ⟨u,m',S',rfl,k1,k2,k3,k4⟩;have fW:m' s.ct=some ⟨l,0,0,0⟩:=k4.old s.ct _ (tU _) dE;obtain ⟨r,Jm,d1,d2,d3,d4,d5,d6,_⟩:=GY k1 rR fW;have oZ:(r.state==LoopState.busy)=false:=by
     rw [d3];rcases st with _ | _ | st
     ·rfl
     ·simp_all
     ·have:st=0:=by omega
      subst this;rfl
    have eV:=Dg w3 l (.loop {r with state:= .exhausted});have TE:=XT k1 s.ct;have nU:¬dM m' (db bh s.ct) l:=VK k1 rR fW
    have z1:aQ O m' S' {w3 with heap:=w3.heap.setIfInBounds l (.loop {r with state:= .exhausted})} (VE.db bh s.ct) nV:=Wl TE eV d2 nU (by have:=hh.fK;omega)
    have z2:bU m' S' w3 bh m' S' {w3 with heap:=w3.heap.setIfInBounds l (.loop {r with state:= .exhausted})} (VE.db bh s.ct) s.base:=by
     refine ⟨rfl,rfl,rfl,by rw [eV.size];exact yA _,fun b _ hb=>eV.other b (fun e=>hb (e▸Hd rR fW)),fun _ h=>h,fun b hb=>eV.other b (fun e=>d2 (e▸hb)),fun b hb=> .inl hb,fun b hb=> .inl (YV hb),fun _ _ _ h=>h,fun b x hb=>?_⟩
     grind
    have RQ:bU m S w s.hp m' S' {w3 with heap:=w3.heap.setIfInBounds l (.loop {r with state:= .exhausted})} (VE.db bh s.ct) s.base:=
     ((e3.rb hb).trans (k4.rb (by omega))).trans z2
    have Mx:(Instr.endLoop l).run O.P w3= .ok (sN pe) {w3 with heap:=w3.heap.setIfInBounds l (.loop {r with state:= .exhausted})}:=by
     simp only [Instr.endLoop,Sem.run_bind,Gq d1,Result.andThen_ok,oZ,yD,xk,Sem.run_pure,Kc (P:=O.P) d1 (fun _ _ _=>by simp),d5]
    have abD:Marks lo S' {w3 with heap:=w3.heap.setIfInBounds l (.loop {r with state:= .exhausted})} (mark++a.defers):=z7 k1 z2 (z7 e2 k4 e5)
    have zE:bP O m' S' {w3 with heap:=w3.heap.setIfInBounds l (.loop {r with state:= .exhausted})} s.tm a.tmps:=by
     refine z6 (fun id p hp=>?_) RQ.sub (fun b hb=>RQ.still b hb) ht;have h1:=hh.lt id p hp;exact k4.old id p (by omega) (hle id p hp)
    have post:∀TF,s'={s with hp:=VE.db bh s.ct,ct:=nV}->ex=TF->ej O m S w s ex s' a.tmps.size lo (pP TF) {a with defers:=mark++a.defers} {w3 with heap:=w3.heap.setIfInBounds l (.loop {r with state:= .exhausted})}:=by
     rintro TF rfl rfl;exact ⟨rfl,m',S',zE,z1,rfl,by show s.base<=nV;omega,RQ,rfl,abD⟩
    refine ⟨_,_,Mx,?_⟩
    cases pe with
    | none=>
     simp only [yb,ym] at hv;exact post .normal hv.2.symm hv.1.symm
    | ret=>
     simp only [yb,ym] at hv;exact wpIn_ret (post .ret hv.2.symm hv.1.symm)
    | exit id=>
     simp only [yb,ym] at hv;exact wpIn_exit (post (.exit id) hv.2.symm hv.1.symm)
end
end
def Le (f g:cu):Prop:=∀c s r,f c s=some r->g c s=some r
section
variable {P:aF} {L:Lib} {f g:cu}
def OK (h:Le f g) (n:Nat) (vals:List AV) (r:AV) (hr:bE P L f n vals=some r):bE P L g n vals=some r:=by
 unfold bE at hr ⊢
 cases hL:L.pure n with
 | some sp=>simpa only [hL] using hr
 | none=>
  simp only [hL] at hr ⊢
  cases hP:P n with
  | none=>simp [hP] at hr
  | some F=>
   simp only [hP] at hr ⊢
   cases hf:f F.body ⟨ew 0 vals,[],0,0⟩ with
   | none=>simp [hf] at hr
   | some q=>rw [h _ _ _ hf];simpa only [hf] using hr
def OT (h:Le f g) (hp:Hp) (ct:Nat) (n:Nat) (vals:List AV) (r:AV×Hp×Nat) (hr:iw P L f hp ct n vals=some r):iw P L g hp ct n vals=some r:=by
 unfold iw at hr ⊢
 cases hL:L.heap n with
 | some sp=>simpa only [hL] using hr
 | none=>
  simp only [hL] at hr ⊢
  cases hP:P n with
  | none=>simp [hP] at hr
  | some F=>
   simp only [hP] at hr ⊢
   cases hf:f F.body ⟨ew 0 vals,hp,ct,ct⟩ with
   | none=>simp [hf] at hr
   | some q=>rw [h _ _ _ hf];simpa only [hf] using hr
def VD (h:Le f g) (hp:Hp) (ct:Nat) (l:Nat) (xs:List AV) (r:AV×Hp×Nat) (hr:j9 f hp ct l xs=some r):j9 g hp ct l xs=some r:=by
 unfold j9 at hr ⊢
 cases hl:ak hp l with
 | none=>simp [hl] at hr
 | some o=>
  simp only [hl] at hr ⊢
  split at hr
  ·rename_i tm ps as_ body pe nW;simp only [yb] at nW;subst nW
   (try simp only at hr ⊢)
   cases hb:pJ tm ps xs with
   | none=>simp [hb] at hr
   | some tm'=>
    simp only [hb] at hr ⊢
    cases h1:f as_ ⟨tm',hp,ct,ct⟩ with
    | none=>simp [h1] at hr
    | some q=>
     rw [h _ _ _ h1];simp only [h1] at hr ⊢
     split at hr
     ·rename_i s1 RR;simp only [yb] at RR;subst RR
      (try simp only at hr ⊢)
      split at hr
      ·rename_i iF rE A4 B6 oV abE
       (try simp only [abE])
       cases h2:f body ⟨s1.tm,aU s1.hp l (.lp iF rE A4 B6 1 oV),s1.ct,s1.ct⟩ with
       | none=>simp [h2] at hr
       | some q2=>rw [h _ _ _ h2];simpa only [h2] using hr
      ·simp at hr
     ·simp at hr
  ·simp at hr
def VP (h:Le f g) (hp:Hp) (ct:Nat) (m:Md) (fv:AV) (xs:List AV) (r:AV×Hp×Nat) (hr:dj P L f hp ct m fv xs=some r):dj P L g hp ct m fv xs=some r:=by
 unfold dj at hr ⊢
 split at hr
 ·rename_i n first cap
  cases m with
  | pure=>
   simp only at hr ⊢
   cases hz:cA deep hp (first++(xs++cap)) with
   | none=>simp [hz] at hr
   | some q=>
    simp only [hz] at hr ⊢
    cases hc:bE P L f n q.1 with
    | none=>simp [hc] at hr
    | some u=>rw [OK h n q.1 u hc];simpa only [hc] using hr
  | own=>
   simp only at hr ⊢
   cases hz:cA deep hp (first++(xs++cap)) with
   | none=>simp [hz] at hr
   | some q=>
    simp only [hz] at hr ⊢
    cases hc:bE P L f n q.1 with
    | none=>simp [hc] at hr
    | some u=>rw [OK h n q.1 u hc];simpa only [hc] using hr
  | heap=>exact OT h _ _ _ _ _ hr
  | dyn=>
   simp only at hr ⊢
   cases hz:aD (first++(xs++cap)) with
   | true=>
    simp only [hz,yt] at hr ⊢
    cases hc:bE P L f n (first++(xs++cap)) with
    | none=>simp [hc] at hr
    | some u=>rw [OK h n _ u hc];simpa only [hc] using hr
   | false=>
    simp only [hz,yG] at hr ⊢;exact OT h _ _ _ _ _ hr
 ·split at hr
  ·exact VD h _ _ _ _ _ hr
  ·exact VD h _ _ _ _ _ hr
  ·simp at hr
 ·simp at hr
def Xd (h:Le f g) (tm:Env) (hp:Hp) (ct:Nat) (o:Op) (r:AV×Hp×Nat) (hr:a6 P L f tm hp ct o=some r):a6 P L g tm hp ct o=some r:=by
 unfold a6 at hr ⊢
 split at hr
 ·exact VP h _ _ _ _ _ _ hr
 ·rename_i rs fv xs
  (try simp only at hr ⊢)
  cases hc:dj P L f hp ct .dyn (aw tm fv) (cZ tm xs) with
  | none=>simp [hc] at hr
  | some q=>rw [VP h _ _ _ _ _ _ hc];simpa only [hc] using hr
 all_goals simpa only using hr
def Kd (h:Le f g):∀(ops:List aZ) (s s':St),dl P L f ops s=some s'->dl P L g ops s=some s'
 | [],s,s',hr=>by simpa only [dl] using hr
 | ⟨d,gd,o⟩::r,s,s',hr=>by
  simp only [dl] at hr ⊢
  split at hr
  ·rename_i hw
   try simp only [hw]
   cases ho:a6 P L f s.tm s.hp s.ct o with
   | none=>simp [ho] at hr
   | some q=>rw [Xd h _ _ _ _ _ ho];simp only [ho] at hr ⊢;exact Kd h r _ _ hr
  ·rename_i hw
   (try simp only [hw]);exact Kd h r _ _ hr
  ·simp at hr
def pv (h:Le f g):∀(c:VC) (s:St) (r:Ex×St),bq P L f c s=some r->bq P L g c s=some r
 | .skip,s,r,hr=>by simpa only [bq] using hr
 | .jr ops,s,r,hr=>by
  simp only [bq] at hr ⊢
  cases ho:dl P L f ops s with
  | none=>simp [ho] at hr
  | some s'=>rw [Kd h _ _ _ ho];simpa only [ho] using hr
 | .seq a b,s,r,hr=>by
  simp only [bq] at hr ⊢
  cases ha:bq P L f a s with
  | none=>simp [ha] at hr
  | some q=>
   rw [pv h a s q ha];obtain ⟨ex,s1⟩:=q
   cases ex with
   | normal=>simp only [ha] at hr ⊢;exact pv h b s1 r hr
   | ret=>simpa only [ha] using hr
   | exit id=>simpa only [ha] using hr
 | .cond x a b,s,r,hr=>by
  simp only [bq] at hr ⊢
  split at hr
  ·rename_i t ht
   try simp only [ht]
   cases t with
   | true=>simp only [yt] at hr ⊢;exact pv h a s r hr
   | false=>simp only [yG] at hr ⊢;exact pv h b s r hr
  ·simp at hr
 | .dt id a,s,r,hr=>by
  simp only [bq] at hr ⊢
  cases ha:bq P L f a s with
  | none=>simp [ha] at hr
  | some q=>rw [pv h a s q ha];simpa only [ha] using hr
 | .kp live,s,r,hr=>by simpa only [bq] using hr
 | .fz ts,s,r,hr=>by simpa only [bq] using hr
 | .loop live a,s,r,hr=>by
  simp only [bq] at hr ⊢
  cases ha:bq P L f a (aT live s) with
  | none=>simp [ha] at hr
  | some q=>
   rw [pv h a _ q ha];obtain ⟨ex,s1⟩:=q
   cases ex with
   | normal=>simp only [ha] at hr ⊢;exact h _ _ _ hr
   | ret=>simpa only [ha] using hr
   | exit id=>simpa only [ha] using hr
 | .rf fv ps as_ body,s,r,hr=>by
  simp only [bq] at hr ⊢
  split at hr
  ·rename_i n first cap hx
   try simp only [hx]
   split at hr
   ·simp at hr
   ·rename_i hL
    try simp only [hL]
    cases hc:iw P L f ((s.ct,.lp s.tm ps as_ body 0 .none)::s.hp) (s.ct+1) n (first++(.fn (.y s.ct) [] []::cap)) with
    | none=>simp [hc] at hr
    | some q=>rw [OT h _ _ _ _ _ hc];simpa only [hc] using hr
  ·simp at hr
 | .exit id,s,r,hr=>by simpa only [bq] using hr
 | .ret,s,r,hr=>by simpa only [bq] using hr
end
def GZ (P:aF) (L:Lib) (c:VC) (s:St):ev P L 0 c s=none:=rfl
def G0 (P:aF) (L:Lib) (n:Nat):ev P L (n+1)=bq P L (ev P L n):=rfl
def aaf (P:aF) (L:Lib):∀n,Le (ev P L n) (ev P L (n+1))
 | 0=>fun c s r h=>by rw [GZ] at h;cases h
 | n+1=>fun c s r h=>by
  rw [G0] at h ⊢;exact pv (aaf P L n) c s r h
def Qd (P:aF) (L:Lib) {n m:Nat} (h:n<=m):Le (ev P L n) (ev P L m):=by
 induction h with
 | refl=>exact fun _ _ _ h=>h
 | step _ ih=>exact fun c s r hr=>aaf P L _ c s r (ih c s r hr)
section
open Go
section
variable {O:bk} {self:cu}
def ej.none {m:Mp} {S:Nat->Prop} {w:yi} {s s':St} {ex:Ex} {n lo:Nat} {a:Act} {w':yi} (l:Nat):¬ej O m S w s ex s' n lo (.goto l) a w':=by
 rintro ⟨h,_⟩;cases ex<;>cases h
def ej.then {m m1:Mp} {S S1:Nat->Prop} {w w1:yi} {s s1 s2:St} {ex:Ex} {n lo:Nat} {a':Act} {w':yi} {e:ud} {ex1:Ex} (h1:s1.base=s.base)
  (hf:bU m S w s.hp m1 S1 w1 s1.hp s.base) (h:ej O m1 S1 w1 s1 ex s2 n lo e a' w'):ej O m S w s ex s2 n lo e a' w':=by
 obtain ⟨h2,m',S',k1,k2,k3,k4,k5,k6,k7⟩:=h;rw [h1] at k3 k4 k5;exact ⟨h2,m',S',k1,k2,k3,k4,hf.trans k5,k6,k7⟩
def ej.cG {m:Mp} {S:Nat->Prop} {w:yi} {s s1:St} {n lo:Nat} {a':Act} {w':yi} {e:ud} {ex:Ex} (live:List Nat) (h:ej O m S w s ex s1 n lo e a' w'):ej O m S w s ex (aT live s1) n lo e a' w':=by
 obtain ⟨h2,m',S',k1,k2,k3,k4,k5,k6,k7⟩:=h;obtain ⟨m2,g1,g2,g3,g4,g5⟩:=O4 (live:=live) k1 k2 (by rw [k3];exact k4)
 rw [k3] at g3 g4 g5;exact ⟨h2,m2,S',g1,g2,g3,g4,k5.trans g5,k6,z7 k2 g5 k7⟩
def aag {m:Mp} {w:yi} {tmps:Array yh}:∀{ts:List Nat} {s s1:St} {S:Nat->Prop},bP O m S w s.tm tmps->aQ O m S w s.hp s.ct->oC ts s=some s1->
  ∃S1,bP O m S1 w s1.tm tmps/\aQ O m S1 w s1.hp s1.ct/\s1.base=s.base/\s1.ct=s.ct/\∀base,bU m S w s.hp m S1 w s1.hp base
 | [],s,s1,S,ht,hh,h=>by
  simp only [oC,yb] at h;subst h;exact ⟨S,ht,hh,rfl,rfl,fun _=>bU.refl⟩
 | t::r,s,s1,S,ht,hh,h=>by
  simp only [oC] at h
  cases hz:freeze deep s.hp (aj s.tm t) with
  | none=>simp [hz] at h
  | some q=>
   obtain ⟨v,hp⟩:=q;simp only [hz] at h;obtain ⟨h1,h2,h3⟩:=Pk (O:=O) hz;have hg:iy s.hp s.ct hp s.ct:=⟨h1,yA _,fun id o ho=>(by
     have:=h2 id
     rw [ho] at this
     cases hq:ak s.hp id with
     | none=>rw [hq] at this;simp at this
     | some o'=>exact hh.aR id o' hq),fun id o ho _=>(by
     have:=h2 id
     rw [ho] at this
     cases hq:ak s.hp id with
     | none=>rw [hq] at this;simp at this
     | some o'=>exact ⟨o',rfl⟩)⟩
   obtain ⟨S',k1,k2,k3,k4⟩:=KM hh hg;have zE:bP O m S' w ((t,v)::s.tm) tmps:=by
    intro i;simp only [aj]
    cases hb:yr t i with
    | true=>
     have:=yj hb
     subst this;exact (h3 hp m S' w s.ct cO.refl k1).1 _ (kU (fun _ _ h=>h) k2 (fun _ _=>rfl) _ _ (ht t))
    | false=>
     exact kU (fun _ _ h=>h) k2 (fun _ _=>rfl) _ _ (ht i)
   obtain ⟨S1,g1,g2,g3,g4,g5⟩:=aag (s:={s with tm:=(t,v)::s.tm,hp:=hp}) zE k1 h;exact ⟨S1,g1,g2,g3,g4,fun base=>(k4 base).trans (g5 base)⟩
def Y1 (hO:gI O) (n:Nat) (hC:∀k,k<=n->nh O (ev O.prog O.aX k)) (h:Nat):∀(c:wU) (l k:Nat) (j:Nat),j<=n->∀(s:St) (ex:Ex) (s':St),
  bq O.prog O.aX (ev O.prog O.aX j) (comp O.P (O.hint h) c l k).1 s=some (ex,s')->AB O h c s ex s':=by
 have refl:∀{s:St} {ex:Ex} {m:Mp} {S:Nat->Prop} {w:yi} {a:Act} {lo:Nat},bP O m S w s.tm a.tmps->aQ O m S w s.hp s.ct->s.base<=s.ct->Marks lo S w a.defers->ej O m S w s ex s a.tmps.size lo (pP ex) a w:=
  fun h1 h2 h3 h4=>⟨rfl,_,_,h1,h2,rfl,h3,bU.refl,rfl,h4⟩
 have RS:∀{self:cu} {s:St} {r:Ex×St},bq O.prog O.aX self (.jr [⟨none,none,bad⟩]) s=some r->False:=by
  intro self s r hv;simp [bq,dl,bad,a6,dj,aw] at hv
 intro c
 induction c with
 | skip=>
  intro l k j hj s ex s' hv ro lo m S w a cR ht hh hb hn aY eO cE;simp only [comp,bq,yb,ym] at hv;obtain ⟨rfl,rfl⟩:=hv;exact wpIn_skip (refl ht hh hb cE)
 | label x=>
  intro l k j hj s ex s' hv ro lo m S w a cR ht hh hb hn aY eO cE;simp only [comp,bq,yb,ym] at hv;obtain ⟨rfl,rfl⟩:=hv;exact wpIn_label (refl ht hh hb cE)
 | exit id=>
  intro l k j hj s ex s' hv ro lo m S w a cR ht hh hb hn aY eO cE;simp only [comp,bq,yb,ym] at hv;obtain ⟨rfl,rfl⟩:=hv
  exact wpIn_exit (refl (ex:= .exit id) ht hh hb cE)
 | ret=>
  intro l k j hj s ex s' hv ro lo m S w a cR ht hh hb hn aY eO cE;simp only [comp,bq,yb,ym] at hv;obtain ⟨rfl,rfl⟩:=hv
  exact wpIn_ret (refl (ex:= .ret) ht hh hb cE)
 | goto x=>intro l k j hj s ex s' hv;exact (RS (by simpa only [comp] using hv)).elim
 | refuse x=>intro l k j hj s ex s' hv;exact (RS (by simpa only [comp] using hv)).elim
 | region id ops d=>
  intro l k j hj s ex s' hv;simp only [comp] at hv;generalize hq:Lb O.P (O.hint h) ops d k=q at hv;obtain ⟨r,k'⟩:=q;have main:∀{s s':St} {ex:Ex},bq O.prog O.aX (ev O.prog O.aX j) (.jr r) s=some (ex,s')->AB O h (.region id ops d) s ex s':=by
   intro s s' ex hv;simp only [bq] at hv
   cases ho:dl O.prog O.aX (ev O.prog O.aX j) r s with
   | none=>simp [ho] at hv
   | some s1=>
    simp only [ho,yb,ym] at hv;obtain ⟨rfl,rfl⟩:=hv;exact aom hO (hC j hj) h id ops d k (by rw [hq];exact ho)
  simp only at hv
  split at hv
  ·exact main hv
  ·rename_i t ts _;simp only [bq] at hv
   cases hf:oC (t::ts) s with
   | none=>simp [hf] at hv
   | some s1=>
    simp only [hf] at hv;intro ro lo m S w a cR ht hh hb hn aY eO cE;obtain ⟨S1,g1,g2,g3,g4,g5⟩:=aag ht hh hf;have h1:=main (s:=s1) (by simpa only [bq] using hv) ro lo m S1 w a cR g1 g2 (by rw [g3,g4];exact hb) hn aY eO (z7 hh (g5 s.base) cE)
    refine wpIn_mono h1 (fun e a' w' hp=>?_)
    exact ej.then (ex1:= .normal) g3 (g5 s.base) hp
 | seq x y ihx ihy=>
  intro l k j hj s ex s' hv ro lo m S w a cR ht hh hb hn aY eO cE;simp only [comp] at hv;generalize rS:comp O.P (O.hint h) x l k=qx at hv;obtain ⟨x',l1,k1⟩:=qx;simp only at hv;generalize Jn:comp O.P (O.hint h) y l1 k1=qy at hv;obtain ⟨y',l2,k2⟩:=qy;simp only [bq] at hv
  cases hx:bq O.prog O.aX (ev O.prog O.aX j) x' s with
  | none=>simp [hx] at hv
  | some r=>
   obtain ⟨ex1,s1⟩:=r;have h1:=ihx l k j hj s ex1 s1 (by rw [rS];exact hx) ro lo m S w a cR ht hh hb hn aY eO cE
   refine wpIn_seq (wpIn_mono h1 ?_);rintro e a1 w1 ⟨rfl,m1,S1,g1,g2,g3,g4,g5,g6,g7⟩;have stop:ex1≠.normal->ex=ex1/\s'=s1:=by
    intro fb;rw [hx] at hv
    cases ex1 with
    | normal=>exact absurd rfl fb
    | ret=>simp only [yb,ym] at hv;exact ⟨hv.1.symm,hv.2.symm⟩
    | exit id=>simp only [yb,ym] at hv;exact ⟨hv.1.symm,hv.2.symm⟩
   cases ex1 with
   | normal=>
    simp only [hx] at hv;simp only [pP,Exit.then];have h2:=ihy l1 k1 j hj s1 ex s' (by rw [Jn];exact hv) ro lo m1 S1 w1 a1 (Kx g5 cR) g1 g2 (by rw [g3];exact g4) (by rw [g6];exact hn) aY (xg eO g5.size) g7
    rw [g6] at h2
    exact wpIn_mono h2 (fun e a' w' hp=>ej.then (ex1:= .normal) g3 g5 hp)
   | ret=>
    obtain ⟨rfl,rfl⟩:=stop (by simp);exact ⟨rfl,m1,S1,g1,g2,g3,g4,g5,g6,g7⟩
   | exit id=>
    obtain ⟨rfl,rfl⟩:=stop (by simp);exact ⟨rfl,m1,S1,g1,g2,g3,g4,g5,g6,g7⟩
 | cond x p q ihp ihq=>
  intro l k j hj s ex s' hv ro lo m S w a cR ht hh hb hn aY eO cE;simp only [comp] at hv;generalize rS:comp O.P (O.hint h) p (l+1) k=qx at hv;obtain ⟨p',l1,k1⟩:=qx;simp only at hv;generalize Jn:comp O.P (O.hint h) q l1 k1=qy at hv;obtain ⟨q',l2,k2⟩:=qy;simp only at hv;have main:∀(ex:Ex) (s':St),bq O.prog O.aX (ev O.prog O.aX j) (.cond (aI (O.hint h) x) p' q') s=some (ex,s')->(Code.cond x p q).wpIn (WF ro) 0 O.P (ej O m S w s ex s' a.tmps.size lo) a w:=by
   intro ex s' hv;simp only [bq] at hv;have rx:=cf (hO.hint h) ht x
   split at hv
   ·rename_i t hx;rw [hx] at rx;simp only [af] at rx
    cases t with
    | true=>
     simp only [yt] at hv;exact wpIn_cond_true rx (ihp (l+1) k j hj s ex s' (by rw [rS];exact hv) ro lo m S w a cR ht hh hb hn aY eO cE)
    | false=>
     simp only [yG] at hv;exact wpIn_cond_false rx (ihq l1 k1 j hj s ex s' (by rw [Jn];exact hv) ro lo m S w a cR ht hh hb hn aY eO cE)
   ·cases hv
  cases D8:(O.hint h).out l with
  | none=>rw [D8] at hv;exact main ex s' hv
  | some live=>
   rw [D8] at hv;simp only at hv;rw [show bq O.prog O.aX (ev O.prog O.aX j) (.seq (.cond (aI (O.hint h) x) p' q') (.kp live)) s=match bq O.prog O.aX (ev O.prog O.aX j) (.cond (aI (O.hint h) x) p' q') s with | some (.normal,s1)=>some (.normal,aT live s1) | r=>r from rfl] at hv
   cases hx:bq O.prog O.aX (ev O.prog O.aX j) (.cond (aI (O.hint h) x) p' q') s with
   | none=>simp [hx] at hv
   | some r=>
    obtain ⟨ex1,s1⟩:=r;have h1:=main ex1 s1 hx;rw [hx] at hv
    cases ex1 with
    | normal=>
     simp only [yb,ym] at hv;obtain ⟨rfl,rfl⟩:=hv;exact wpIn_mono h1 (fun e a' w' hp=>ej.cG live hp)
    | ret=>simp only [yb,ym] at hv;obtain ⟨rfl,rfl⟩:=hv;exact h1
    | exit id=>simp only [yb,ym] at hv;obtain ⟨rfl,rfl⟩:=hv;exact h1
 | block id x ih=>
  intro l k j hj s ex s' hv ro lo m S w a cR ht hh hb hn aY eO cE;simp only [comp] at hv;generalize rS:comp O.P (O.hint h) x l k=qx at hv;obtain ⟨x',r⟩:=qx;simp only at hv;have main:∀(ex:Ex) (s':St),bq O.prog O.aX (ev O.prog O.aX j) (.dt id x') s=some (ex,s')->(Code.block id x).wpIn (WF ro) 0 O.P (ej O m S w s ex s' a.tmps.size lo) a w:=by
   intro ex s' hv;simp only [bq] at hv
   cases hx:bq O.prog O.aX (ev O.prog O.aX j) x' s with
   | none=>simp [hx] at hv
   | some q=>
    obtain ⟨ex1,s1⟩:=q;have h1:=ih l k j hj s ex1 s1 (by rw [rS];exact hx) ro lo m S w a cR ht hh hb hn aY eO cE
    refine wpIn_block (wpIn_mono h1 ?_);rintro e a1 w1 ⟨rfl,g⟩
    cases ex1 with
    | normal=>
     simp only [hx,yb,ym] at hv;obtain ⟨rfl,rfl⟩:=hv;exact ⟨rfl,g⟩
    | ret=>
     simp only [hx,yb,ym] at hv;obtain ⟨rfl,rfl⟩:=hv;exact ⟨rfl,g⟩
    | exit i=>
     simp only [hx] at hv
     cases NS:yr i id with
     | true=>
      rw [NS] at hv;simp only [yt,yb,ym] at hv;obtain ⟨rfl,rfl⟩:=hv
      have:=yj NS
      subst this;simp only [pP,Exit.inBlock,xA];exact ⟨rfl,g⟩
     | false=>
      rw [NS] at hv;simp only [yG,yb,ym] at hv;obtain ⟨rfl,rfl⟩:=hv;have fb:i≠id:=fun e=>by subst e;simp at NS
      simp only [pP,Exit.inBlock,fb,xk];exact ⟨rfl,g⟩
  have aqU:∀live:List Nat,bq O.prog O.aX (ev O.prog O.aX j) (.seq (.dt id x') (.kp live)) s=some (ex,s')->(Code.block id x).wpIn (WF ro) 0 O.P (ej O m S w s ex s' a.tmps.size lo) a w:=by
   intro live hv;rw [show bq O.prog O.aX (ev O.prog O.aX j) (.seq (.dt id x') (.kp live)) s=match bq O.prog O.aX (ev O.prog O.aX j) (.dt id x') s with | some (.normal,s1)=>some (.normal,aT live s1) | r=>r from rfl] at hv
   cases hx:bq O.prog O.aX (ev O.prog O.aX j) (.dt id x') s with
   | none=>simp [hx] at hv
   | some r=>
    obtain ⟨ex1,s1⟩:=r;have h1:=main ex1 s1 hx;rw [hx] at hv
    cases ex1 with
    | normal=>
     simp only [yb,ym] at hv;obtain ⟨rfl,rfl⟩:=hv;exact wpIn_mono h1 (fun e a' w' hp=>ej.cG live hp)
    | ret=>simp only [yb,ym] at hv;obtain ⟨rfl,rfl⟩:=hv;exact h1
    | exit id=>simp only [yb,ym] at hv;obtain ⟨rfl,rfl⟩:=hv;exact h1
  split at hv
  ·exact aqU _ hv
  ·exact main ex s' hv
 | loop x ih=>
  intro l k j hj s ex s' hv;simp only [comp] at hv;generalize rS:comp O.P (O.hint h) x (l+1) k=qx at hv;obtain ⟨x',r⟩:=qx;simp only at hv;have rounds:∀(j:Nat),j<=n->∀(s:St) (ex:Ex) (s':St),bq O.prog O.aX (ev O.prog O.aX j) (.loop ((O.hint h).live l) x') s=some (ex,s')->∃K,∀(ro:Option Nat) (lo:Nat) (m:Mp) (S:Nat->Prop) (w:yi) (a:Act),sO ro w->bP O m S w s.tm a.tmps->aQ O m S w s.hp s.ct->s.base<=s.ct->(O.hint h).n<=a.tmps.size->O.w0.heap.size<=lo->lo<=w.heap.size->Marks lo S w a.defers->
    Code.roundsIn (WF ro) 0 O.P x (ej O m S w s ex s' a.tmps.size lo) K a w:=by
   intro j
   induction j with
   | zero=>
    intro hj s ex s' hv;simp only [bq] at hv
    cases hx:bq O.prog O.aX (ev O.prog O.aX 0) x' (aT ((O.hint h).live l) s) with
    | none=>simp [hx] at hv
    | some q=>
     obtain ⟨ex1,s1⟩:=q;have stop:ex1≠.normal->ex=ex1/\s'=s1:=by
      intro fb;rw [hx] at hv
      cases ex1 with
      | normal=>exact absurd rfl fb
      | ret=>simp only [yb,ym] at hv;exact ⟨hv.1.symm,hv.2.symm⟩
      | exit id=>simp only [yb,ym] at hv;exact ⟨hv.1.symm,hv.2.symm⟩
     refine ⟨1,fun ro lo m S w a cR ht hh hb hn aY eO cE=>?_⟩;rw [roundsIn_succ];obtain ⟨m1,c1,c2,c3,c4,c5⟩:=O4 (live:=(O.hint h).live l) ht hh hb;have h1:=ih (l+1) k 0 hj _ ex1 s1 (by rw [rS];exact hx) ro lo m1 S w a cR c1 c2 (by rw [c3];exact c4) hn aY eO cE
     refine wpIn_mono h1 ?_;rintro e a1 w1 hp;have an:=ej.then (O:=O) (m:=m) (S:=S) (w:=w) (s:=s) (ex1:= .normal) c3 c5 hp;obtain ⟨rfl,_⟩:=hp
     cases ex1 with
     | normal=>simp only [hx,GZ] at hv;cases hv
     | ret=>obtain ⟨rfl,rfl⟩:=stop (by simp);exact an
     | exit id=>obtain ⟨rfl,rfl⟩:=stop (by simp);exact an
   | succ j ihj=>
    intro hj s ex s' hv;simp only [bq] at hv
    cases hx:bq O.prog O.aX (ev O.prog O.aX (j+1)) x' (aT ((O.hint h).live l) s) with
    | none=>simp [hx] at hv
    | some q=>
     obtain ⟨ex1,s1⟩:=q;have stop:ex1≠.normal->ex=ex1/\s'=s1:=by
      intro fb;rw [hx] at hv
      cases ex1 with
      | normal=>exact absurd rfl fb
      | ret=>simp only [yb,ym] at hv;exact ⟨hv.1.symm,hv.2.symm⟩
      | exit id=>simp only [yb,ym] at hv;exact ⟨hv.1.symm,hv.2.symm⟩
     have more:∃K,ex1= .normal->∀(ro:Option Nat) (lo:Nat) (m:Mp) (S:Nat->Prop) (w:yi) (a:Act),sO ro w->bP O m S w s1.tm a.tmps->aQ O m S w s1.hp s1.ct->s1.base<=s1.ct->(O.hint h).n<=a.tmps.size->O.w0.heap.size<=lo->lo<=w.heap.size->Marks lo S w a.defers->
       Code.roundsIn (WF ro) 0 O.P x (ej O m S w s1 ex s' a.tmps.size lo) K a w:=by
      cases ex1 with
      | normal=>
       rw [hx] at hv;have dX:ev O.prog O.aX (j+1) (.loop ((O.hint h).live l) x') s1=some (ex,s'):=hv;rw [G0] at dX;obtain ⟨K,hK⟩:=ihj (by omega) s1 ex s' dX;exact ⟨K,fun _=>hK⟩
      | ret=>exact ⟨0,fun h=>by cases h⟩
      | exit id=>exact ⟨0,fun h=>by cases h⟩
     obtain ⟨K,hK⟩:=more;refine ⟨K+1,fun ro lo m S w a cR ht hh hb hn aY eO cE=>?_⟩;rw [roundsIn_succ];obtain ⟨m1,c1,c2,c3,c4,c5⟩:=O4 (live:=(O.hint h).live l) ht hh hb;have h1:=ih (l+1) k (j+1) hj _ ex1 s1 (by rw [rS];exact hx) ro lo m1 S w a cR c1 c2 (by rw [c3];exact c4) hn aY eO cE
     refine wpIn_mono h1 ?_;rintro e a1 w1 hp;have an:=ej.then (O:=O) (m:=m) (S:=S) (w:=w) (s:=s) (ex1:= .normal) c3 c5 hp;obtain ⟨rfl,_⟩:=hp
     cases ex1 with
     | normal=>
      simp only [pP,Exit.then];obtain ⟨_,m2,S2,g1,g2,g3,g4,g5,g6,g7⟩:=an;have h2:=hK rfl ro lo m2 S2 w1 a1 (Kx g5 cR) g1 g2 (by rw [g3];exact g4) (by rw [g6];exact hn) aY (xg eO g5.size) g7
      rw [g6] at h2;revert h2;generalize hA:a.tmps.size=sz;intro h2;have step:∀(K:Nat) (a':Act) (w':yi),Code.roundsIn (WF ro) 0 O.P x (ej O m2 S2 w1 s1 ex s' sz lo) K a' w'->Code.roundsIn (WF ro) 0 O.P x (ej O m S w s ex s' sz lo) K a' w':=by
       intro K
       induction K with
       | zero=>intro a' w' Bb;exact Bb
       | succ K ihK=>
        intro a' w' Bb;rw [roundsIn_succ] at Bb ⊢;refine wpIn_mono Bb (fun e a'' NG hq=>?_)
        cases e with
        | normal=>exact ihK a'' NG hq
        | exit id=>exact ej.then (ex1:= .normal) g3 g5 hq
        | goto x=>exact ej.then (ex1:= .normal) g3 g5 hq
        | ret=>exact ej.then (ex1:= .normal) g3 g5 hq
        | panic x=>exact ej.then (ex1:= .normal) g3 g5 hq
        | outgrown=>exact ej.then (ex1:= .normal) g3 g5 hq
      exact step K a1 w1 h2
     | ret=>obtain ⟨rfl,rfl⟩:=stop (by simp);exact an
     | exit id=>obtain ⟨rfl,rfl⟩:=stop (by simp);exact an
  obtain ⟨K,hK⟩:=rounds j hj s ex s' hv;intro ro lo m S w a cR ht hh hb hn aY eO cE;exact wpIn_loop_rounds K (hK ro lo m S w a cR ht hh hb hn aY eO cE)
 | scope x ih=>
  intro l k j hj s ex s' hv ro lo m S w a cR ht hh hb hn aY eO cE;simp only [comp] at hv;exact agn (ih l k j hj s ex s' hv ro lo m S w a cR ht hh hb hn aY eO cE) (fun l a w=>ej.none l)
 | rangeFunc f ps as_ body iha ihb=>
  intro l k j hj s ex s' hv;simp only [comp] at hv;generalize rS:comp O.P (O.hint h) as_ l k=qx at hv;obtain ⟨x',l1,k1⟩:=qx;simp only at hv;generalize Jn:comp O.P (O.hint h) body l1 k1=qy at hv;obtain ⟨y',l2,k2⟩:=qy;simp only at hv
  cases ha:sS (O.hint h).n ps.toList with
  | false=>rw [ha] at hv;exact (RS hv).elim
  | true=>
   rw [ha] at hv;exact aqT hO (hC j hj) ⟨l,k,by rw [rS]⟩ ⟨l1,k1,by rw [Jn]⟩ ha hv
end
end
section
open Go
section
variable {O:bk} {m:Mp} {S:Nat->Prop} {w:yi}
def Xe:∀(vals:List AV) (j i:Nat),aj (ew j vals) (j+i)=vals.getD i .undef
 | [],j,i=>by simp [ew,aj]
 | v::r,j,i=>by
  cases i with
  | zero=>simp [ew,aj]
  | succ i=>
   simp only [ew,aj];have hb:yr j (j+(i+1))=false:=by
    cases hq:yr j (j+(i+1)) with
    | false=>rfl
    | true=>have:=yj hq;omega
   rw [hb,show j+(i+1)=j+1+i by omega];rw [Xe r (j+1) i]
   simp
def Xf {vals:List AV} {args:Array yh} (n:Nat) (h:aq O.ab m S w vals args.toList):bP O m S w (ew 0 vals) (args++ue n undef):=by
 intro i
 have:=Xe vals 0 i
 rw [yf] at this;rw [this,xx]
 cases hv:vals[i]? with
 | none=>simp only [Option.getD_none,af]
 | some v=>
  obtain ⟨u,h1,h2⟩:=PF h hv;have hl:i<args.size:=by
   grind
  have:(args++ue n undef).getD i undef=u:=by
   rw [wR,yaf hl]
   grind
  grind
def D9 (tmps:Array yh):ycS->Sem yh
 | .tmp t=>pure (tmps.getD t undef)
 | .cell a t=>do loadVar t (<-asAddr (tmps.getD a undef))
def ago (fn:yaA) (tmps:Array yh):results fn tmps=(do let vs <-fn.results.mapM (D9 tmps);pure (if h:vs.size=1 then vs[0] else .tuple vs)):=by
 rfl
def O6 {s:St} {ct:Nat} {tmps:Array yh} (hh:aQ O m S w s.hp ct) (ht:bP O m S w s.tm tmps):∀{rs:List ycS} {rv:List RV} {vs:List AV},oh O.P rs=some rv->kT s rv=some vs->
  ∃us,(rs.mapM (D9 tmps)).run O.P w= .ok us w/\aq O.ab m S w vs us
 | [],rv,vs,h1,h2=>by
  simp only [oh,yb] at h1;subst h1;simp only [kT,yb] at h2;subst h2;exact ⟨[],by simp,by simp [aq]⟩
 | .tmp t::rs,rv,vs,h1,h2=>by
  simp only [oh] at h1
  cases hc:oh O.P rs with
  | none=>simp [hc] at h1
  | some l=>
   simp only [hc,yb] at h1;subst h1;simp only [kT,results1] at h2
   cases hl:kT s l with
   | none=>simp [hl] at h2
   | some S8=>
    simp only [hl,yb] at h2;subst h2;obtain ⟨us,g1,g2⟩:=O6 hh ht hc hl;refine ⟨tmps.getD t undef::us,?_,by simp only [aq];exact ⟨_,_,rfl,ht t,g2⟩⟩
    rw [uD];simp only [D9,Sem.run_bind,Sem.run_pure,Result.andThen_ok];rw [g1];rfl
 | .cell a t::rs,rv,vs,h1,h2=>by
  simp only [oh] at h1
  cases hz:cw O.P t with
  | none=>simp [hz] at h1
  | some sz=>
   cases Jo:dF O.P t with
   | none=>simp [hz,Jo] at h1
   | some ag=>
    cases hc:oh O.P rs with
    | none=>simp [hz,Jo,hc] at h1
    | some l=>
     simp only [hz,Jo,hc,yb] at h1;subst h1;simp only [kT] at h2
     cases cg:results1 s (.cell a sz ag) with
     | none=>simp [cg] at h2
     | some v=>
      cases hl:kT s l with
      | none=>simp [cg,hl] at h2
      | some S8=>
       simp only [cg,hl,yb] at h2;subst h2;obtain ⟨us,g1,g2⟩:=O6 hh ht hc hl;have ra:=ht a;have key:∃b o u,tmps.getD a undef= .pointer (some ⟨b,o,none⟩)/\(loadVar t ⟨b,o,none⟩).run O.P w= .ok u w/\af O.ab m S w v u:=by
        simp only [results1] at cg;cases hta:aj s.tm a<;>rw [hta] at cg ra<;>simp only [reduceCtorEq] at cg
        ·rename_i id o;simp only [af] at ra;obtain ⟨p,hm,hp⟩:=ra
         cases hg:ak s.hp id with
         | none=>simp [hg] at cg
         | some ob=>
          cases ob<;>simp only [hg,reduceCtorEq] at cg
          have TG:=PE (o:=0) (n:=0) hh hg hm;obtain ⟨u,q1,q2⟩:=Ld hz Jo (px o _ p.b p.o TG) cg;exact ⟨p.b,p.o+o,u,hp,q1,q2⟩
        ·rename_i cs;simp only [af] at ra;obtain ⟨b,o,hp,_,_,TG⟩:=ra;obtain ⟨u,q1,q2⟩:=Ld hz Jo TG cg;exact ⟨b,o,u,hp,q1,q2⟩
       obtain ⟨b,o,u,q1,q2,q3⟩:=key;refine ⟨u::us,?_,by simp only [aq];exact ⟨_,_,rfl,q3,g2⟩⟩
       rw [uD]
       have:(D9 tmps (.cell a t)).run O.P w= .ok u w:=by
        simp only [D9];rw [q1];simp [asAddr,q2]
       rw [Sem.run_bind,this,Result.andThen_ok,Sem.run_bind,g1];rfl
def afG {s:St} {ct:Nat} {tmps:Array yh} {fn:yaA} {rv:List RV} {v:AV} (hh:aQ O m S w s.hp ct) (ht:bP O m S w s.tm tmps) (h1:oh O.P fn.results.toList=some rv) (h2:gW s rv=some v):
  ∃u,(results fn tmps).run O.P w= .ok u w/\af O.ab m S w v u:=by
 unfold gW at h2
 cases hl:kT s rv with
 | none=>simp [hl] at h2
 | some vs=>
  obtain ⟨us,g1,g2⟩:=O6 hh ht h1 hl;have hlen:=gH _ _ g2;have hm:(fn.results.mapM (D9 tmps)).run O.P w= .ok us.toArray w:=by
   rw [Array.mapM_eq_mapM_toList];simp [g1]
  have ez:(results fn tmps).run O.P w= .ok (if h:us.toArray.size=1 then us.toArray[0] else .tuple us.toArray) w:=by
   rw [ago,Sem.run_bind,hm];rfl
  rw [hl] at h2
  split at h2
  ·rename_i v' nW;simp only [yb] at nW h2;subst nW;simp only [aq] at g2
   grind
  ·rename_i dL fb nW;simp only [yb] at nW h2;subst nW;subst h2;have h1:¬us.toArray.size=1:=by
    intro h
    have:vs.length=1:=by simp_all
    cases vs with
    | nil=>simp at this
    | cons x t=>
     cases t with
     | nil=>exact fb x rfl
     | cons y t=>simp at this
   simp only [af]
   grind
  ·grind
def Pr {s:St} {tmps:Array yh} {fn:yaA} {rv:List RV} {v:AV} {m0:Mp} {S0:Nat->Prop} {w0:yi} {hp0:Hp} {NT:Nat} (h1:oh O.P fn.results.toList=some rv) (h2:gW s rv=some v) (eZ:NT<=s.ct):∀(rs:List Nat) (w:yi),
  rs.Nodup->(∀r,r∈rs->w.heap[r]? =some (.deferred (some []))/\¬S r/\w0.heap.size<=r)->O.w0.heap.size<=w0.heap.size->aQ O m S w s.hp s.ct->bP O m S w s.tm tmps->bU m0 S0 w0 hp0 m S w s.hp NT->
  ycU Fence.wide 0 O.P fn tmps (sC O m0 S0 w0 hp0 NT v s.hp s.ct) (rs.map (fun r=>{target:= .collected r,args:=#[]})) .returning w
 | [],w,_,_,_,hh,ht,hf=>by
  obtain ⟨u,g1,g2⟩:=afG hh ht h1 h2;exact ⟨u,g1,u,m,S,rfl,hh,eZ,g2,hf⟩
 | r::rs,w,lI,hr,aY,hh,ht,hf=>by
  obtain ⟨fa,dd⟩:=List.nodup_cons.1 lI;obtain ⟨a1,a2,a3⟩:=hr r vH;have eV:=Dg w r (.deferred none);have nU:¬dM m s.hp r:=fun ho=>XX hh ho _ a1
  have Bb:=Wl hh eV a2 nU (xg aY a3)
  have aO:fE S w {w with heap:=w.heap.setIfInBounds r (.deferred none)}:=fun b hb=>eV.other b (fun e=>a2 (e▸hb))
  have rJ:bU m0 S0 w0 hp0 m S {w with heap:=w.heap.setIfInBounds r (.deferred none)} s.hp NT:=by
   refine ⟨hf.os,hf.tape,hf.output,by rw [eV.size];exact hf.size,fun b hb ho=>(eV.other b (by omega)).trans (hf.same b hb ho),hf.sub,fun b hb=>(eV.other b (fun e=>a2 (e▸hf.sub b hb))).trans (hf.still b hb),hf.new,hf.own,hf.old,fun b x hb=>?_⟩
   obtain ⟨x',hx⟩:=hf.loops b x hb;exact ⟨x',(eV.other b (fun e=>by subst e;rw [a1] at hx;cases hx)).trans hx⟩
  refine ⟨by simp,.inl ⟨r,_,rfl,?_,Pr h1 h2 eZ rs _ dd (fun r' bC=>?_) aY Bb (z6 (fun _ _ h=>h) (fun _ h=>h) aO ht) rJ⟩⟩
  ·simp only [Instr.takeDeferred,Sem.run_bind,Wm (P:=O.P) a1 (fun _ _ _=>by simp),Result.andThen_ok,Kc (P:=O.P) a1 (fun _ _ _=>by simp),Sem.run_pure]
  ·obtain ⟨b1,b2,b3⟩:=hr r' (wS _ bC);exact ⟨(eV.other r' (fun e=>fa (e▸bC))).trans b1,b2,b3⟩
end
section
variable {O:bk} {self:cu}
def aqV (hO:gI O) (hS:∀v s ex s',self v s=some (ex,s')->∀c h l k,(comp O.P (O.hint h) c l k).1=v->AB O h c s ex s') {n:Nat} {F:ax} (hF:O.prog n=some F) {hp:Hp} {ct:Nat} {vals:List AV} {ex:Ex} {s:St}
  (hv:self F.body ⟨ew 0 vals,hp,ct,ct⟩=some (ex,s)) (hex:ex= .normal\/ex= .ret) {v:AV} (hr:gW s F.dQ=some v):AA O n hp ct vals v s.hp s.ct:=by
 intro m S w args hh fL;obtain ⟨fn,q1,q2,q3⟩:=hO.prog n F hF;obtain ⟨c,q4,q5,q6,q7⟩:=OS q2;refine .inl ⟨KQ q1 (by rw [q4];rfl) q3,?_⟩
 have hc:=hS _ _ _ _ hv c n 0 0 q5.symm;have hw:=hc none w.heap.size m S w {tmps:=args++ue (fn.ntmps-args.size) undef,defers:=[]} (fun l hl=>by cases hl) (Xf _ fL) hh (yA _) (by simp;omega) hh.fK (yA _) ⟨[],rfl,by simp,by simp⟩
 refine callsIn_of_wp_marks (F:=Fence.wide) q1 q4 trivial (wpIn_mono hw ?_);rintro e a' w' ⟨rfl,m',S',k1,k2,k3,k4,k5,k6,rs,k7,k8,k9⟩;have main:ycU Fence.wide 0 O.P fn a'.tmps (sC O m S w hp ct v s.hp s.ct) a'.defers .returning w':=by
  rw [k7];exact Pr q6 hr k4 rs w' k8 k9 hh.fK k2 k1 k5
 rcases hex with rfl | rfl
 ·exact main
 ·exact main
def Af.mono {P:y5} {f:tE} {args:Array yh} {w:yi} {R R':yaN->yi->Prop} (h:Af P f args w R) (hr:∀e w',R e w'->R' e w'):Af P f args w R':=by
 rcases h with ⟨h1,h2⟩ | ⟨u,w',h1,h2⟩
 ·exact .inl ⟨h1,CallsIn.mono h2 hr⟩
 ·exact .inr ⟨u,w',h1,hr _ _ h2⟩
def ahx {w:yi} {S:Nat->Prop} (hg:Az O w) (hs:∀b,S b->b<w.heap.size):aQ O eC S w [] 0:=
 ⟨(fun id o p h _=>by simp [ak] at h),(fun id p h=>by cases h),(fun i j oi oj pi pj h=>by simp [ak] at h),hs,(fun id p h=>by cases h),(fun id p h=>by cases h),hg.1,hg.2,(fun id o h=>by simp [ak] at h)⟩
def PQ {b:Nat} (h:dM eC [] b):False:=by
 obtain ⟨_,_,_,h,_⟩:=h;simp [ak] at h
def ON {n:Nat} {vals:List AV} {v r:AV} {s:St} (h:AA O n [] 0 vals v s.hp s.ct) (hr:result s.hp v=some r):dV O n vals r:=by
 intro w S args hg hs fL hp;refine Af.mono (h eC S w args (ahx hg hs) fL) ?_;rintro e w' ⟨u,m',S',rfl,k1,k2,k3,k4⟩;have aY:∀b,dM m' s.hp b->w.heap.size<=b:=fun b hb=>(k4.own b hb).elim (fun h=>(PQ h).elim) (fun h=>h)
 obtain ⟨S2,g1,g2,g3,g4⟩:=aho (lo:=w.heap.size) k1 hr k3 aY;refine ⟨u,S2,rfl,⟨k4.os,k4.tape,k4.output,k4.size,fun b hb=>k4.same b hb PQ⟩,fun b hb=>g1 b (k4.sub b hb),fun b hb=>?_,g3,g4⟩;rcases g2 b hb with h | h
 ·rcases k4.new b h with h | h | h
  ·exact .inl h
  ·exact (PQ h).elim
  ·exact .inr h
 ·exact .inr (aY b h)
def agp (hO:gI O) (hS:∀v s ex s',self v s=some (ex,s')->∀c h l k,(comp O.P (O.hint h) c l k).1=v->AB O h c s ex s'):nh O self:=by
 have heap:∀(n:Nat) (F:ax),O.prog n=some F->∀(hp:Hp) (ct:Nat) (vals:List AV) (ex:Ex) (s:St) (v:AV),self F.body ⟨ew 0 vals,hp,ct,ct⟩=some (ex,s)->(ex= .normal\/ex= .ret)->gW s F.dQ=some v->AA O n hp ct vals v s.hp s.ct:=
  fun n F hF hp ct vals ex s v h1 h2 h3=>aqV hO hS hF h1 h2 h3
 refine ⟨?_,?_,fun hp ct l xs v an aV hv=>ajC hS hv⟩
 ·intro n vals r hv;unfold bE at hv
  cases hL:O.aX.pure n with
  | some sp=>rw [hL] at hv;exact hO.aX n sp vals r hL hv
  | none=>
   simp only [hL] at hv
   cases hF:O.prog n with
   | none=>simp [hF] at hv
   | some F=>
    simp only [hF] at hv
    split at hv
    ·rename_i s hb
     cases hr:gW s F.dQ with
     | none=>simp [hr] at hv
     | some v=>simp only [hr] at hv;exact ON (heap n F hF [] 0 vals .normal s v hb (.inl rfl) hr) hv
    ·rename_i s hb
     cases hr:gW s F.dQ with
     | none=>simp [hr] at hv
     | some v=>simp only [hr] at hv;exact ON (heap n F hF [] 0 vals .ret s v hb (.inr rfl) hr) hv
    ·cases hv
 ·intro hp ct n vals v an aV hv;unfold iw at hv
  cases hL:O.aX.heap n with
  | some sp=>rw [hL] at hv;exact hO.D6 n sp hp ct vals v an aV hL hv
  | none=>
   simp only [hL] at hv
   cases hF:O.prog n with
   | none=>simp [hF] at hv
   | some F=>
    grind
def VQ (hO:gI O):∀n,nh O (ev O.prog O.aX n):=by
 intro n
 induction n using vC with
 | _ n ih=>
  refine agp hO (fun v s ex s' hv c h l k hc=>?_)
  cases n with
  | zero=>rw [GZ] at hv;cases hv
  | succ n=>
   rw [G0,<-hc] at hv;exact Y1 hO n (fun k hk=>ih k (by omega)) h c l k n (yA _) s ex s' hv
def sound (hO:gI O) {n f:Nat} {vals:List AV} {r:AV} (h:S9 O.prog O.aX n f vals=some r):dV O f vals r:=(VQ hO n).pure f vals r h
end
end
def gk:List Nat->List Nat->Bool
 | [],_=>true
 | a::x,b::y=>yr a b&&gk x y
 | _::_,[]=>false
def lT (sub:List Nat):List Nat->Nat->Option Nat
 | [],k=>bif gk sub [] then some k else none
 | b::r,k=>bif gk sub (b::r) then some k else lT sub r (k+1)
def My:List AV->Option AV
 | [.str s,.str sep]=>
  bif yJ s.length 4294967281 then
   match lT sep s 0 with
   | some i=>some (.au [.str (s.take i),.str (s.drop (i+sep.length)),.bool true])
   | none=>some (.au [.str s,.str [],.bool false])
  else none
 | _=>none
def Ke:List AV->Option AV
 | [.str s,.str p]=>some (bif gk p s then .au [.str (s.drop p.length),.bool true] else .au [.str s,.bool false])
 | _=>none
def Kf:List AV->Option AV
 | [.str s,.str p]=>some (.bool (gk p s))
 | _=>none
def J5:List AV->Option AV
 | [.str s,.str p]=>some (.str (bif gk p s then s.drop p.length else s))
 | _=>none
def Ea (i:Nat):List Nat->Bool
 | []=>false
 | j::r=>bif yr j i then true else Ea i r
def km (set:List Nat):List Nat->List Nat
 | []=>[]
 | b::r=>bif Ea b set then km set r else b::r
def DD:List Nat->Bool
 | []=>true
 | b::r=>yJ b 128&&DD r
def trimS:List AV->Option AV
 | [.str s,.str set]=>bif DD set&&(yJ s.length 4294967281&&yJ set.length 4294967281) then some (.str (km set (km set s.reverse).reverse)) else none
 | _=>none
def gM (s:List Nat):Nat->List Nat
 | 0=>[]
 | n+1=>s++gM s n
def Ag:List AV->Option AV
 | [.str s,.int .i64 (.ofNat n)]=>bif yF n 1099511627776&&yF (s.length*n) 1099511627776 then some (.str (gM s n)) else none
 | _=>none
def my:Nat->Nat->List Nat->List Nat
 | 0,_,acc=>acc
 | f+1,n,acc=>bif yJ n 10 then (48+n)::acc else my f (n/10) ((48+n%10)::acc)
def ap (n:Nat):List Nat:=my (n+1) n []
def aP:Int->List Nat
 | .ofNat n=>ap n
 | .negSucc n=>45::ap (n+1)
def AD:Int->Bool
 | .ofNat n=>yJ n 9223372036854775808
 | .negSucc n=>yJ n 9223372036854775808
def HU:List AV->Option AV
 | [.int .i64 n]=>bif AD n then some (.str (aP n)) else none
 | _=>none
def zU:List AV->Option AV
 | [.int .u64 (.ofNat n),.int .i64 10]=>bif yJ n 18446744073709551616 then some (.str (ap n)) else none
 | _=>none
def cJ:List Nat->Nat->Option Nat
 | [],a=>some a
 | b::r,a=>bif yF 48 b&&yF b 57 then cJ r (10*a+(b-48)) else none
def HV:List AV->Option AV
 | [.str s]=>
  bif yJ 0 s.length&&yF s.length 18 then
   match cJ s 0 with | some n=>some (.au [.int .i64 n,.undef]) | none=>none
  else none
 | _=>none
def nn:List AV->Option AV
 | [.int .u64 (.ofNat x),.int .u64 (.ofNat y),.int .u64 (.ofNat c)]=>
  bif yF c 1&&(yJ x 18446744073709551616&&yJ y 18446744073709551616) then some (.au [.int .u64 ((x+y+c)%18446744073709551616:Nat),.int .u64 ((x+y+c)/18446744073709551616:Nat)]) else none
 | _=>none
def Al:List AV->Option AV
 | [.int .u64 (.ofNat x),.int .u64 (.ofNat y),.int .u64 (.ofNat c)]=>
  bif yF c 1&&(yJ x 18446744073709551616&&yJ y 18446744073709551616) then some (.au [.int .u64 ((x+18446744073709551616*2-y-c)%18446744073709551616:Nat),.int .u64 (bif yF (y+c) x then 0 else 1)]) else none
 | _=>none
def qO:List AV->Option AV
 | [.int .u64 (.ofNat x),.int .u64 (.ofNat y)]=>bif yJ x 18446744073709551616&&yJ y 18446744073709551616 then some (.au [.int .u64 (x*y/18446744073709551616:Nat),.int .u64 (x*y%18446744073709551616:Nat)]) else none
 | _=>none
def dh:Nat->Nat->Nat
 | 0,_=>0
 | f+1,n=>bif yr n 0 then 0 else 1+dh f (n/2)
def Hg:List AV->Option AV
 | [.int .u64 (.ofNat x)]=>bif yJ x 18446744073709551616 then some (.int .i64 (dh 64 x)) else none
 | _=>none
def DZ:List AV->Option AV
 | [.int .u64 (.ofNat x)]=>bif yJ x 18446744073709551616 then some (.int .i64 (64-dh 64 x:Nat)) else none
 | _=>none
def KR:List AV->Option AV
 | [.aK .f64 b]=>some (.int .u64 b)
 | _=>none
def J0:List AV->Option AV
 | [.int .u64 (.ofNat n)]=>some (.aK .f64 n)
 | _=>none
section
open Go
section
variable {O:bk} {n:Nat}
def Gu {w w':yi} (h:RowKit.Below w.heap.size w w'):Calm w w':=⟨h.os,h.tape,h.output,h.size,h.block⟩
def ahy {w:yi} (k:Nat):Calm w (w.drewN k):=⟨rfl,rfl,rfl,yA _,fun _ _=>rfl⟩
def ahz {w:yi} (h:Az O w) {a:Addr} {v:yh} (hc:O.w0.cell? a=some v):w.cell? a=some v:=by
 have hb:a.block<O.w0.heap.size:=by
  unfold World.cell? at hc
  cases hq:O.w0.heap[a.block]? with
  | none=>simp [hq] at hc
  | some o=>exact (xu.1 hq).1
 unfold World.cell? at hc ⊢;rw [h.1 _ hb];exact hc
def oc {vals:List AV} {r:AV} (hr:∀S w' lo u,af O.ab eC S w' r u->mL O.ab S w' lo r u)
  (fH:∀args w,(callFunc (O.ab n) args).run O.P w= .ok (.enter (O.ab n) args) w)
  (h:∀w S args,Az O w->aq O.ab eC S w vals args.toList->wm O.P (O.ab n) args w fun e w'=>∃u,e= .returned u/\Calm w w'/\∀S,af O.ab eC S w' r u):dV O n vals r:=by
 intro w S args hg hS dK _;refine .inl ⟨fH args w,Go.callsIn_wide.2 ((h w S args hg dK).mono ?_)⟩;rintro e w' ⟨u,rfl,hc,hu⟩;exact ⟨u,S,rfl,hc,fun _ h=>h,fun _ h=> .inl h,fun b hb=>yu (hS b hb) hc.size,hr S w' _ u (hu S)⟩
def Ky {vals:List AV} {r:AV} (hr:∀S w' lo u,af O.ab eC S w' r u->mL O.ab S w' lo r u)
  (h:∀w S args,aq O.ab eC S w vals args.toList->∃u,(callFunc (O.ab n) args).run O.P w= .ok (.value u) w/\∀S,af O.ab eC S w r u):dV O n vals r:=by
 intro w S args _ hS dK _;obtain ⟨u,h1,h2⟩:=h w S args dK;exact .inr ⟨u,w,h1,u,S,rfl,Calm.refl,fun _ h=>h,fun _ h=> .inl h,hS,hr S w _ u (h2 S)⟩
def G1 {s:List Nat}:∀S w' lo u,af O.ab eC S w' (.str s) u->mL O.ab S w' lo (.str s) u:=fun S w' lo u h=>⟨[],rfl,h,rfl⟩
def Qe {k:IntKind} {z:Int}:∀S w' lo u,af O.ab eC S w' (.int k z) u->mL O.ab S w' lo (.int k z) u:=fun S w' lo u h=>⟨[],rfl,h,rfl⟩
def al0 {k:FloatKind} {z:Nat}:∀S w' lo u,af O.ab eC S w' (.aK k z) u->mL O.ab S w' lo (.aK k z) u:=fun S w' lo u h=>⟨[],rfl,h,rfl⟩
def ajE {b:Bool}:∀S w' lo u,af O.ab eC S w' (.bool b) u->mL O.ab S w' lo (.bool b) u:=fun S w' lo u h=>⟨[],rfl,h,rfl⟩
def Wn {S:Nat->Prop} {w':yi} {lo:Nat}:∀{vs:List AV} {us:List yh},(∀v,v∈vs->(∀ex sz k cs,v≠.cr ex sz k cs)/\aW v=true)->aq O.ab eC S w' vs us->kF O.ab S w' lo vs us []
 | [],us,_,h=>by simp only [aq] at h;exact ⟨h,rfl⟩
 | v::vs,us,hv,h=>by
  simp only [aq] at h;obtain ⟨u,t,rfl,h1,h2⟩:=h;have h3:=hv v (by simp);refine ⟨u,t,[],[],rfl,rfl,?_,Wn (fun v hm=>hv v (by simp [hm])) h2⟩;cases v<;>first | exact ⟨rfl,h1,h3.2⟩ | exact absurd rfl (h3.1 _ _ _ _)
def Dw {vs:List AV} (hv:∀v,v∈vs->(∀ex sz k cs,v≠.cr ex sz k cs)/\aW v=true):∀S w' lo u,af O.ab eC S w' (.au vs) u->mL O.ab S w' lo (.au vs) u:=by
 intro S w' lo u h;obtain ⟨xs,rfl,h⟩:=h;exact ⟨xs,[],rfl,Wn hv h,by simp⟩
def D0 {S:Nat->Prop} {w:yi} {a:AV} {args:Array yh} (h:aq O.ab eC S w [a] args.toList):∃u,args=#[u]/\af O.ab eC S w a u:=by
 simp only [aq] at h
 grind
def AE {S:Nat->Prop} {w:yi} {a b:AV} {args:Array yh} (h:aq O.ab eC S w [a,b] args.toList):∃u v,args=#[u,v]/\af O.ab eC S w a u/\af O.ab eC S w b v:=by
 simp only [aq] at h
 grind
def aah {S:Nat->Prop} {w:yi} {a b c:AV} {args:Array yh} (h:aq O.ab eC S w [a,b,c] args.toList):∃u v x,args=#[u,v,x]/\af O.ab eC S w a u/\af O.ab eC S w b v/\af O.ab eC S w c x:=by
 simp only [aq] at h
 grind
def Gv {S:Nat->Prop} {w:yi} {s:List Nat} {l:List UInt8} (h:l.map xh=s):af O.ab eC S w (.str s) (.string ⟨l.toArray⟩):=by
 simp only [af];exact ⟨_,rfl,h⟩
def toNat_inj {a b:UInt8}:yr a.toNat b.toNat=(a==b):=by
 by_cases h:a=b
 ·simp_all
 ·have h':a.toNat≠b.toNat:=fun e=>h (UInt8.toNat_inj.1 e)
  have e:(a==b)=false:=by simp_all
  rw [e]
  cases hq:yr a.toNat b.toNat with
  | false=>rfl
  | true=>exact absurd (yj hq) h'
def GC:∀(p s:List UInt8),gk (p.map xh) (s.map xh)=p.isPrefixOf s
 | [],s=>by cases s<;>rfl
 | a::p,[]=>rfl
 | a::p,b::s=>by
  simp only [xm,gk,List.isPrefixOf,GC p s,toNat_inj]
def Wo:∀(s sep:List UInt8) (k:Nat),lT (sep.map xh) (s.map xh) k=if 0<=Lib.index s sep then some (k+(Lib.index s sep).toNat) else none
 | [],sep,k=>by
  simp only [List.map_nil,lT,Lib.index]
  cases sep with
  | nil=>simp [gk]
  | cons a r=>simp [gk]
 | b::s,sep,k=>by
  have ih:=Wo s sep (k+1);have hp:=GC sep (b::s);simp only [xm,lT,hp,Lib.index]
  grind
def X0 (b:UInt8):∀cs:List UInt8,Ea b.toNat (cs.map xh)=cs.contains b
 | []=>rfl
 | c::cs=>by
  simp only [xm,Ea,X0 b cs,List.contains_cons,toNat_inj]
  grind
def Ps (cs:List UInt8):∀l:List UInt8,km (cs.map xh) (l.map xh)=(l.dropWhile (cs.contains ·)).map xh
 | []=>rfl
 | b::l=>by
  simp only [xm,km,X0,List.dropWhile_cons,Ps cs l]
  grind
def X1 (l:List UInt8):∀n,gM (l.map xh) n=(Lib.repeatL l n).map xh
 | 0=>rfl
 | n+1=>by simp only [gM,Lib.repeatL,xC,X1 l n]
def VR:∀(f n:Nat) (acc:List Nat),n<f->my f n acc=(Lib.decDigits n).map xh++acc
 | 0,n,acc,h=>by omega
 | f+1,n,acc,h=>by
  rw [my,Lib.decDigits];by_cases hn:n<10
  ·rw [show yJ n 10=true from yv hn,yt,dif_pos hn]
   have:(ycr (48+n)).toNat=48+n:=by
    rw [yaT];omega
   grind
  ·have hb:yJ n 10=false:=by
    cases hq:yJ n 10 with
    | false=>rfl
    | true=>exact absurd (yq hq) (by omega)
   rw [hb,yG,dif_neg hn,VR f (n/10) _ (by omega),xC,List.append_assoc]
   have:(ycr (48+n%10)).toNat=48+n%10:=by
    rw [yaT];omega
   grind
def PR (n:Nat):ap n=(Lib.decDigits n).map xh:=by
 rw [ap,VR (n+1) n [] (by omega),List.append_nil]
def ajF (n:Int):aP n=(Lib.itoa n).map xh:=by
 cases n with
 | ofNat k=>
  have:¬ybN k<0:=by simp
  simp only [aP,Lib.itoa,this,xk,PR];rfl
 | negSucc k=>
  have:Int.negSucc k<0:=Int.negSucc_lt_zero k
  simp only [aP,Lib.itoa,this,xA,PR,xm];rfl
def PS:∀f x:Nat,dh f x=Lib.bitLenAux f x
 | 0,_=>rfl
 | f+1,x=>by
  rw [dh,Lib.bitLenAux];by_cases h:x=0
  ·simp_all
  ·have hb:yr x 0=false:=by
    cases hq:yr x 0 with
    | false=>rfl
    | true=>exact absurd (yj hq) h
   rw [hb,yG,yB h,PS f]
def Wp:∀{cs:List UInt8},DD (cs.map xh)=true->∀(j:Nat) b,cs[j]? =some b->b.toNat<128
 | [],_,j,b,h=>by simp at h
 | c::cs,h,j,b,hb=>by
  simp only [xm,DD,yg] at h
  cases j with
  | zero=>
   simp_all
  | succ j=>exact Wp h.2 j b (by simpa using hb)
def X2:∀{l:List UInt8} {a z:Nat},cJ (l.map xh) a=some z->Lib.decFrom a l=some z
 | [],a,z,h=>h
 | b::l,a,z,h=>by
  simp only [xm,cJ] at h
  cases hb:(yF 48 b.toNat&&yF b.toNat 57) with
  | false=>rw [hb] at h;cases h
  | true=>
   rw [hb] at h;simp only [yg] at hb;have h1:=yq hb.1;have h2:=yq hb.2
   have:=X2 h
   rw [Lib.decFrom,Lib.digitVal,yN ⟨h1,h2⟩]
   grind
def ajG {l:List UInt8} {z:Nat} (h:cJ (l.map xh) 0=some z) (h0:0<l.length):Lib.atoi l=some (z:Int):=by
 cases l with
 | nil=>simp at h0
 | cons b r=>
  have hd:=X2 h;have hb:48<=b.toNat:=by
   simp only [xm,cJ] at h
   cases hb:(yF 48 b.toNat&&yF b.toNat 57) with
   | false=>rw [hb] at h;cases h
   | true=>
    simp_all
  have h1:(b==45)=false:=by
   have:b≠45:=fun e=>by subst e;exact absurd hb (by decide)
   grind
  have h2:(b==43)=false:=by
   have:b≠43:=fun e=>by subst e;exact absurd hb (by decide)
   grind
  simp only [Lib.atoi,h1,h2,yD,xk,Lib.decNat,List.isEmpty_cons,hd,Option.map_some]
section
variable {f:tE}
def afg (hf:O.ab n=f) (fH:∀args w,(callFunc f args).run O.P w= .ok (.enter f args) w)
  (hc:∀(s p:ByteArray) (w:yi),wm O.P f #[.string s,.string p] w fun e w'=>e= .returned (.tuple #[.string ⟨(Lib.trimPrefix s.data.toList p.data.toList).toArray⟩,.bool (Lib.hasPrefix s.data.toList p.data.toList)])/\w'=w):
  ∀vals r,Ke vals=some r->dV O n vals r:=by
 intro vals r h;unfold Ke at h
 split at h
 ·rename_i s p;simp only [yb] at h;subst h;refine oc ?_ (by rw [hf];exact fH) ?_
  ·cases gk p s<;>exact Dw (by simp [aW])
  ·intro w S args hg dK;obtain ⟨u,v,rfl,h1,h2⟩:=AE dK;obtain ⟨t1,rfl,rfl⟩:=h1;obtain ⟨t2,rfl,rfl⟩:=h2;rw [hf];refine (hc t1 t2 w).mono ?_;rintro e w' ⟨rfl,rfl⟩;refine ⟨_,rfl,Calm.refl,fun S=>?_⟩;rw [GC,xo];unfold Lib.trimPrefix Lib.hasPrefix
   cases hp:t2.data.toList.isPrefixOf t1.data.toList with
   | true=>
    simp only [yt,xA,af,aq]
    simp_all
   | false=>
    simp only [yG,yD,xk,af,aq]
    grind
 ·cases h
def afh (hf:O.ab n=f) (fH:∀args w,(callFunc f args).run O.P w= .ok (.enter f args) w)
  (hc:∀(s p:ByteArray) (w:yi),wm O.P f #[.string s,.string p] w fun e w'=>e= .returned (.bool (Lib.hasPrefix s.data.toList p.data.toList))/\w'=w):
  ∀vals r,Kf vals=some r->dV O n vals r:=by
 intro vals r h;unfold Kf at h
 split at h
 ·rename_i s p;simp only [yb] at h;subst h;refine oc ajE (by rw [hf];exact fH) ?_
  intro w S args hg dK;obtain ⟨u,v,rfl,h1,h2⟩:=AE dK;obtain ⟨t1,rfl,rfl⟩:=h1;obtain ⟨t2,rfl,rfl⟩:=h2;rw [hf];refine (hc t1 t2 w).mono ?_;rintro e w' ⟨rfl,rfl⟩;refine ⟨_,rfl,Calm.refl,fun S=>?_⟩;rw [GC];simp only [af,Lib.hasPrefix]
 ·cases h
def afd (hf:O.ab n=f) (fH:∀args w,(callFunc f args).run O.P w= .ok (.enter f args) w)
  (hc:∀(s p:ByteArray) (w:yi),wm O.P f #[.string s,.string p] w fun e w'=>e= .returned (.string ⟨(Lib.trimPrefix s.data.toList p.data.toList).toArray⟩)/\w'=w):
  ∀vals r,J5 vals=some r->dV O n vals r:=by
 intro vals r h;unfold J5 at h
 split at h
 ·rename_i s p;simp only [yb] at h;subst h;refine oc G1 (by rw [hf];exact fH) ?_
  intro w S args hg dK;obtain ⟨u,v,rfl,h1,h2⟩:=AE dK;obtain ⟨t1,rfl,rfl⟩:=h1;obtain ⟨t2,rfl,rfl⟩:=h2;rw [hf];refine (hc t1 t2 w).mono ?_;rintro e w' ⟨rfl,rfl⟩;refine ⟨_,rfl,Calm.refl,fun S=>?_⟩;rw [GC,xo];refine Gv ?_;unfold Lib.trimPrefix Lib.hasPrefix
  cases hp:t2.data.toList.isPrefixOf t1.data.toList with
  | true=>simp [List.map_drop]
  | false=>simp
 ·cases h
def al1 (hf:O.ab n=f) (fH:∀args w,(callFunc f args).run O.P w= .ok (.enter f args) w) {a:Addr} {m:Int} (hm:O.w0.cell? a=some (.int .i64 m))
  (hc:∀(s sep:ByteArray) (w:yi),s.size<4294967281->w.cell? a=some (.int .i64 m)->wm O.P f #[.string s,.string sep] w fun e w'=>e= .returned (.tuple #[.string ⟨(Lib.cut s.data.toList sep.data.toList).1.toArray⟩,.string ⟨(Lib.cut s.data.toList sep.data.toList).2.1.toArray⟩,.bool (Lib.cut s.data.toList sep.data.toList).2.2])/\∃n,w'=w.drewN n):
  ∀vals r,My vals=some r->dV O n vals r:=by
 intro vals r h;unfold My at h
 split at h
 ·rename_i s sep
  cases hb:yJ s.length 4294967281 with
  | false=>rw [hb] at h;cases h
  | true=>
   rw [hb] at h;have key:∀(q:List UInt8×List UInt8×Bool),(∀t1 t2:ByteArray,t1.data.toList.map xh=s->t2.data.toList.map xh=sep->r= .au [.str ((Lib.cut t1.data.toList t2.data.toList).1.map xh),.str ((Lib.cut t1.data.toList t2.data.toList).2.1.map xh),.bool (Lib.cut t1.data.toList t2.data.toList).2.2])->
     (∃a b c,r= .au [.str a,.str b,.bool c])->dV O n [.str s,.str sep] r:=by
    intro q hq aoo;obtain ⟨a',b',c',rfl⟩:=aoo;refine oc (Dw (by simp [aW])) (by rw [hf];exact fH) ?_
    intro w S args hg dK;obtain ⟨u,v,rfl,h1,h2⟩:=AE dK;obtain ⟨t1,rfl,e1⟩:=h1;obtain ⟨t2,rfl,e2⟩:=h2;rw [hf];have hl:t1.size<4294967281:=by
     have:=mA hb
     rw [<-e1,xo] at this
     simp_all
    refine (hc t1 t2 w hl (ahz hg hm)).mono ?_;rintro e w' ⟨rfl,k,rfl⟩;refine ⟨_,rfl,ahy k,fun S=>?_⟩;simp only [af,aq]
    grind
   refine key ([],[],false) ?_ ?_
   ·intro t1 t2 e1 e2;subst e1;subst e2;rw [Wo] at h;unfold Lib.cut;by_cases h0:0<=Lib.index t1.data.toList t2.data.toList
    ·simp_all
    ·grind
   ·grind
 ·cases h
def ajH (hf:O.ab n=f) (fH:∀args w,(callFunc f args).run O.P w= .ok (.enter f args) w)
  (hc:∀(s cs:ByteArray) (w:yi),s.size<=9223372036854775807->cs.size<4294967281->(∀(j:Nat) b,cs.data.toList[j]? =some b->b.toNat<128)->wm O.P f #[.string s,.string cs] w fun e w'=>e= .returned (.string ⟨(Lib.trimS s.data.toList cs.data.toList).toArray⟩)/\RowKit.Below w.heap.size w w'):
  ∀vals r,trimS vals=some r->dV O n vals r:=by
 intro vals r h;unfold trimS at h
 split at h
 ·rename_i s cs
  cases hb:(DD cs&&(yJ s.length 4294967281&&yJ cs.length 4294967281)) with
  | false=>rw [hb] at h;cases h
  | true=>
   rw [hb] at h;simp only [yt,yb] at h;subst h;simp only [yg] at hb;refine oc G1 (by rw [hf];exact fH) ?_
   intro w S args hg dK;obtain ⟨u,v,rfl,h1,h2⟩:=AE dK;obtain ⟨t1,rfl,rfl⟩:=h1;obtain ⟨t2,rfl,rfl⟩:=h2;have mR:=mA hb.2.1;have rI:=mA hb.2.2;rw [xo] at mR rI;rw [hf];refine (hc t1 t2 w (by rw [Lib.size_eq];omega) (by rw [Lib.size_eq];omega) (Wp hb.1)).mono ?_;rintro e w' ⟨rfl,hw⟩;refine ⟨_,rfl,Gu hw,fun S=>Gv ?_⟩;simp only [Lib.trimS,Lib.trimLeftS,Lib.trimRightS];rw [<-yat,Ps,<-yat,Ps]
 ·cases h
def agq (hf:O.ab n=f) (fH:∀args w,(callFunc f args).run O.P w= .ok (.enter f args) w)
  (hc:∀(s:ByteArray) (c:Nat) (w:yi),c<=9223372036854775807->s.size*c<=140737488355328->wm O.P f #[.string s,.int .i64 c] w fun e w'=>e= .returned (.string ⟨(Lib.repeatL s.data.toList c).toArray⟩)/\RowKit.Below w.heap.size w w'):
  ∀vals r,Ag vals=some r->dV O n vals r:=by
 intro vals r h;unfold Ag at h
 split at h
 ·rename_i s c
  cases hb:(yF c 1099511627776&&yF (s.length*c) 1099511627776) with
  | false=>rw [hb] at h;cases h
  | true=>
   rw [hb] at h;simp only [yt,yb] at h;subst h;simp only [yg] at hb;have l1:=yq hb.1;have l2:=yq hb.2;refine oc G1 (by rw [hf];exact fH) ?_
   intro w S args hg dK;obtain ⟨u,v,rfl,h1,h2⟩:=AE dK;obtain ⟨t1,rfl,rfl⟩:=h1;subst h2;rw [hf];rw [xo] at l2;refine (hc t1 c w (by omega) (by rw [Lib.size_eq];omega)).mono ?_;rintro e w' ⟨rfl,hw⟩;exact ⟨_,rfl,Gu hw,fun S=>Gv (X1 _ _).symm⟩
 ·cases h
def ajI (hf:O.ab n=f) (fH:∀args w,(callFunc f args).run O.P w= .ok (.enter f args) w)
  (hc:∀(z:Int) (w:yi),-9223372036854775808<=z->z<=9223372036854775807->Az O w->wm O.P f #[.int .i64 z] w fun e w'=>e= .returned (.string ⟨(Lib.itoa z).toArray⟩)/\Calm w w'):
  ∀vals r,HU vals=some r->dV O n vals r:=by
 intro vals r h;unfold HU at h
 split at h
 ·rename_i z
  cases hb:AD z with
  | false=>rw [hb] at h;cases h
  | true=>
   rw [hb] at h;simp only [yt,yb] at h;subst h;have hz: -9223372036854775808<=z/\z<=9223372036854775807:=by
    cases z with
    | ofNat k=>have:=mA hb;show -9223372036854775808<=(k:Int)/\(k:Int)<=9223372036854775807;omega
    | negSucc k=>have:=mA hb;omega
   refine oc G1 (by rw [hf];exact fH) ?_
   intro w S args hg dK;obtain ⟨u,rfl,h1⟩:=D0 dK;subst h1;rw [hf];refine (hc z w hz.1 hz.2 hg).mono ?_;rintro e w' ⟨rfl,hw⟩;exact ⟨_,rfl,hw,fun S=>Gv (ajF z).symm⟩
 ·cases h
def afe (hf:O.ab n=f) (fH:∀args w,(callFunc f args).run O.P w= .ok (.enter f args) w)
  (hc:∀(z:Nat) (w:yi),z<18446744073709551616->Az O w->wm O.P f #[.int .u64 z,.int .i64 10] w fun e w'=>e= .returned (.string ⟨(Lib.decDigits z).toArray⟩)/\Calm w w'):
  ∀vals r,zU vals=some r->dV O n vals r:=by
 intro vals r h;unfold zU at h
 split at h
 ·rename_i z
  cases hb:yJ z 18446744073709551616 with
  | false=>rw [hb] at h;cases h
  | true=>
   rw [hb] at h;simp only [yt,yb] at h;subst h;refine oc G1 (by rw [hf];exact fH) ?_
   intro w S args hg dK;obtain ⟨u,v,rfl,h1,h2⟩:=AE dK;subst h1;subst h2;rw [hf];refine (hc z w (mA hb) hg).mono ?_;rintro e w' ⟨rfl,hw⟩;exact ⟨_,rfl,hw,fun S=>Gv (PR z).symm⟩
 ·cases h
def ajJ (hf:O.ab n=f) (fH:∀args w,(callFunc f args).run O.P w= .ok (.enter f args) w)
  (hc:∀(s:ByteArray) (z:Int) (w:yi),s.size<=18->Lib.atoi s.data.toList=some z->wm O.P f #[.string s] w fun e w'=>e= .returned (.tuple #[.int .i64 z,.nilIface])/\Calm w w'):
  ∀vals r,HV vals=some r->dV O n vals r:=by
 intro vals r h;unfold HV at h
 split at h
 ·rename_i s
  cases hb:(yJ 0 s.length&&yF s.length 18) with
  | false=>rw [hb] at h;cases h
  | true=>
   rw [hb] at h;simp only [yt] at h;simp only [yg] at hb;have l1:=mA hb.1;have l2:=yq hb.2
   split at h
   ·rename_i z hz;simp only [yb] at h;subst h;refine oc (Dw (by simp [aW])) (by rw [hf];exact fH) ?_
    intro w S args hg dK;obtain ⟨u,rfl,h1⟩:=D0 dK;obtain ⟨t1,rfl,rfl⟩:=h1;rw [xo] at l1 l2;have ha:Lib.atoi t1.data.toList=some (z:Int):=ajG hz l1;rw [hf];refine (hc t1 z w (by rw [Lib.size_eq];exact l2) ha).mono ?_
    simp only [af,aq]
    grind
   ·cases h
 ·cases h
def ahA (hf:O.ab n=f) (fH:∀args w,(callFunc f args).run O.P w= .ok (.enter f args) w)
  (hc:∀(x y:Nat) (w:yi),x<18446744073709551616->y<18446744073709551616->wm O.P f #[.int .u64 x,.int .u64 y] w fun e w'=>e= .returned (.tuple #[.int .u64 ((x*y/18446744073709551616:Nat):Int),.int .u64 ((x*y%18446744073709551616:Nat):Int)])/\w'=w):
  ∀vals r,qO vals=some r->dV O n vals r:=by
 intro vals r h;unfold qO at h
 split at h
 ·rename_i x y
  cases hb:(yJ x 18446744073709551616&&yJ y 18446744073709551616) with
  | false=>rw [hb] at h;cases h
  | true=>
   rw [hb] at h;simp only [yt,yb] at h;subst h;simp only [yg] at hb;refine oc (Dw (by simp [aW])) (by rw [hf];exact fH) ?_
   intro w S args hg dK;obtain ⟨u,v,rfl,h1,h2⟩:=AE dK;subst h1;subst h2;rw [hf];refine (hc x y w (mA hb.1) (mA hb.2)).mono ?_;rintro e w' ⟨rfl,rfl⟩;refine ⟨_,rfl,Calm.refl,fun S=>?_⟩;simp only [af,aq]
   grind
 ·cases h
def ahB (hf:O.ab n=f) (fH:∀args w,(callFunc f args).run O.P w= .ok (.enter f args) w)
  (hc:∀(x:Int) (w:yi),0<=x->x<=18446744073709551615->wm O.P f #[.int .u64 x] w fun e w'=>e= .returned (.int .i64 (Lib.bitLen x.toNat:Nat))/\w'=w):
  ∀vals r,Hg vals=some r->dV O n vals r:=by
 intro vals r h;unfold Hg at h
 split at h
 ·rename_i x
  cases hb:yJ x 18446744073709551616 with
  | false=>rw [hb] at h;cases h
  | true=>
   rw [hb] at h;simp only [yt,yb] at h;subst h
   have:=mA hb
   refine oc Qe (by rw [hf];exact fH) ?_
   intro w S args hg dK;obtain ⟨u,rfl,h1⟩:=D0 dK;subst h1;rw [hf];refine (hc (ybN x) w (yai x) (by show (x:Int)<=_;omega)).mono ?_;rintro e w' ⟨rfl,rfl⟩;refine ⟨_,rfl,Calm.refl,fun S=>?_⟩;rw [PS];rfl
 ·cases h
def ajK (hf:O.ab n=f) (fH:∀args w,(callFunc f args).run O.P w= .ok (.enter f args) w)
  (hc:∀(x:Int) (w:yi),0<=x->x<=18446744073709551615->wm O.P f #[.int .u64 x] w fun e w'=>e= .returned (.int .i64 (64-(Lib.bitLen x.toNat:Nat)))/\w'=w):
  ∀vals r,DZ vals=some r->dV O n vals r:=by
 intro vals r h;unfold DZ at h
 split at h
 ·rename_i x
  cases hb:yJ x 18446744073709551616 with
  | false=>rw [hb] at h;cases h
  | true=>
   rw [hb] at h;simp only [yt,yb] at h;subst h
   have:=mA hb
   have hle:∀f x,Lib.bitLenAux f x<=f:=by
    intro f
    induction f with
    | zero=>intro x;exact yA _
    | succ f ih=>
     intro x;rw [Lib.bitLenAux]
     grind
   refine oc Qe (by rw [hf];exact fH) ?_
   intro w S args hg dK;obtain ⟨u,rfl,h1⟩:=D0 dK;subst h1;rw [hf];refine (hc (ybN x) w (yai x) (by show (x:Int)<=_;omega)).mono ?_;rintro e w' ⟨rfl,rfl⟩;refine ⟨_,rfl,Calm.refl,fun S=>?_⟩;simp only [af,PS];show Value.int .i64 (64-(Lib.bitLenAux 64 x:Int))=Value.int .i64 ((64-Lib.bitLenAux 64 x:Nat):Int)
   grind
 ·cases h
def afH (hf:O.ab n=f) (hc:∀(b:Nat) (w:yi),(callFunc f #[.float .f64 b]).run O.P w= .ok (.value (.int .u64 b)) w):
  ∀vals r,KR vals=some r->dV O n vals r:=by
 intro vals r h;unfold KR at h
 split at h
 ·rename_i b;simp only [yb] at h;subst h;refine Ky Qe ?_;intro w S args dK;obtain ⟨u,rfl,h1⟩:=D0 dK;simp only [af] at h1;subst h1;rw [hf];exact ⟨_,hc b w,fun S=>rfl⟩
 ·cases h
def afa (hf:O.ab n=f) (hc:∀(b:Nat) (w:yi),(callFunc f #[.int .u64 b]).run O.P w= .ok (.value (.float .f64 b)) w):
  ∀vals r,J0 vals=some r->dV O n vals r:=by
 intro vals r h;unfold J0 at h
 split at h
 ·rename_i b;simp only [yb] at h;subst h;refine Ky al0 ?_;intro w S args dK;obtain ⟨u,rfl,h1⟩:=D0 dK;simp only [af] at h1;subst h1;rw [hf];exact ⟨_,hc b w,fun S=>rfl⟩
 ·cases h
def ahC (hf:O.ab n=f)
  (hc:∀(x y c:Nat) (w:yi),c<=1->(callFunc f #[.int .u64 x,.int .u64 y,.int .u64 c]).run O.P w= .ok (.value (.tuple #[.int .u64 (((x+y+c)%18446744073709551616:Nat):Int),.int .u64 (((x+y+c)/18446744073709551616:Nat):Int)])) w):
  ∀vals r,nn vals=some r->dV O n vals r:=by
 intro vals r h;unfold nn at h
 split at h
 ·rename_i x y c
  cases hb:(yF c 1&&(yJ x 18446744073709551616&&yJ y 18446744073709551616)) with
  | false=>rw [hb] at h;cases h
  | true=>
   rw [hb] at h;simp only [yt,yb] at h;subst h;simp only [yg] at hb;refine Ky (Dw (by simp [aW])) ?_;intro w S args dK;obtain ⟨u,v,z,rfl,h1,h2,h3⟩:=aah dK;subst h1;subst h2;subst h3;rw [hf];refine ⟨_,hc x y c w (yq hb.1),fun S=>?_⟩;simp only [af,aq]
   grind
 ·cases h
def ahD (hf:O.ab n=f)
  (hc:∀(x y b:Nat) (w:yi),b<=1->(callFunc f #[.int .u64 x,.int .u64 y,.int .u64 b]).run O.P w= .ok (.value (.tuple #[.int .u64 (((x+18446744073709551616-y-b)%18446744073709551616:Nat):Int),.int .u64 ((if x<y+b then 1 else 0:Nat):Int)])) w):
  ∀vals r,Al vals=some r->dV O n vals r:=by
 intro vals r h;unfold Al at h
 split at h
 ·rename_i x y c
  cases hb:(yF c 1&&(yJ x 18446744073709551616&&yJ y 18446744073709551616)) with
  | false=>rw [hb] at h;cases h
  | true=>
   rw [hb] at h;simp only [yt,yb] at h;subst h;simp only [yg] at hb;have dR:=yq hb.1;have hy:=mA hb.2.2;refine Ky (Dw (by simp [aW])) ?_;intro w S args dK;obtain ⟨u,v,z,rfl,h1,h2,h3⟩:=aah dK;subst h1;subst h2;subst h3;rw [hf];refine ⟨_,hc x y c w dR,fun S=>?_⟩;simp only [af,aq];refine ⟨_,rfl,_,_,rfl,?_,_,_,rfl,?_,rfl⟩
   ·grind
   ·congr 1
    by_cases h:x<y+c
    ·have:yF (y+c) x=false:=by
      cases hq:yF (y+c) x with
      | false=>rfl
      | true=>have:=yq hq;omega
     grind
    ·rw [yv (by omega),yB h];rfl
 ·cases h
end
end
end
end VE
