import Derived.RangeFuncLeaves
import Derived.OrdersIn
import Derived.Test.YtnilidoboioodaaGreatDoorTac
set_option linter.all false
set_option maxRecDepth 100000
open Array renaming getD_eq_getD_getElem?→xT,getElem?_eq_some_iff→xg
open Bool renaming and_eq_true→yf
open Go renaming Call→uy,Exit→um,Next→tK,Oper→yL,Operand→xe,Program→yK,RoundIn→tT,TypeId→yq,Value→yg,World→yh
open List renaming length_drop→xJ,length_take→yQ,size_toArray→vO
open Nat renaming add_mul→xZ,beq→ym,ble→yx,blt→yF,eq_of_beq_eq_true→yi,eq_of_mul_eq_mul_right→vC,le_of_ble_eq_true→yr,le_refl→yv,le_trans→xi,lt_succ_self→uC,mul_le_mul_right→yS,zero_add→yj
open Option renaming bind_some→xN
open Option.some renaming injEq→yb
open Prod.mk renaming injEq→yk
namespace VE
section
open Go
section
variable {O:bh} {m:Mp} {S:Nat->Prop} {w:yh} {H:Hp} {cH:Nat}
def Iz {hp:Hp} {ct:Nat} {r:AV}:ct<=(et hp ct r).2.2:=by
 cases r<;>simp only [et]<;>omega
def IA:∀{vs:List AV} {hp:Hp} {ct:Nat},ct<=(iz hp ct vs).2.2
 | [],hp,ct=>by simp [iz]
 | v::r,hp,ct=>by
  simp only [iz];have h1:=Iz (hp:=hp) (ct:=ct) (r:=v);have h2:=IA (vs:=r) (hp:=(et hp ct v).2.1) (ct:=(et hp ct v).2.2);omega
def Mw {hp:Hp} {ct:Nat} {r:AV} (hf:∀id o,ap hp id=some o->id<ct):∀id o,ap hp id=some o->ap (et hp ct r).2.1 id=some o:=by
 intro id o h;cases r<;>simp only [et]<;>try exact h
 rw [ep,yE (by have:=hf id o h;omega)];exact h
def TS {hp:Hp} {ct lo:Nat} {r:AV} {u:yg} {bs:List Nat} (hh:aQ O m S w H cH) (hl:cy (et hp ct r).2.1 H) (eU:(et hp ct r).2.2<=cH) (hn:∀id,ct<=id->id<(et hp ct r).2.2->m id=none)
  (hr:fZ O.ab S w lo r u bs) (aY:O.w0.heap.size<=lo) (ma:∀j q,m j=some q->q.b∉bs):
  ∃m' S',aQ O m' S' w H cH/\cJ m m'/\(∀id p,m' id=some p->m id=some p\/(ct<=id/\id<(et hp ct r).2.2/\p.b∈bs))/\ae O.ab m' S' w (et hp ct r).1 u/\(∀b,S b->S' b)/\(∀b,S' b->S b\/b∈bs):=by
 have aP:eF S w w:=fun _ _=>rfl
 cases r with
 | cx ex sz n cs=>
  simp only [et] at hl eU hn;obtain ⟨b,o,c,arr,t,rfl,rfl,h1,h2,h3,h4,h5,h6,h7,h8,h9⟩:=hr;have br:m ct=none:=hn ct (yv _) (uC _);have aml:b<w.heap.size:=(xg.1 h5).1;have lZ:dX O (ew m ct ⟨b,o,c*sz,sz⟩) S w ct (.cells true true ex sz cs):=by
   refine ⟨_,arr,t,cV,h5,rfl,?_,h7,fun hx=>?_,rn (fun _ h=>h) aP cs b o h9 rfl h8,fun _=>h9,fun _=>h4,by simp⟩
   ·show cs.length<=c*sz
    rw [h6];exact yS _ h1
   ·grind
  obtain ⟨S',k1,k2,k3⟩:=adI (p:=⟨b,o,c*sz,sz⟩) hh br (by omega) aml (by show _<=b;omega) h4 (fun j q hq e=>ma j q hq (by rw [e];simp)) (fun o' gi=>by
   obtain ⟨O0,g1,g2⟩:=hl ct (.cells true true ex sz cs) (by rw [ep];simp)
   rw [gi] at g1;injection g1 with g1
   subst g1
   exact Lf (p:=⟨b,o,c*sz,sz⟩) g2 cV lZ (by simp [fV]))
  refine ⟨_,S',k1,gB br,fun id p an=>?_,?_,k2,fun b' bK=>(k3 b' bK).imp (fun h=>h) (fun h=>by rw [h];simp)⟩
  ·by_cases hc:id=ct
   ·subst hc;rw [cV] at an;injection an with an
    subst an;exact .inr ⟨yv _,by simp [et],by simp⟩
   ·rw [dD hc] at an;exact .inl an
  ·simp only [et,ae];exact ⟨_,c,cV,by simp,h1,by simp⟩
 | _=>
  exact ⟨m,S,hh,cJ.refl,fun _ _ h=> .inl h,nA (fun _ h=>h) aP _ _ hr.2.2 hr.2.1,fun _ h=>h,fun _ h=> .inl h⟩
def Ez {hp:Hp} {ct:Nat} {r:AV} (hf:∀id o,ap hp id=some o->id<ct):∀id o,ap (et hp ct r).2.1 id=some o->id<(et hp ct r).2.2:=by
 intro id o h;cases r<;>simp only [et] at h ⊢<;>try exact hf id o h
 rw [ep] at h
 grind
def IB:∀{vs:List AV} {hp:Hp} {ct:Nat},(∀id o,ap hp id=some o->id<ct)->∀id o,ap hp id=some o->ap (iz hp ct vs).2.1 id=some o
 | [],hp,ct,_,id,o,h=>by simpa [iz] using h
 | v::r,hp,ct,hf,id,o,h=>by
  exact IB (Ez hf) id o (Mw hf id o h)
def TU {lo:Nat} (aY:O.w0.heap.size<=lo):∀{vs:List AV} {us:List yg} {bs:List Nat} {hp:Hp} {ct:Nat} {m:Mp} {S:Nat->Prop},aQ O m S w H cH->cy (iz hp ct vs).2.1 H->(iz hp ct vs).2.2<=cH->
  (∀id o,ap hp id=some o->id<ct)->(∀id,ct<=id->id<(iz hp ct vs).2.2->m id=none)->
  jh O.ab S w lo vs us bs->bs.Nodup->(∀j q,m j=some q->q.b∉bs)->
  ∃m' S',aQ O m' S' w H cH/\cJ m m'/\(∀id p,m' id=some p->m id=some p\/(ct<=id/\id<(iz hp ct vs).2.2/\p.b∈bs))/\au O.ab m' S' w (iz hp ct vs).1 us/\(∀b,S b->S' b)/\(∀b,S' b->S b\/b∈bs)
 | [],us,bs,hp,ct,m,S,hh,hl,eU,hf,hn,hr,jk,ma=>by
  simp only [jh] at hr;exact ⟨m,S,hh,cJ.refl,fun _ _ h=> .inl h,by simp only [iz,au];exact hr.1,fun _ h=>h,fun _ h=> .inl h⟩
 | v::r,us,bs,hp,ct,m,S,hh,hl,eU,hf,hn,hr,jk,ma=>by
  simp only [jh] at hr;obtain ⟨u,t,b1,b2,rfl,rfl,h1,h2⟩:=hr;simp only [iz] at hl eU hn ⊢;have dE:=Iz (hp:=hp) (ct:=ct) (r:=v);have pg:=IA (vs:=r) (hp:=(et hp ct v).2.1) (ct:=(et hp ct v).2.2);rw [List.nodup_append] at jk;obtain ⟨m1,S1,k1,k2,k3,k4,k5,k6⟩:=TS (hp:=hp) (ct:=ct) (lo:=lo) hh ((fun id o h=>hl id o (IB (Ez hf) id o h))) (by omega) (fun id g1 g2=>hn id g1 (by omega)) h1 aY
   (fun j q hq hb=>ma j q hq (by simp [hb]))
  have h2':jh O.ab S1 w lo r t b2:=by
   clear k4;have NN:∀b,S1 b->S b\/b∈b1:=k6;have hd:∀b,b∈b2->b∉b1:=fun b hb iC=>jk.2.2 b iC b hb rfl
   have one:∀{v:AV} {u:yg} {bb:List Nat},(∀b,b∈bb->b∉b1)->fZ O.ab S w lo v u bb->fZ O.ab S1 w lo v u bb:=by
    intro v u bb oW h
    cases v with
    | cx ex sz n cs=>
     simp only [fZ] at h ⊢;obtain ⟨b,o,c,arr,tt,rfl,rfl,g1,g2,g3,g4,g5,g6,g7,g8,g9⟩:=h;exact ⟨b,o,c,arr,tt,rfl,rfl,g1,g2,g3,fun hs=>(NN b hs).elim g4 (oW b (by simp)),g5,g6,g7,rn k5 (fun _ _=>rfl) cs b o g9 rfl g8,g9⟩
    | _=>simp only [fZ] at h ⊢;exact ⟨h.1,nA k5 (fun _ _=>rfl) _ _ h.2.2 h.2.1,h.2.2⟩
   clear k1 k2 k3 hl eU hn ma jk;revert hd h2;generalize b2=bb
   induction r generalizing t bb with
   | nil=>intro h2 hd;simpa only [jh] using h2
   | cons v' r ih=>
    intro h2 hd;simp only [jh] at h2 ⊢;obtain ⟨u',t',c1,c2,rfl,rfl,g1,g2⟩:=h2
    exact ⟨u',t',c1,c2,rfl,rfl,one (fun b hb=>hd b (by simp [hb])) g1,ih _ (by
     have:=IA (vs:=r) (hp:=(et hp ct v).2.1) (ct:=(et hp ct v).2.2)
     exact this) _ g2 (fun b hb=>hd b (by simp [hb]))⟩
  obtain ⟨m2,S2,g1,g2,g3,g4,g5,g6⟩:=TU aY (vs:=r) (us:=t) (bs:=b2) (m:=m1) (S:=S1) k1 hl eU (Ez hf) (fun id q1 q2=>by
   cases hq:m1 id with
   | none=>rfl
   | some p=>
    rcases k3 id p hq with h | ⟨_,h,_⟩
    ·rw [hn id (by omega) q2] at h;cases h
    ·omega) h2' jk.2.1 (fun j q hq hb=>by
     rcases k3 j q hq with h | ⟨_,_,h⟩
     ·exact ma j q h (by simp [hb])
     ·exact jk.2.2 q.b h q.b hb rfl)
  refine ⟨m2,S2,g1,k2.trans g2,fun id p an=>?_,?_,fun b hb=>g5 b (k5 b hb),fun b hb=>?_⟩
  ·rcases g3 id p an with h | ⟨a1,a2,a3⟩
   ·rcases k3 id p h with h | ⟨a1,a2,a3⟩
    ·exact .inl h
    ·exact .inr ⟨a1,by omega,by simp [a3]⟩
   ·exact .inr ⟨by omega,a2,by simp [a3]⟩
  ·simp only [au];exact ⟨u,t,rfl,jr g2 g5 (fun _ _=>rfl) _ _ k4,g4⟩
  ·rcases g6 b hb with h | h
   ·exact (k6 b h).imp (fun h=>h) (fun h=>by simp [h])
   ·exact .inr (by simp [h])
def ahK {hp:Hp} {ct lo:Nat} {r:AV} {u:yg} (hh:aQ O m S w H cH) (hl:cy (own hp ct r).2.1 H) (eU:(own hp ct r).2.2<=cH) (hf:∀id o,ap hp id=some o->id<ct)
  (hn:∀id,ct<=id->id<(own hp ct r).2.2->m id=none) (hr:lM O.ab S w lo r u) (aY:O.w0.heap.size<=lo) (Gy:∀j q,m j=some q->q.b<lo):
  ∃m' S',aQ O m' S' w H cH/\cJ m m'/\(∀id p,m' id=some p->m id=some p\/(ct<=id/\id<(own hp ct r).2.2/\lo<=p.b))/\ae O.ab m' S' w (own hp ct r).1 u/\(∀b,S b->S' b)/\(∀b,S' b->S b\/lo<=b):=by
 have one:∀(r:AV) (bs:List Nat),own hp ct r=et hp ct r->fZ O.ab S w lo r u bs->cy (own hp ct r).2.1 H->(own hp ct r).2.2<=cH->(∀id,ct<=id->id<(own hp ct r).2.2->m id=none)->
   ∃m' S',aQ O m' S' w H cH/\cJ m m'/\(∀id p,m' id=some p->m id=some p\/(ct<=id/\id<(own hp ct r).2.2/\lo<=p.b))/\ae O.ab m' S' w (own hp ct r).1 u/\(∀b,S b->S' b)/\(∀b,S' b->S b\/lo<=b):=by
  intro r bs he hr hl eU hn;rw [he] at hl eU hn ⊢;have AA:=Mu hr;obtain ⟨m',S',k1,k2,k3,k4,k5,k6⟩:=TS hh hl eU hn hr aY (fun j q hq hb=>by have:=Gy j q hq;have:=(AA _ hb).1;omega)
  exact ⟨m',S',k1,k2,fun id p h=>(k3 id p h).imp (fun h=>h) (fun h=>⟨h.1,h.2.1,(AA _ h.2.2).1⟩),k4,k5,fun b hb=>(k6 b hb).imp (fun h=>h) (fun h=>(AA _ h).1)⟩
 cases r with
 | av vs=>
  simp only [own] at hl eU hn ⊢;simp only [lM] at hr;obtain ⟨us,bs,rfl,h1,h2⟩:=hr;have AA:=Mv h1;obtain ⟨m',S',k1,k2,k3,k4,k5,k6⟩:=TU aY hh hl eU hf hn h1 h2 (fun j q hq hb=>by have:=Gy j q hq;have:=(AA _ hb).1;omega)
  exact ⟨m',S',k1,k2,fun id p h=>(k3 id p h).imp (fun h=>h) (fun h=>⟨h.1,h.2.1,(AA _ h.2.2).1⟩),by simp only [ae];exact ⟨us,rfl,k4⟩,k5,fun b hb=>(k6 b hb).imp (fun h=>h) (fun h=>(AA _ h).1)⟩
 | _=>
  simp only [lM] at hr;obtain ⟨bs,hr⟩:=hr;exact one _ bs rfl hr hl eU hn
end
end
section
open Go
section
variable {O:bh} {m m':Mp} {S:Nat->Prop} {w:yh} {f:Nat->Option Nat}
def B3 (f:Nat->Option Nat) (m m':Mp):Prop:=∀id j,f id=some j->m' j=m id
mutual
def TV {ab:Nat->Nat} (hf:B3 f m m'):∀(v:AV) (u:yg),ae ab m S w v u->ae ab m' S w (bJ f v) u
 | .int _ _,_,h | .bool _,_,h | .aD _ _,_,h | .c9 _ _ _,_,h | .str _,_,h | .jB,_,h | .af,_,h | .gK,_,h | .iO,_,h | .undef,_,h=>by
  simpa only [bJ,ae] using h
 | .ptr id o,u,h=>by
  simp only [bJ]
  cases hi:f id with
  | none=>simp only [ae]
  | some j=>
   simp only [ae] at h ⊢;rw [hf id j hi];exact h
 | .bR cs,u,h=>by
  simp only [bJ];exact nA (fun _ h=>h) (fun _ _=>rfl) _ _ (by simp [aX]) h
 | .aq ex n cs,u,h=>by
  simp only [bJ];exact nA (fun _ h=>h) (fun _ _=>rfl) _ _ (by simp [aX]) h
 | .cx _ _ _ _,u,h=>by simp only [ae] at h
 | .ay id o n,u,h=>by
  simp only [bJ]
  cases hi:f id with
  | none=>simp only [ae]
  | some j=>
   simp only [ae] at h ⊢;rw [hf id j hi];exact h
 | .fn (.f g) first cap,u,h=>by
  simp only [bJ,ae] at h ⊢;obtain ⟨fi,ca,h1,h2,h3⟩:=h;exact ⟨fi,ca,h1,rE hf first _ h2,rE hf cap _ h3⟩
 | .fn (.y l) first cap,u,h=>by
  simp only [bJ]
  cases hi:f l with
  | none=>simp only [ae]
  | some j=>
   simp only [ae] at h ⊢;rw [hf l j hi];exact h
 | .map id,u,h=>by
  simp only [bJ]
  cases hi:f id with
  | none=>simp only [ae]
  | some j=>
   simp only [ae] at h ⊢;rw [hf id j hi];exact h
 | .iP ks vs,u,h=>by
  simp only [bJ];exact nA (fun _ h=>h) (fun _ _=>rfl) _ _ (by simp [aX]) h
 | .it id,u,h=>by
  simp only [bJ]
  cases hi:f id with
  | none=>simp only [ae]
  | some j=>
   simp only [ae] at h ⊢;rw [hf id j hi];exact h
 | .agg cs,u,h=>by
  simp only [bJ,ae] at h ⊢;obtain ⟨xs,h1,h2⟩:=h;exact ⟨xs,h1,rE hf cs _ h2⟩
 | .av cs,u,h=>by
  simp only [bJ,ae] at h ⊢;obtain ⟨xs,h1,h2⟩:=h;exact ⟨xs,h1,rE hf cs _ h2⟩
def rE {ab:Nat->Nat} (hf:B3 f m m'):∀(vs:List AV) (us:List yg),au ab m S w vs us->au ab m' S w (eG f vs) us
 | [],us,h=>by simpa only [eG,au] using h
 | v::r,us,h=>by
  simp only [eG,au] at h ⊢;obtain ⟨u,t,h1,h2,h3⟩:=h;exact ⟨u,t,h1,TV hf v u h2,rE hf r t h3⟩
end
def abN {ab:Nat->Nat} (hf:B3 f m m') {cs:List AV} {b o:Nat} (h:bF ab m S w cs b o):bF ab m' S w (eG f cs) b o:=by
 obtain ⟨us,h1,_,h3⟩:=nZ cs b o h;exact BA _ us o (rE hf cs us h1) h3
def L6:∀cs:List AV,(eG f cs).length=cs.length
 | []=>rfl
 | c::r=>by simp [eG,L6 r]
def SM:∀(tm:Env) (i:Nat),ah (jf f tm) i=bJ f (ah tm i)
 | [],i=>by simp [jf,ah,bJ]
 | (j,v)::r,i=>by
  simp only [jf,ah]
  cases ym j i with
  | true=>rfl
  | false=>exact SM r i
def R2 (tm:Env) (i:Nat):∀live:List Nat,ah (dd tm live) i=ah tm i\/ah (dd tm live) i= .undef
 | []=> .inr rfl
 | j::r=>by
  simp only [dd,ah]
  cases hb:ym j i with
  | true=>rw [yi hb];exact .inl rfl
  | false=>exact R2 tm i r
def SN {tm:Env} {tmps:Array yg} (hf:B3 f m m') (h:bH O m S w tm tmps):bH O m' S w (jf f tm) tmps:=fun i=>by
 rw [SM];exact TV hf _ _ (h i)
def adJ {id j:Nat} {o:Obj} {p:Pl} (hf:B3 f m m') (hm:m id=some p) (hj:m' j=some p) (h:dX O m S w id o):dX O m' S w j (jC f o):=by
 cases o with
 | cells rw pu ex sz cs=>
  obtain ⟨q,arr,t,h1,h2,h3,h4,h5,h6,h7,h8,h9,fH⟩:=h;rw [hm] at h1;injection h1 with h1;subst h1
  cases pu with
  | true=>exact ⟨p,arr,t,hj,h2,h3,h4,h5,h6,rn (fun _ h=>h) (fun _ _=>rfl) _ _ _ (h8 rfl) rfl h7,h8,h9,fH⟩
  | false=>exact ⟨p,arr,t,hj,h2,h3,by rw [yI,L6];exact h4,h5,by rw [yI,L6];exact h6,abN hf h7,by simp,h9,fH⟩
 | mp rw ks vs=>
  obtain ⟨q,es,clock,h1,h2,h3,h4,h5,h6⟩:=h;rw [hm] at h1;injection h1 with h1;subst h1
  exact ⟨p,es,clock,hj,h2,rE hf _ _ h3,rE hf _ _ h4,h5,h6⟩
 | si s pos=>
  obtain ⟨q,t,h1,h2,h3,h4⟩:=h;rw [hm] at h1;injection h1 with h1;subst h1
  exact ⟨p,t,hj,h2,h3,h4⟩
 | lp tm ps cf body st pe=>
  obtain ⟨q,l,hi,h1,h2,h3,h4,h5,h6,h7,h8⟩:=h;rw [hm] at h1;injection h1 with h1;subst h1
  exact ⟨p,l,hi,hj,h2,h3,h4,h5,h6,SN hf h7,h8⟩
def R3 {i:Nat}:∀{l:List Nat} {k j:Nat},jE i l k=some j->k<=j/\l[j-k]? =some i
 | [],k,j,h=>by simp [jE] at h
 | x::r,k,j,h=>by
  simp only [jE] at h
  cases hb:ym x i with
  | true=>
   simp_all
  | false=>
   rw [hb] at h;obtain ⟨h1,h2⟩:=R3 h
   grind
def my {a b:Nat}:yF a b=true↔a<b:=by simp_all
def HE {hp:Hp} {j:Nat} {o':Obj}:∀{l:List Nat} {k:Nat} {acc:Hp},ap (jb hp f l k acc) j=some o'->
  (∃i id o,l[i]? =some id/\j=k+i/\ap hp id=some o/\o'=jC f o)\/ap acc j=some o'
 | [],k,acc,h=> .inr h
 | x::r,k,acc,h=>by
  simp only [jb] at h
  cases hx:ap hp x with
  | none=>
   simp only [hx] at h;rcases HE h with ⟨i,id,o,h1,h2,h3,h4⟩ | h
   ·exact .inl ⟨i+1,id,o,by simpa using h1,by omega,h3,h4⟩
   ·grind
  | some o=>
   simp only [hx] at h;rcases HE h with ⟨i,id,o,h1,h2,h3,h4⟩ | h
   ·exact .inl ⟨i+1,id,o,by simpa using h1,by omega,h3,h4⟩
   ·rw [ep] at h;by_cases hc:k=j
    ·simp only [hc,xm,yb] at h;exact .inl ⟨0,x,o,by simp,by omega,hx,h.symm⟩
    ·grind
def HF {base:Nat} {j:Nat} {o':Obj}:∀{hp:Hp},ap (jY base f hp) j=some o'->j<base/\∃o,ap hp j=some o/\o'=jC f o
 | [],h=>by simp [jY,ap] at h
 | (i,q)::r,h=>by
  simp only [jY] at h
  cases hb:yF i base with
  | true=>
   rw [hb] at h;simp only [yp] at h;rw [ep] at h;by_cases hc:i=j
   ·simp only [hc,xm,yb] at h;exact ⟨by rw [<-hc];exact my.1 hb,q,by rw [ep];simp [hc],h.symm⟩
   ·simp only [hc,y8] at h;obtain ⟨h1,o,h2,h3⟩:=HF h;exact ⟨h1,o,by rw [ep];simp [hc,h2],h3⟩
  | false=>
   rw [hb] at h;obtain ⟨h1,o,h2,h3⟩:=HF h;have hc:¬i=j:=fun e=>by
    have:=my.2 h1
    grind
   exact ⟨h1,o,by rw [ep];simp [hc,h2],h3⟩
def mM (m:Mp) (base:Nat) (seen:List Nat):Mp:=fun j=>
 if j<base then m j else match seen[j-base]? with
  | some id=>if ja base seen id=some j then m id else none
  | none=>none
def LJ {base:Nat} {seen:List Nat} {j:Nat} {p:Pl} (h:mM m base seen j=some p):∃id,ja base seen id=some j/\m id=some p/\(j<base->id=j):=by
 unfold mM at h
 split at h
 ·rename_i hj;exact ⟨j,by simp [ja,my.2 hj],h,fun _=>rfl⟩
 ·grind
def adK {base:Nat} {seen:List Nat}:B3 (ja base seen) m (mM m base seen):=by
 intro id j h;have h0:=h;unfold ja at h
 cases hb:yF id base with
 | true=>
  rw [hb] at h;simp only [yp,yb] at h;subst h;simp [mM,my.1 hb]
 | false=>
  rw [hb] at h;obtain ⟨h1,h2⟩:=R3 h
  have:¬j<base:=by omega
  simp only [mM,this,y8,h2,h0,xm]
def Lr {s:St} {tmps:Array yg} {live:List Nat} (ht:bH O m S w s.tm tmps) (hh:aQ O m S w s.hp s.ct) (hb:s.base<=s.ct):
  ∃m',bH O m' S w (aV live s).tm tmps/\aQ O m' S w (aV live s).hp (aV live s).ct/\(aV live s).base=s.base/\s.base<=(aV live s).ct/\bM m S w s.hp m' S w (aV live s).hp s.base:=by
 simp only [aV];generalize Vd:reach s.hp s.base 100000 (hZ (dd s.tm live)++gY s.base s.hp) []=seen;have hr:=adK (m:=m) (base:=s.base) (seen:=seen);have aO:∀j p,mM m s.base seen j=some p->j<s.base+seen.length:=by
  intro j p h;unfold mM at h
  grind
 have back:∀j o' p,ap (jb s.hp (ja s.base seen) seen s.base (jY s.base (ja s.base seen) s.hp)) j=some o'->mM m s.base seen j=some p->
   ∃id o,ja s.base seen id=some j/\ap s.hp id=some o/\m id=some p/\o'=jC (ja s.base seen) o:=by
  intro j o' p ho hm;obtain ⟨id,h1,h2,h3⟩:=LJ hm;rcases HE ho with ⟨i,O7,o,g1,g2,g3,g4⟩ | ho
  ·have hj:¬j<s.base:=by omega
   have:mM m s.base seen j=if ja s.base seen O7=some j then m O7 else none:=by
    simp only [mM,hj,y8,show j-s.base=i by omega,g1]
   grind
  ·obtain ⟨g1,o,g2,g3⟩:=HF ho
   grind
 refine ⟨mM m s.base seen,?_,⟨?_,aO,?_,hh.slt,?_,?_,hh.jF,hh.eK,fun j o' ho=>(by
  rcases HE ho with ⟨i,O7,o,g1,g2,g3,g4⟩ | ho
  ·grind
  ·have:=(HF ho).1;omega)⟩,by trivial,by omega,⟨rfl,rfl,rfl,yv _,fun _ _ _=>rfl,fun _ h=>h,fun _ _=>rfl,fun _ h=> .inl h,?_,?_,fun _ r h=>⟨r,h⟩⟩⟩
 ·refine SN hr (fun i=>?_);rcases R2 s.tm i live with h | h
  ·rw [h];exact ht i
  ·rw [h];simp only [ae]
 ·intro j o' p ho hm;obtain ⟨id,o,h1,h2,h3,rfl⟩:=back j o' p ho hm;exact adJ hr h3 hm (hh.obj id o p h2 h3)
 ·intro i j oi oj pi pj hi hj br eV e;obtain ⟨idi,o1,a1,a2,a3,_⟩:=back i oi pi hi br;obtain ⟨idj,o2,b1,b2,b3,_⟩:=back j oj pj hj eV
  have:=hh.inj idi idj o1 o2 pi pj a2 b2 a3 b3 e
  grind
 ·intro j p hm;obtain ⟨id,_,h2,_⟩:=LJ hm;exact hh.blt id p h2
 ·intro j p hm;obtain ⟨id,_,h2,_⟩:=LJ hm;exact hh.low id p h2
 ·rintro b ⟨j,o',p,h1,h2,h3⟩;obtain ⟨id,o,_,g2,g3,_⟩:=back j o' p h1 h2;exact .inl ⟨id,o,p,g2,g3,h3⟩
 ·intro id p hid hm;simp [mM,hid,hm]
end
end
section
open Go
section
variable {O:bh} {m:Mp} {S:Nat->Prop} {w:yh} {hp:Hp} {ct:Nat}
def SO (hh:aQ O m S w hp ct) (id:Nat):aQ O m S w (dc hp id) ct:=by
 have sub:∀i o,ap (dc hp id) i=some o->ap hp i=some o:=fun i o h=>by
  rw [Ef] at h
  grind
 exact ⟨fun i o p h hm=>hh.obj i o p (sub i o h) hm,hh.lt,fun i j oi oj pi pj hi hj=>hh.inj i j oi oj pi pj (sub i oi hi) (sub j oj hj),hh.slt,hh.blt,hh.low,hh.jF,hh.eK,fun i o h=>hh.aO i o (sub i o h)⟩
def TW {id b:Nat} (h:dB m (dc hp id) b):dB m hp b:=by
 obtain ⟨i,o,p,h1,h2,h3⟩:=h;rw [Ef] at h1;by_cases hc:id=i
 ·grind
 ·simp only [hc,y8] at h1;exact ⟨i,o,p,h1,h2,h3⟩
def QD (hh:aQ O m S w hp ct) {id:Nat} {o:Obj} {p:Pl} (hg:ap hp id=some o) (hm:m id=some p):¬dB m (dc hp id) p.b:=by
 rintro ⟨i,o',q,h1,h2,h3⟩;rw [Ef] at h1;by_cases hc:id=i
 ·grind
 ·simp only [hc,y8] at h1;exact hc (hh.inj i id o' o q p h1 hg h2 hm h3).symm
def afH {an:Hp} (hd:iJ hp an) {b:Nat} (h:dB m an b):dB m hp b:=by
 obtain ⟨i,o,p,h1,h2,h3⟩:=h
 have:=hd i
 rw [h1] at this
 cases hq:ap hp i with
 | none=>rw [hq] at this;cases this
 | some q=>exact ⟨i,q,p,hq,h2,h3⟩
def Q6 {lo:Nat} {v v':AV} {an:Hp} {n:Nat} (hh:aQ O m S w hp ct) (hf:freeze n hp v=some (v',an)) {u:yg} (hv:ae O.ab m S w v u):
  ∃S',aQ O m S' w an ct/\(∀b,S b->S' b)/\(∀b,S' b->S b\/dB m hp b)/\aX v'=true/\ae O.ab dS S' w v' u/\fZ O.ab S' w lo v' u []:=by
 obtain ⟨h1,h2,h3⟩:=LF (O:=O) hf;obtain ⟨S',g1,g2,g3⟩:=TM hh h1 (fun id o p ho hm=>by
  have:=h2 id
  rw [ho] at this
  cases hq:ap hp id with
  | none=>rw [hq] at this;cases this
  | some q=>exact ⟨q,rfl⟩) (yv _) (fun id o ho=>(by
  have:=h2 id
  rw [ho] at this
  cases hq:ap hp id with
  | none=>rw [hq] at this;cases this
  | some q=>exact hh.aO id q hq))
 obtain ⟨k1,k2⟩:=h3 an m S' w ct cy.refl g1;have hr:=k1 u (jr (fun _ _ h=>h) g2 (fun _ _=>rfl) v u hv);have b9:ae O.ab dS S' w v' u:=nA (fun _ h=>h) (fun _ _=>rfl) v' u k2 hr;refine ⟨S',g1,g2,g3,k2,b9,?_⟩
 cases v' with
 | cx _ _ _ _=>simp [aX] at k2
 | _=>exact ⟨rfl,b9,k2⟩
def abO {S':Nat->Prop} {lo:Nat} {v:AV} {u:yg} {bs:List Nat} (hS:∀b,S b->S' b) (hn:∀b,b∈bs->¬S' b) (h:fZ O.ab S w lo v u bs):fZ O.ab S' w lo v u bs:=by
 cases v with
 | cx ex sz n cs=>
  obtain ⟨b,o,c,arr,t,rfl,rfl,g1,g2,g3,g4,g5,g6,g7,g8,g9⟩:=h;exact ⟨b,o,c,arr,t,rfl,rfl,g1,g2,g3,hn b (by simp),g5,g6,g7,rn hS (fun _ _=>rfl) cs b o g9 rfl g8,g9⟩
 | _=>simp only [fZ] at h ⊢;exact ⟨h.1,nA hS (fun _ _=>rfl) _ _ h.2.2 h.2.1,h.2.2⟩
def R4 {lo:Nat} {v v':AV} {an:Hp} {n:Nat} (hh:aQ O m S w hp ct) (hf:pL n hp v=some (v',an)) {u:yg} (hv:ae O.ab m S w v u) (aY:∀b,dB m hp b->lo<=b):
  ∃S' bs,aQ O m S' w an ct/\(∀b,S b->S' b)/\(∀b,S' b->S b\/dB m hp b)/\fZ O.ab S' w lo v' u bs/\bs.Nodup/\(∀b,b∈bs->dB m hp b/\¬dB m an b)/\(∀b,dB m an b->dB m hp b):=by
 have frozen:freeze n hp v=some (v',an)->∃S' bs,aQ O m S' w an ct/\(∀b,S b->S' b)/\(∀b,S' b->S b\/dB m hp b)/\fZ O.ab S' w lo v' u bs/\bs.Nodup/\(∀b,b∈bs->dB m hp b/\¬dB m an b)/\(∀b,dB m an b->dB m hp b):=by
  intro hz;obtain ⟨S',g1,g2,g3,g4,g5,g6⟩:=Q6 (lo:=lo) hh hz hv
  exact ⟨S',[],g1,g2,g3,g6,by simp,by simp,fun b hb=>afH (LF (O:=O) hz).2.1 hb⟩
 unfold pL at hf
 split at hf
 ·rename_i id o k
  split at hf
  ·rename_i ex sz cs hg
   cases hc:yx (o+k*sz) cs.length with
   | false=>rw [hc] at hf;cases hf
   | true=>
    rw [hc] at hf;obtain ⟨rfl,rfl⟩:=hf;have hle:=yr hc;obtain ⟨p,c,hm,rfl,h1,h2⟩:=hv;obtain ⟨p',arr,t,g1,g2,g3,g4,g5,g6,g7,g8,g9,g10⟩:=hh.obj id _ _ hg hm;rw [hm] at g1;injection g1 with g1
    subst g1;rw [g3] at h2;refine ⟨S,[p.b],SO hh id,fun _ h=>h,fun _ h=> .inl h,?_,by simp,?_,fun b hb=>TW hb⟩
    ·refine ⟨p.b,p.o+o,c,arr,t,rfl,rfl,h1,?_,aY _ (EL hg hm),g9 rfl,g2,?_,by omega,?_,rm _ (pC _ _ (g8 rfl))⟩
     ·intro hx;simp only [yf] at hx;have e1:=yi hx.2;have e2:=my.1 hx.1.2;have e3:=g6 hx.1.1
      have:c*sz=k*sz:=by omega
      exact vC e2 this
     ·simp only [slice,yQ,xJ];omega
     ·exact rn (fun _ h=>h) (fun _ _=>rfl) _ _ _ (rm _ (pC _ _ (g8 rfl))) rfl (rz _ _ _ _ (ns _ _ _ _ g7))
    ·intro b hb;simp only [List.mem_singleton] at hb;subst hb;exact ⟨EL hg hm,QD hh hg hm⟩
  ·grind
 ·grind
def Q7 {lo n:Nat}:∀{vs dA:List AV} {us:List yg} {hp an:Hp} {S:Nat->Prop},aQ O m S w hp ct->zP n hp vs=some (dA,an)->au O.ab m S w vs us->(∀b,dB m hp b->lo<=b)->
  ∃S' bs,(∀b,S b->S' b)/\(∀b,S' b->S b\/dB m hp b)/\jh O.ab S' w lo dA us bs/\bs.Nodup/\(∀b,b∈bs->dB m hp b)/\(∀b,S' b->b<w.heap.size)
 | [],dA,us,hp,an,S,hh,hf,hv,aY=>by
  obtain ⟨rfl,rfl⟩:=hf;exact ⟨S,[],fun _ h=>h,fun _ h=> .inl h,by simp only [jh];exact ⟨hv,by trivial⟩,by simp,by simp,hh.slt⟩
 | v::r,dA,us,hp,an,S,hh,hf,hv,aY=>by
  simp only [zP] at hf
  cases h1:pL n hp v with
  | none=>simp [h1] at hf
  | some q=>
   obtain ⟨v1,bi⟩:=q;simp only [h1] at hf
   cases h2:zP n bi r with
   | none=>simp [h2] at hf
   | some q2=>
    simp only [h2,yb,yk] at hf;obtain ⟨rfl,rfl⟩:=hf;obtain ⟨u,t,rfl,dT,cZ⟩:=hv;obtain ⟨S1,b1,k1,k2,k3,k4,k5,k6,k7⟩:=R4 (lo:=lo) hh h1 dT aY;obtain ⟨S2,b2,g1,g2,g3,g4,g5,g6⟩:=Q7 (us:=t) k1 h2 (fu (fun _ _ h=>h) k2 (fun _ _=>rfl) _ _ cZ) (fun b hb=>aY b (k7 b hb));have NN:∀b,b∈b1->¬S2 b:=by
     intro b hb hs;rcases g2 b hs with h | h
     ·cases v1 with
      | cx ex sz n cs=>
       simp only [fZ] at k4
       grind
      | _=>simp only [fZ] at k4;rw [k4.1] at hb;cases hb
     ·grind
    refine ⟨S2,b1++b2,fun b hb=>g1 b (k2 b hb),fun b hb=>?_,?_,?_,?_,g6⟩
    ·grind
    ·simp only [jh];exact ⟨u,t,b1,b2,rfl,rfl,abO g1 NN k4,g3⟩
    ·grind
    ·grind
def LK {lo:Nat}:∀{cs:List AV} {us:List yg},aC cs=true->au O.ab dS S w cs us->jh O.ab S w lo cs us []
 | [],us,_,h=>by simp only [au] at h;exact ⟨h,by trivial⟩
 | c::r,us,hp,h=>by
  obtain ⟨u,t,rfl,h1,h2⟩:=h;simp only [aC,yf] at hp;refine ⟨u,t,[],[],rfl,rfl,?_,LK hp.2 h2⟩
  cases c with
  | cx _ _ _ _=>simp [aX] at hp
  | _=>exact ⟨rfl,h1,hp.1⟩
def abP {lo:Nat} {v r:AV} {u:yg} (hh:aQ O m S w hp ct) (hr:result hp v=some r) (hv:ae O.ab m S w v u) (aY:∀b,dB m hp b->lo<=b):
  ∃S',(∀b,S b->S' b)/\(∀b,S' b->S b\/dB m hp b)/\(∀b,S' b->b<w.heap.size)/\lM O.ab S' w lo r u:=by
 unfold result at hr
 split at hr
 ·rename_i vs
  split at hr
  ·cases h1:zP deep hp vs with
   | none=>simp [h1] at hr
   | some q=>
    simp only [h1,yb] at hr;subst hr;obtain ⟨us,rfl,hv⟩:=hv;obtain ⟨S',bs,g1,g2,g3,g4,g5,g6⟩:=Q7 (lo:=lo) hh h1 hv aY;exact ⟨S',g1,g2,g6,us,bs,rfl,g3,g4⟩
  ·cases h1:freeze deep hp (.av vs) with
   | none=>simp [h1] at hr
   | some q=>
    obtain ⟨v',an⟩:=q;simp only [h1,yb] at hr;subst hr;obtain ⟨S',g1,g2,g3,g4,g5,g6⟩:=Q6 (lo:=lo) hh h1 hv;refine ⟨S',g2,g3,g1.slt,?_⟩
    cases v' with
    | av cs=>
     obtain ⟨xs,rfl,g5⟩:=g5;exact ⟨xs,[],rfl,LK (by simpa [aX] using g4) g5,by simp⟩
    | _=>exact ⟨[],g6⟩
 ·rename_i Kp
  cases h1:pL deep hp v with
  | none=>simp [h1] at hr
  | some q=>
   obtain ⟨v',an⟩:=q;simp only [h1,yb] at hr;subst hr;obtain ⟨S',bs,g1,g2,g3,g4,_⟩:=R4 (lo:=lo) hh h1 hv aY;refine ⟨S',g2,g3,g1.slt,?_⟩
   cases v' with
   | av cs=>
    obtain ⟨rfl,h2,h3⟩:=g4;obtain ⟨xs,rfl,h2⟩:=h2;exact ⟨xs,[],rfl,LK (by simpa [aX] using h3) h2,by simp⟩
   | _=>exact ⟨bs,g4⟩
end
end
section
open Go
def WF (ro:Option Nat):Fence:={Fence.wide with round:=ro}
section
variable {O:bh}
def UE (O:bh) (hp:Hp) (ct:Nat) (l:Nat) (xs:List AV) (v:AV) (an:Hp) (aT:Nat):Prop:=
 ∀(m:Mp) (S:Nat->Prop) (w:yh) (args:Array yg) (p:Pl),aQ O m S w hp ct->m l=some p->au O.ab m S w xs args.toList->
  ∃f tmps assign body,(Instr.yield p.b args).run O.P w= .ok (.round p.b f tmps assign body) w/\tT Fence.wide 0 O.P p.b f tmps assign body w (pE O m S w hp ct v an aT)
structure lC (O:bh) (run:bZ):Prop where
 pure:∀n aj r,bA O.prog O.aG run n aj=some r->dG O n aj r
 heap:∀hp ct n aj v an aT,gD O.prog O.aG run hp ct n aj=some (v,an,aT)->se O n hp ct aj v an aT
 round:∀hp ct l xs v an aT,lA run hp ct l xs=some (v,an,aT)->UE O hp ct l xs v an aT
end
section
variable {P:yK} {o:yL} {a:Act} {w:yh} {ro:Option Nat} {next:Act->yh->Prop} {Q:um->Act->yh->Prop}
def HG {c:uy} {f:xe} (ho:o.op= .call c) (hc:c.callee= .value f) {g:FuncId} {fi ca:Array yg} (hf:a.eval f= .func (.func g) fi ca) {R:Ending->yh->Prop}
  (h:rL P g (fi++c.args.map a.eval++ca) w R) (hn:∀e w',R e w'->∃u,e= .returned u/\next (a.put o.dst u) w'):o.wpIn (WF ro) 0 P a w next Q:=by
 have de:(o.semAt ro a.eval).run P w=(callFunc g (fi++c.args.map a.eval++ca)).run P w:=by
  rw [Oper.semAt_eq _ _ _ (fun c' h'=>by rw [ho] at h';cases h')];simp only [execOp,ho,resolve,hc,Deferred.ofValue,hf,Sem.run_bind,Sem.run_pure,Result.andThen_ok,invoke]
 refine ⟨fun _ _=>trivial,?_⟩;show o.uponIn (WF ro) 0 P a next Q ((o.semAt ro a.eval).run P w)
 rw [de];rcases h with ⟨h1,h2⟩ | ⟨u,w',h1,h2⟩
 ·rw [h1,Oper.uponIn_enter];refine ⟨fun h=>by simp [WF,Fence.wide] at h,?_⟩;have h3:CallsIn (WF ro) 0 P g (fi++c.args.map a.eval++ca) w R:=h2;refine CallsIn.mono h3 (fun e w' he=>?_);obtain ⟨u,rfl,hq⟩:=hn e w' he;exact hq
 ·rw [h1];obtain ⟨u',e,hq⟩:=hn _ _ h2;injection e with e
  subst e;exact hq
def adL {c:uy} {f:xe} (ho:o.op= .call c) (hc:c.callee= .value f) {l:Nat} (hf:a.eval f= .func (.yield l) #[] #[]) {R:Ending->yh->Prop} {g:FuncId} {tmps:Array yg} {assign body:Code}
  (hy:(Instr.yield l (c.args.map a.eval)).run P w= .ok (.round l g tmps assign body) w) (h:tT Fence.wide 0 P l g tmps assign body w R) (hn:∀e w',R e w'->∃u,e= .returned u/\next (a.put o.dst u) w'):o.wpIn (WF ro) 0 P a w next Q:=by
 have de:(o.semAt ro a.eval).run P w= .ok (.round l g tmps assign body) w:=by
  rw [Oper.semAt_eq _ _ _ (fun c' h'=>by rw [ho] at h';cases h')];simp only [execOp,ho,resolve,hc,Deferred.ofValue,hf,Sem.run_bind,Sem.run_pure,Result.andThen_ok,invoke,Array.empty_append];exact hy
 refine ⟨fun _ _=>trivial,?_⟩;show o.uponIn (WF ro) 0 P a next Q ((o.semAt ro a.eval).run P w)
 rw [de,Oper.uponIn_round];refine ⟨fun h=>by simp [WF,Fence.wide] at h,?_⟩;have h3:tT (WF ro) 0 P l g tmps assign body w R:=h;refine RoundIn.mono h3 (fun e w' he=>?_);obtain ⟨u,rfl,hq⟩:=hn e w' he;exact hq
def BM {n:tK} {u:yg} {w':yh} (hd:∀c,o.op≠.defer c) (h:(execOp a.eval o).run P w= .ok n w') (hn:n= .value u\/(n= .skip/\u=undef)) (hq:next (a.put o.dst u) w'):o.wpIn (WF ro) 0 P a w next Q:=by
 refine ⟨fun _ _=>trivial,?_⟩;show o.uponIn (WF ro) 0 P a next Q ((o.semAt ro a.eval).run P w)
 rw [Oper.semAt_eq _ _ _ hd,h];rcases hn with rfl | ⟨rfl,rfl⟩
 ·exact hq
 ·exact hq
end
def kM (P:yK) (H:Hint) (q:Op) (o:yL):Prop:=
 (∃k,q=aJ P H k o)\/(∃c f rs,o.op= .call c/\c.callee= .value f/\q= .gE rs (aH H f) (fC H c.args.toList))\/
  (∃t x y sz rs,o.op= .store t x y/\bX P t=some sz/\q= .iR rs sz (aH H x) (aH H y))\/
  (∃k rs sz b x y,Op.cD sz b x y=aJ P H k o/\q= .jj rs sz b x y)\/(∃k sz b x y,Op.cD sz b x y=aJ P H k o/\q= .mV sz b x y)\/∃k n sz z ps,Op.fB n sz z ps=aJ P H k o/\q= .lV n sz z ps
def gH:Op->Op
 | .gE _ f xs=> .gE [] f xs
 | .iR _ s x v=> .st s x v
 | .jj _ s b x v=> .cD s b x v
 | o=>o
section
variable {O:bh} {H:Hint} {m:Mp} {S:Nat->Prop} {w:yh} {tm:Env} {a:Act} {hp:Hp} {ct:Nat} {self:bZ} {ro:Option Nat} {next:Act->yh->Prop} {Q:um->Act->yh->Prop}
def IC {o:yL} {k:Nat} {md:Md} {x:X} {xs:List X} (h:aJ O.P H k o= .call md x xs) (hb:x≠.c .undef):∃c f,o.op= .call c/\c.callee= .value f/\x=aH H f/\xs=fC H c.args.toList:=by
 have nb:bad= .call md x xs->False:=fun h=>by simp only [bad,Op.call.injEq] at h;exact hb h.2.1.symm
 cases ho:o.op with
 | call c=>
  obtain ⟨callee,args,ts⟩:=c;simp only [aJ,ho] at h
  split at h
  ·rename_i f;cases hm:H.mode k<;>simp only [hm,Op.call.injEq,reduceCtorEq] at h
   all_goals exact ⟨_,f,rfl,rfl,h.2.1.symm,h.2.2.symm⟩
  ·repeat' split at h
   all_goals first
    | exact (nb h).elim
    | (cases h;done)
    | (revert h;generalize ym _ _=bb;intro h;cases bb<;>first | exact (nb h).elim | (cases h;done))
  ·exact (nb h).elim
 | binOp op t x' y ty=>
  cases op<;>simp only [aJ,ho,kF,lB] at h
  case eql=>
        repeat' split at h
        all_goals first
         | exact (nb h).elim
         | (cases h;done)
         | (cases bK:(O.P.stoodInHeld t||O.P.eqGuardType O.P.depth t)<;>rw [bK] at h<;>first | exact (nb h).elim | (cases h;done))
  case neq=>
        repeat' split at h
        all_goals first
         | exact (nb h).elim
         | (cases h;done)
         | (cases bK:(O.P.stoodInHeld t||O.P.eqGuardType O.P.depth t)<;>rw [bK] at h<;>first | exact (nb h).elim | (cases h;done))
  all_goals cases h
 | buildSlice t n parts=>
  simp only [aJ,ho] at h
  repeat' split at h
  all_goals first
   | exact (nb h).elim
   | (cases h;done)
   | (revert h;generalize yx _ _=bb;intro h;cases bb<;>first | exact (nb h).elim | (simp only [yp] at h;cases h;done))
 | makeMap t r=>
  cases r<;>simp only [aJ,ho] at h
  ·repeat' split at h
   all_goals first
    | exact (nb h).elim
    | (cases h;done)
  ·exact (nb h).elim
 | next x' b=>
  cases b<;>simp only [aJ,ho] at h
  ·exact (nb h).elim
  ·cases h
 | _=>
  simp only [aJ,ho] at h
  (repeat' split at h)
  all_goals first
   | contradiction
   | exact (nb h).elim
   | (cases h;done)
def aaO {o:yL} {k:Nat} {r:AV×Hp×Nat} (hv:aW O.prog O.aG self tm hp ct (aJ O.P H k o)=some r):∀c,o.op≠.defer c:=by
 intro c ho;simp [aJ,ho,bad,aW,dO,ao] at hv
end
end
section
open Go
section
variable {O:bh} {H:Hint} {m:Mp} {S:Nat->Prop} {w:yh} {tm:Env} {a:Act} {hp:Hp} {ct cq:Nat}
def eP (tm:Env) (hp:Hp) (ct:Nat):Op->Option (AV×Obj)
 | .cD sz b x y=>ow hp ct sz b (ao tm x) (fW hp sz (ao tm y))
 | _=>none
def MR (O:bh) (m:Mp) (S:Nat->Prop) (w:yh) (a:Act) (ct:Nat) (o:yL) (v:AV) (b:Obj):Prop:=
 ∃u g p,(execOp a.eval o).run O.P w= .ok (.value u) (w.drew.alloc g)/\p.b=w.heap.size/\¬fV b/\
  ∀m',cJ m m'->m' ct=some p->dX O m' S (w.drew.alloc g) ct b/\ae O.ab m' S (w.drew.alloc g) v u
def adM {e:yq} {z:yg} {sz need cap:Nat} {cs:List AV} {us:List yg} (hh:aQ O m S w hp cq) (hr:au O.ab m S w cs us) (hl:us.length=need*sz) (hz:z.cells.size=sz)
  (Ap:Bool) (O6:Ap=true->aC cs=true) (hc:need<=cap):
  let w':=w.drew.alloc (.cells (us.toArray++Builtin.zeroCells z.cells (cap-need)) e)
  let p:Pl:=⟨w.heap.size,0,cap*sz,sz⟩
  ∀m',cJ m m'->m' ct=some p->dX O m' S w' ct (.cells true Ap false sz cs):=by
 intro w' p m' hm hi;have aP:eF S w w':=fun b hb=>by
  have:=hh.slt b hb
  exact RowKit.Below.heap_alloc w.drew _ b (by simpa using this)
 have gM:w'.heap[w.heap.size]? =some (.cells (us.toArray++Builtin.zeroCells z.cells (cap-need)) e (0,0)):=heap_alloc_new w.drew _;have dR:=eZ _ _ hr;refine ⟨p,_,e,hi,gM,rfl,?_,?_,by simp,?_,O6,?_,by simp⟩
 ·show cs.length<=cap*sz
  rw [<-dR,hl];exact yS _ hc
 ·show 0+cap*sz<=_
  rw [Array.size_append,vO,size_zeroCells,hz,hl,<-xZ];rw [yj];exact yS _ (by omega)
 ·refine HR gM cs us 0 (fu hm (fun _ h=>h) aP _ _ hr) (fun j u hj=>?_);rw [yj,Array.getElem?_append_left (by rw [vO];exact (List.getElem?_eq_some_iff.1 hj).1),List.getElem?_toArray]
  exact hj
 ·intro _ hS
  have:=hh.slt _ hS
  simp [p] at this
def kG {a b:Nat} (h:yF a b=true):a<b:=yr h
def adN {o:yL} {b':yq} {t u e:yq} {sz by':Nat} {z:AV} {x y:xe} {v:AV} {cT:Obj} (hH:dZ O H) (ht:bH O m S w tm a.tmps) (hh:aQ O m S w hp cq)
  (de:(execOp a.eval o).run O.P w=((do pure (.value (<-Builtin.append_ #[t,u] b' #[a.eval x,a.eval y])):Sem tK)).run O.P w)
  (oZ:O.P.underlying t=some (.slice e)) (hu:(∃e',O.P.underlying u=some (.slice e'))\/O.P.underlying u=some .string) (hs:bX O.P e=some sz) (hb:oQ O.P e=some by') (hz:jz O.P e=some z) (nS:(cellsOf z).length=sz)
  (hv:eP tm hp ct (.cD sz by' (aH H x) (aH H y))=some (v,cT)):MR O m S w a ct o v cT:=by
 simp only [eP] at hv;obtain ⟨ti,zv,nT,rfl,rfl,GB,rfl⟩:=TP hs hb hz;have aI:∀u' w',(Builtin.append_ #[t,u] b' #[a.eval x,a.eval y]).run O.P w= .ok u' w'->(execOp a.eval o).run O.P w= .ok (.value u') w':=fun u' w' h=>by
  rw [de,Sem.run_bind,h];rfl
 have AZ:zv.cells.size=ti.size:=by
  have:=eZ _ _ (zG (ab:=O.ab) (m:=m) (S:=S) (w:=w) zv)
  rw [<-nS,<-this];simp
 cases nK:fW hp ti.size (ao tm (aH H y)) with
 | none=>simp [nK,ow] at hv
 | some q=>
  obtain ⟨n,new⟩:=q;rw [nK] at hv;obtain ⟨news,jN,da⟩:=RY hh (bI hH ht y) nK;have GC:=eZ _ _ jN;have rx:=bI hH ht x;cases hx:ao tm (aH H x)<;>rw [hx] at hv rx<;>simp only [ow,reduceCtorEq] at hv
  rename_i id o0 k;simp only [ae] at rx;obtain ⟨p,c,hm,ex,h1,h2⟩:=rx
  split at hv
  case h_2=>cases hv
  rename_i ef pu zz cs hg
  cases hc:(ym zz ti.size&&(yF 0 n&&(yx (k+n) room&&(yx ((k+n)*ti.bytes) room&&(ym (o0+k*ti.size) cs.length&&yF 0 ti.size))))) with
  | false=>rw [hc] at hv;cases hv
  | true=>
   rw [hc] at hv;simp only [yp,yb,yk] at hv;obtain ⟨rfl,rfl⟩:=hv;simp only [yf] at hc;have c0:=yi hc.1;have c5:=kG hc.2.1;have c1:=yr hc.2.2.1;have c2:=yr hc.2.2.2.1;have c3:=yi hc.2.2.2.2.1;have c4:=kG hc.2.2.2.2.2;simp only [room] at c1 c2;obtain ⟨p',arr,t',g1,g2,g3,g4,g5,g6,g7,g8,g9,g10⟩:=hh.obj id _ _ hg hm;rw [hm] at g1;injection g1 with g1
   subst g1;subst c0;rw [g3] at h2;have X9:=g6 rfl;have ic:c=k:=by
    have:c*ti.size=k*ti.size:=by omega
    exact vC c4 this
   subst ic;have CM:bF O.ab m S w (slice o0 (c*ti.size) cs) p.b (p.o+o0):=rz _ _ _ _ (ns _ _ _ _ g7);obtain ⟨jG,f1,f2,f3⟩:=nZ _ _ _ CM;have Jr:(slice o0 (c*ti.size) cs).length=c*ti.size:=by simp only [slice,yQ,xJ];omega
   have kS:(pu&&aC new)=true->aC (slice o0 (c*ti.size) cs++new)=true:=fun h=>by
    simp only [yf] at h;exact zH (rm _ (pC _ _ (g8 h.1))) h.2
   have GD:Src O.P w ti.size c jG (.slice (some ⟨p.b,p.o+o0,none⟩) c c):=Bw (by omega) (fun j u hj=>by rw [lD];exact f3 j u hj)
   have hr:=Hu (P:=O.P) (ty:=b') (w:=w) oZ hu nT GB rfl GD da (by omega) c1 c2;have iB:=grownCap_ge w (c+n) c e;have gM:=adM (ct:=ct) (e:=e) (z:=zv) (cap:=grownCap w (c+n) c e) hh (jo f1 jN) (need:=c+n) (sz:=ti.size) (by rw [List.length_append,f2,Jr,da.2.1,xZ]) AZ (pu&&aC new) kS iB;exact ⟨_,_,⟨w.heap.size,0,grownCap w (c+n) c e*ti.size,ti.size⟩,aI _ _ (by rw [ex];exact hr),rfl,by simp [fV],fun m' hle hi=>⟨gM m' hle hi,by simp only [ae];exact ⟨_,_,hi,rfl,iB,by simp⟩⟩⟩
def aaP {Hq:Hp} (hl:cy hp Hq) {sz:Nat} {v:AV} {q:Nat×List AV} (h:jt hp sz v=some q):jt Hq sz v=some q:=by
 cases v<;>simp only [jt,reduceCtorEq] at h ⊢
 ·exact h
 ·exact h
 ·rename_i id o n
  cases hg:ap hp id with
  | none=>simp [hg] at h
  | some ob=>
   cases ob<;>simp only [hg,reduceCtorEq] at h
   obtain ⟨o',h1,r,rfl,_⟩:=hl id _ hg;simp only [h1];exact h
def abQ {Hq:Hp} (hl:cy hp Hq) {sz:Nat} {v:AV} {q:Nat×List AV} (h:fW hp sz v=some q):fW Hq sz v=some q:=by
 by_cases hs:∃b,v= .str b
 ·obtain ⟨b,rfl⟩:=hs;exact h
 ·have e:∀hp:Hp,fW hp sz v=jt hp sz v:=fun hp=>by
   cases v<;>first
    | rfl
    | exact absurd ⟨_,rfl⟩ hs
  rw [e] at h ⊢;exact aaP hl h
def adO {Hq:Hp} (hl:cy hp Hq) {sz b:Nat} {x y v:AV} {cT:Obj} (h:ow hp ct sz b x (fW hp sz y)=some (v,cT)):ow Hq ct sz b x (fW Hq sz y)=some (v,cT):=by
 cases hs:fW hp sz y with
 | none=>rw [hs] at h;simp [ow] at h
 | some q=>
  rw [abQ hl hs];rw [hs] at h;obtain ⟨n,new⟩:=q;cases x<;>simp only [ow,reduceCtorEq] at h ⊢
  rename_i id o k
  cases hg:ap hp id with
  | none=>simp [hg] at h
  | some ob=>
   cases ob with
   | cells ef pu ex z cs=>
    cases ex with
    | false=>simp [hg] at h
    | true=>
     obtain ⟨o',h1,r,rfl,_⟩:=hl id _ hg;simp only [hg] at h;simp only [h1];exact h
   | _=>simp [hg] at h
def ahL {o:yL} {k:Nat} {v:AV} {cT:Obj} (hH:dZ O H) (ht:bH O m S w tm a.tmps) (hh:aQ O m S w hp cq)
  (hv:eP tm hp ct (aJ O.P H k o)=some (v,cT)):MR O m S w a ct o v cT:=by
 have fO:∀{r:AV×Obj},eP tm hp ct bad=some r->False:=fun h=>by simp [bad,eP] at h
 cases ho:o.op with
 | call c=>
  obtain ⟨callee,args,ts⟩:=c;simp only [aJ,ho] at hv
  split at hv
  ·cases Gv:H.mode k<;>simp [Gv,eP] at hv
  ·rename_i _ b
   split at hv
   ·rename_i x y t u dF kq;obtain ⟨al⟩:=args;obtain ⟨tl⟩:=ts;simp only at dF kq;subst dF;subst kq;obtain ⟨cs,de⟩:=pz (O:=O) (w:=w) (a:=a) ho;have Ar:(execOp a.eval o).run O.P w=((do pure (.value (<-Builtin.append_ #[t,u] o.type #[a.eval x,a.eval y])):Sem tK)).run O.P w:=by
     rw [de];simp [builtin]
    have key:∀{z:AV} {sz by':Nat} {e:yq},O.P.underlying t=some (.slice e)->((∃e',O.P.underlying u=some (.slice e'))\/O.P.underlying u=some .string)->bX O.P e=some sz->oQ O.P e=some by'->jz O.P e=some z->
      eP tm hp ct (bif ym (cellsOf z).length sz then .cD sz by' (aH H x) (aH H y) else bad)=some (v,cT)->MR O m S w a ct o v cT:=by
     intro z sz by' e h1 h2 h3 h4 h5 h
     cases hb:ym (cellsOf z).length sz with
     | false=>rw [hb] at h;exact (fO h).elim
     | true=>
      rw [hb] at h;exact adN hH ht hh Ar h1 h2 h3 h4 h5 (yi hb) h
    split at hv
    ·rename_i e e' h1 h2
     split at hv
     ·rename_i sz by' z h3 h4 h5
      exact key h1 (.inl ⟨_,h2⟩) h3 h4 h5 hv
     ·exact (fO hv).elim
    ·rename_i e h1 h2
     split at hv
     ·rename_i sz by' z h3 h4 h5
      exact key h1 (.inr h2) h3 h4 h5 hv
     ·exact (fO hv).elim
    ·exact (fO hv).elim
   ·repeat' split at hv
    all_goals simp [eP,bad] at hv
   ·repeat' split at hv
    all_goals simp [eP,bad] at hv
   ·simp [eP] at hv
   ·simp [eP] at hv
   ·simp [eP] at hv
   ·simp [eP] at hv
   ·simp [eP] at hv
   ·exact (fO hv).elim
  ·exact (fO hv).elim
 | next x b=>
  cases b<;>simp [aJ,ho,eP,bad] at hv
 | binOp op t x y ty=>
  cases op<;>simp only [aJ,ho,kF,lB] at hv
  case eql=>
        repeat' split at hv
        all_goals first
         | (simp [eP,bad] at hv;done)
         | (cases hb:(O.P.stoodInHeld t||O.P.eqGuardType O.P.depth t)<;>rw [hb] at hv<;>simp [eP,bad] at hv)
  case neq=>
        repeat' split at hv
        all_goals first
         | (simp [eP,bad] at hv;done)
         | (cases hb:(O.P.stoodInHeld t||O.P.eqGuardType O.P.depth t)<;>rw [hb] at hv<;>simp [eP,bad] at hv)
  all_goals simp [eP] at hv
 | buildSlice t n parts=>
  simp only [aJ,ho] at hv
  repeat' split at hv
  all_goals first
   | (simp [eP,bad] at hv;done)
   | (
     revert hv;generalize yx _ _=bb;intro hv;cases bb<;>simp [eP,bad] at hv
     try (split at hv<;>simp [eP,bad] at hv))
 | makeMap t r=>
  cases r<;>simp only [aJ,ho] at hv
  ·repeat' split at hv
   all_goals simp [eP,bad] at hv
  ·exact (fO hv).elim
 | _=>
  simp only [aJ,ho] at hv
  (repeat' split at hv)
  all_goals first
   | contradiction
   | (simp [eP,bad] at hv;done)
end
end
section
open Go
section
variable {O:bh} {H:Hint} {m:Mp} {S:Nat->Prop} {w:yh} {tm:Env} {a:Act} {hp an Hq:Hp} {ct aT cH:Nat} {self:bZ} {ro:Option Nat} {next:Act->yh->Prop} {Q:um->Act->yh->Prop}
def R5 {g:Go.Obj} {p:Pl} {S':Nat->Prop} {base:Nat} (hh:aQ O m S w Hq cH) (hi:m ct=none) (hb:p.b=w.heap.size) (h1:∀b,S b->S' b) (h2:∀b,S' b->S b\/b=w.heap.size):
  bM m S w Hq (ew m ct p) S' (w.alloc g) Hq base where
 os:=rfl
 tape:=rfl
 output:=rfl
 size:=by simp
 same b hb _:=alloc_old hb
 sub:=h1
 still b hb:=alloc_old (hh.slt b hb)
 new b hb:=(h2 b hb).imp (fun h=>h) (fun h=> .inr (by omega))
 own b hb:=by
  obtain ⟨i,o,q,g1,g2,g3⟩:=hb;by_cases hc:i=ct
  ·subst hc;rw [cV] at g2
   grind
  ·rw [dD hc] at g2;exact .inl ⟨i,o,q,g1,g2,g3⟩
 old i q _ h:=gB hi i q h
 loops b r hb:=⟨r,(alloc_old (xg.1 hb).1).trans hb⟩
def QE {I9 aj:List AV} {us:List yg} {bi:Hp} (hz:cm deep hp I9=some (aj,bi)) (hl:cy bi Hq) (hh:aQ O m S w Hq cH) (hr:au O.ab m S w I9 us):au O.ab dS S w aj us/\aC aj=true:=by
 obtain ⟨_,_,h3⟩:=Lo (O:=O) hz;obtain ⟨k1,k2⟩:=h3 Hq m S w cH hl hh;exact ⟨pD (fun _ h=>h) (fun _ _=>rfl) _ _ k2 (k1 us hr),k2⟩
def Mx (hh:aQ O m S w Hq cH):sd O w:=⟨hh.jF,hh.eK⟩
def Ib (hH:dZ O H) (ht:bH O m S w tm a.tmps) {f:xe} {g:Nat} {first cap:List AV} {args:Array xe} (hf:ao tm (aH H f)= .fn (.f g) first cap):
  ∃fi ca:Array yg,a.eval f= .func (.func (O.ab g)) fi ca/\au O.ab m S w (first++(cX tm (fC H args.toList)++cap)) (fi++args.map a.eval++ca).toList:=by
 have rf:=bI hH ht f;rw [hf] at rf;obtain ⟨fi,ca,h1,h2,h3⟩:=rf;refine ⟨fi,ca,h1,?_⟩
 have:=jo h2 (jo (zW hH ht args.toList) h3)
 simp_all
def aaQ (hC:lC O self) (hH:dZ O H) {o:yL} {c:uy} {f:xe} (ho:o.op= .call c) (gn:c.callee= .value f) {g:Nat} {first cap aj:List AV} {bi:Hp} {r:AV}
  (hf:ao tm (aH H f)= .fn (.f g) first cap) (hz:cm deep hp (first++(cX tm (fC H c.args.toList)++cap))=some (aj,bi)) (hr:bA O.prog O.aG self g aj=some r)
  (hl:cy bi Hq) (ht:bH O m S w tm a.tmps) (hh:aQ O m S w Hq cH)
  (hn:∀u S' w',aQ O m S' w' Hq cH->ae O.ab m S' w' (shut r) u->bM m S w Hq m S' w' Hq cH->next (a.put o.dst u) w'):o.wpIn (WF ro) 0 O.P a w next Q:=by
 obtain ⟨fi,ca,h1,h2⟩:=Ib hH ht (args:=c.args) hf;obtain ⟨h3,h4⟩:=QE hz hl hh h2;refine HG ho gn h1 (hC.pure g aj r hr w S _ (Mx hh) hh.slt h3 h4) ?_;rintro e w' ⟨u,S',rfl,hw,g1,g2,g3,g4⟩;refine ⟨u,rfl,?_⟩;obtain ⟨S2,k1,k2,k3⟩:=R1 g4 m;have hS:∀b,S b->S2 b:=fun b hb=>k1 b (g1 b hb)
 have sY:∀b,S2 b->S b\/w.heap.size<=b:=fun b hb=>(k2 b hb).elim (g2 b) (fun h=> .inr h.1)
 have hl:∀b,S2 b->b<w'.heap.size:=fun b hb=>(k2 b hb).elim (g3 b) (fun h=>h.2)
 exact hn u S2 w' (rC hh hw hS sY hl) k3 (pG hh hw hS sY)
def abR (hC:lC O self) (hH:dZ O H) {o:yL} {c:uy} {f:xe} (ho:o.op= .call c) (gn:c.callee= .value f) {g:Nat} {first cap aj:List AV} {bi:Hp} {r:AV}
  (hf:ao tm (aH H f)= .fn (.f g) first cap) (hz:cm deep hp (first++(cX tm (fC H c.args.toList)++cap))=some (aj,bi)) (hr:bA O.prog O.aG self g aj=some r)
  (hl:cy (own bi ct r).2.1 Hq) (eU:(own bi ct r).2.2<=cH) (aO:∀id o,ap hp id=some o->id<ct) (ph:∀id,ct<=id->id<(own bi ct r).2.2->m id=none)
  (ht:bH O m S w tm a.tmps) (hh:aQ O m S w Hq cH)
  (hn:∀u m' S' w',aQ O m' S' w' Hq cH->cJ m m'->(∀id p,m' id=some p->m id=some p\/(ct<=id/\id<(own bi ct r).2.2))->ae O.ab m' S' w' (own bi ct r).1 u->bM m S w Hq m' S' w' Hq cH->next (a.put o.dst u) w'):
  o.wpIn (WF ro) 0 O.P a w next Q:=by
 obtain ⟨fi,ca,h1,h2⟩:=Ib hH ht (args:=c.args) hf;obtain ⟨z1,z2,z3⟩:=Lo (O:=O) hz;have NO:∀id o,ap bi id=some o->id<ct:=fun id o h=>by
  have:=z2 id
  rw [h] at this
  cases hq:ap hp id with
  | none=>rw [hq] at this;cases this
  | some q=>exact aO id q hq
 have ahM:∀id o,ap bi id=some o->ap (own bi ct r).2.1 id=some o:=fun id o h=>by
  cases r with
  | av vs=>exact IB NO id o h
  | _=>exact Mw NO id o h
 have lX:cy bi Hq:=fun id o h=>hl id o (ahM id o h)
 obtain ⟨h3,h4⟩:=QE hz lX hh h2;refine HG ho gn h1 (hC.pure g aj r hr w S _ (Mx hh) hh.slt h3 h4) ?_;rintro e w' ⟨u,S',rfl,hw,g1,g2,g3,g4⟩;refine ⟨u,rfl,?_⟩;have sZ:=rC hh hw g1 g2 g3;have gl:=pG (base:=cH) hh hw g1 g2;obtain ⟨m',S2,k1,k2,k3,k4,k5,k6⟩:=ahK (lo:=w.heap.size) sZ hl eU NO ph g4 hh.eK (fun j q hq=>hh.blt j q hq);refine hn u m' S2 w' k1 k2 (fun id p h=>(k3 id p h).imp (fun h=>h) (fun h=>⟨h.1,h.2.1⟩)) k4 ⟨hw.os,hw.tape,hw.output,hw.size,fun b hb _=>hw.same b hb,fun b hb=>k5 b (g1 b hb),fun b hb=>hw.same b (hh.slt b hb),?_,?_,fun i q _ h=>k2 i q h,gl.loops⟩
 ·grind
 ·rintro b ⟨i,ob,q,q1,q2,q3⟩;rcases k3 i q q2 with h | h
  ·exact .inl ⟨i,ob,q,q1,h,q3⟩
  ·grind
def aaR {P:yK} {H:Hint} {o:yL} {k:Nat} {sz b:Nat} {x y:X} (hk:Op.mV sz b x y=aJ P H k o):False:=by
 cases ho:o.op with
 | call c=>
  obtain ⟨callee,args,ts⟩:=c;simp only [aJ,ho] at hk
  split at hk
  ·rename_i f;cases hm:H.mode k<;>simp only [hm,reduceCtorEq] at hk
  ·repeat' split at hk
   all_goals first
    | (cases hk;done)
    | (simp only [bad] at hk;cases hk;done)
    | (revert hk;generalize ym _ _=bb;intro hk;cases bb<;>simp [bad] at hk)
  ·simp only [bad] at hk;cases hk
 | binOp op t x' y ty=>
  cases op<;>simp only [aJ,ho,kF,lB] at hk
  case eql=>
        repeat' split at hk
        all_goals first
         | (cases hk;done)
         | (simp only [bad] at hk;cases hk;done)
         | (cases bK:(P.stoodInHeld t||P.eqGuardType P.depth t)<;>rw [bK] at hk<;>simp [bad] at hk)
  case neq=>
        repeat' split at hk
        all_goals first
         | (cases hk;done)
         | (simp only [bad] at hk;cases hk;done)
         | (cases bK:(P.stoodInHeld t||P.eqGuardType P.depth t)<;>rw [bK] at hk<;>simp [bad] at hk)
  all_goals cases hk
 | buildSlice t n parts=>
  simp only [aJ,ho] at hk
  repeat' split at hk
  all_goals first
   | (cases hk;done)
   | (simp only [bad] at hk;cases hk;done)
   | (revert hk;generalize yx _ _=bb;intro hk;cases bb<;>simp [bad] at hk)
 | makeMap t r=>
  cases r<;>simp only [aJ,ho] at hk
  ·repeat' split at hk
   all_goals first
    | (cases hk;done)
    | (simp only [bad] at hk;cases hk;done)
  ·simp only [bad] at hk;cases hk
 | next x' b=>
  cases b<;>simp only [aJ,ho] at hk
  ·simp only [bad] at hk;cases hk
  ·cases hk
 | _=>
  simp only [aJ,ho] at hk
  (repeat' split at hk)
  all_goals first
   | contradiction
   | (cases hk;done)
   | (simp only [bad] at hk;cases hk;done)
def ahN {P:yK} {H:Hint} {o:yL} {sz b:Nat} {x y:X} (hq:kM P H (.mV sz b x y) o):∃k,Op.cD sz b x y=aJ P H k o:=by
 rcases hq with ⟨k,hk⟩ | ⟨_,_,_,_,_,h3⟩ | ⟨_,_,_,_,_,_,_,h3⟩ | ⟨_,_,_,_,_,_,_,h3⟩ | ⟨k,kx,b',x',y',h1,h3⟩ | ⟨_,_,_,_,_,_,h3⟩
 ·exact (aaR hk).elim
 ·cases h3
 ·cases h3
 ·cases h3
 ·simp only [Op.mV.injEq] at h3;obtain ⟨rfl,rfl,rfl,rfl⟩:=h3;exact ⟨k,h1⟩
 ·cases h3
def aaS {P:yK} {H:Hint} {o:yL} {k n sz:Nat} {z:List AV} {ps:List (Nat×Nat×X)} (hk:Op.lV n sz z ps=aJ P H k o):False:=by
 cases ho:o.op with
 | call c=>
  obtain ⟨callee,args,ts⟩:=c;simp only [aJ,ho] at hk
  split at hk
  ·rename_i f;cases hm:H.mode k<;>simp only [hm,reduceCtorEq] at hk
  ·repeat' split at hk
   all_goals first
    | (cases hk;done)
    | (simp only [bad] at hk;cases hk;done)
    | (revert hk;generalize ym _ _=bb;intro hk;cases bb<;>simp [bad] at hk)
  ·simp only [bad] at hk;cases hk
 | binOp op t x' y ty=>
  cases op<;>simp only [aJ,ho,kF,lB] at hk
  case eql=>
        repeat' split at hk
        all_goals first
         | (cases hk;done)
         | (simp only [bad] at hk;cases hk;done)
         | (cases bK:(P.stoodInHeld t||P.eqGuardType P.depth t)<;>rw [bK] at hk<;>simp [bad] at hk)
  case neq=>
        repeat' split at hk
        all_goals first
         | (cases hk;done)
         | (simp only [bad] at hk;cases hk;done)
         | (cases bK:(P.stoodInHeld t||P.eqGuardType P.depth t)<;>rw [bK] at hk<;>simp [bad] at hk)
  all_goals cases hk
 | buildSlice t n parts=>
  simp only [aJ,ho] at hk
  repeat' split at hk
  all_goals first
   | (cases hk;done)
   | (simp only [bad] at hk;cases hk;done)
   | (revert hk;generalize yx _ _=bb;intro hk;cases bb<;>simp [bad] at hk)
 | makeMap t r=>
  cases r<;>simp only [aJ,ho] at hk
  ·repeat' split at hk
   all_goals first
    | (cases hk;done)
    | (simp only [bad] at hk;cases hk;done)
  ·simp only [bad] at hk;cases hk
 | next x' b=>
  cases b<;>simp only [aJ,ho] at hk
  ·simp only [bad] at hk;cases hk
  ·cases hk
 | _=>
  simp only [aJ,ho] at hk
  (repeat' split at hk)
  all_goals first
   | contradiction
   | (cases hk;done)
   | (simp only [bad] at hk;cases hk;done)
def ahO {P:yK} {H:Hint} {o:yL} {n sz:Nat} {z:List AV} {ps:List (Nat×Nat×X)} (hq:kM P H (.lV n sz z ps) o):∃k,Op.fB n sz z ps=aJ P H k o:=by
 rcases hq with ⟨k,hk⟩ | ⟨_,_,_,_,_,h3⟩ | ⟨_,_,_,_,_,_,_,h3⟩ | ⟨_,_,_,_,_,_,_,h3⟩ | ⟨_,_,_,_,_,_,h3⟩ | ⟨k,n',kx,z',ps',h1,h3⟩
 ·exact (aaS hk).elim
 ·cases h3
 ·cases h3
 ·cases h3
 ·cases h3
 ·simp only [Op.lV.injEq] at h3;obtain ⟨rfl,rfl,rfl,rfl⟩:=h3;exact ⟨k,h1⟩
def ahP (hH:dZ O H) (ht:bH O m S w tm a.tmps) (hh:aQ O m S w hp ct) {o:yL} {k n sz:Nat} {z:List AV} {ps:List (Nat×Nat×X)} {v:AV} {hp0:Hp} (fk:Op.fB n sz z ps=aJ O.P H k o) (hv:a7 tm hp0 (.lV n sz z ps)=some v):
  ∃u g,(execOp a.eval o).run O.P w= .ok (.value u) (w.alloc g)/\∀S':Nat->Prop,(∀b,S b->S' b)->S' w.heap.size->ae O.ab m S' (w.alloc g) v u:=by
 simp only [a7] at hv
 cases hf:fill tm z ps with
 | none=>simp [hf] at hv
 | some cs=>
  simp only [hf] at hv
  cases hc:(ym cs.length (n*sz)&&(yF 0 sz&&aC cs)) with
  | false=>rw [hc] at hv;cases hv
  | true=>
   rw [hc] at hv;simp only [yp,yb] at hv;subst hv;simp only [yf] at hc;obtain ⟨c1,c2,c3⟩:=hc;have c1':=yi c1;have c2':=my.1 c2;have hi:m ct=none:=by
    cases hm:m ct with
    | none=>rfl
    | some p=>have:=hh.lt ct p hm;omega
   have b6:ck tm hp ct (aJ O.P H k o)=some (.ay ct 0 n,.cells true true true sz cs):=by
    rw [<-fk];simp only [ck,hf,c1,yp,c3]
   obtain ⟨u,g,p,h1,h2,h3,h4⟩:=TN hH ht hh b6;refine ⟨u,g,h1,fun S' hS hSn=>?_⟩;obtain ⟨ho,hr⟩:=h4 (ew m ct p) (gB hi) cV;simp only [dX] at ho;obtain ⟨q,arr,t,g1,g2,g3,g4,g5,g6,g7,g8,_⟩:=ho;rw [cV] at g1;injection g1 with g1
   subst g1;simp only [ae,cV,yb] at hr;obtain ⟨q,c,rfl,rfl,r3,r4⟩:=hr;simp only [ae];refine .inl ⟨_,_,c,rfl,r3,fun _=>?_,.inr (by rw [h2];exact hSn),c3,?_⟩
   ·have e:=g6 trivial;rw [<-e,c1',g3,yj] at r4;exact vC c2' r4
   ·rw [Nat.add_zero];exact rn hS (fun _ _=>rfl) cs _ _ c3 rfl g7
def quiet_step (hC:lC O self) (hH:dZ O H) {o:yL} {q:Op} {v:AV} (hk:a8 q<=1) (hq:kM O.P H q o) (hd:∀c,o.op≠.defer c) (hv:aW O.prog O.aG self tm hp ct q=some (v,an,aT)) (hl:cy an Hq) (eU:aT<=cH)
  (aO:∀id o,ap hp id=some o->id<ct) (ph:∀id,ct<=id->id<aT->m id=none) (ht:bH O m S w tm a.tmps) (hh:aQ O m S w Hq cH)
  (hn:∀u m' S' w',aQ O m' S' w' Hq cH->cJ m m'->(∀id p,m' id=some p->m id=some p\/(ct<=id/\id<aT))->ae O.ab m' S' w' v u->bM m S w Hq m' S' w' Hq cH->next (a.put o.dst u) w'):
  o.wpIn (WF ro) 0 O.P a w next Q:=by
 by_cases O8:∃sz b x y,q= .mV sz b x y
 ·obtain ⟨sz,b,x,y,rfl⟩:=O8;obtain ⟨k,fk⟩:=ahN hq;simp only [aW] at hv
  cases hm:ow hp ct sz b (ao tm x) (fW hp sz (ao tm y)) with
  | none=>simp [hm] at hv
  | some r=>
   obtain ⟨v1,cT⟩:=r;simp only [hm,yb,yk] at hv;obtain ⟨rfl,rfl,rfl⟩:=hv;have iT:cy hp Hq:=fun id o' gi=>hl id o' (by
    rw [ep,yE (by have:=aO id o' gi;omega)];exact gi)
   have b9:eP tm Hq ct (aJ O.P H k o)=some (v1,cT):=by rw [<-fk];exact adO iT hm
   have hi:=ph ct (yv _) (uC _);obtain ⟨u,g,p,h1,h2,h3,h4⟩:=ahL hH ht hh b9;have GF:Calm w w.drew:=⟨rfl,rfl,rfl,yv _,fun _ _=>rfl⟩;have fI:=rC hh GF (S':=S) (fun _ h=>h) (fun _ h=> .inl h) hh.slt;have CN:bM m S w Hq m S w.drew Hq cH:=pG hh GF (fun _ h=>h) (fun _ h=> .inl h);obtain ⟨S',k1,k2,k3⟩:=L4 (i:=ct) (g:=g) (p:=p) fI hi eU h2 (fun o' gi=>by
    obtain ⟨O0,g1,g2⟩:=hl ct cT (by rw [ep];simp)
    rw [gi] at g1;injection g1 with g1
    subst g1
    have:=Lf g2 cV (h4 _ (gB hi) cV).1 h3
    rwa [h2] at this)
   refine BM hd h1 (.inl rfl) (hn u _ S' _ k1 (gB hi) (fun id q hq=>?_) (jr (fun _ _ h=>h) k2 (fun _ _=>rfl) _ _ (h4 _ (gB hi) cV).2) (CN.trans (R5 fI hi h2 k2 k3)));by_cases hc:id=ct
   ·exact .inr (by omega)
   ·rw [dD hc] at hq;exact .inl hq
 by_cases za:∃n sz z ps,q= .lV n sz z ps
 ·obtain ⟨n,sz,z,ps,rfl⟩:=za;obtain ⟨k,fk⟩:=ahO hq;simp only [aW] at hv
  cases hm:a7 tm hp (.lV n sz z ps) with
  | none=>simp [hm] at hv
  | some r=>
   simp only [hm,yb,yk] at hv;obtain ⟨rfl,rfl,rfl⟩:=hv;obtain ⟨u,g,h1,h2⟩:=ahP hH ht hh fk hm;have GF:Calm w (w.alloc g):=⟨rfl,rfl,rfl,by simp,fun b hb=>alloc_old hb⟩
   let S':Nat->Prop:=fun b=>S b\/b=w.heap.size
   have hS:∀b,S b->S' b:=fun b hb=> .inl hb
   have sY:∀b,S' b->S b\/w.heap.size<=b:=fun b hb=>hb.imp id (fun e=>by omega)
   have qV:∀b,S' b->b<(w.alloc g).heap.size:=fun b hb=>by
    rcases hb with hb | hb
    ·have:=hh.slt b hb;simp;omega
    ·subst hb;simp
   refine BM hd h1 (.inl rfl) (hn u m S' _ (rC hh GF hS sY qV) cJ.refl (fun _ _ h=> .inl h) (h2 S' hS (.inr rfl)) (pG hh GF hS sY))
 have fk:∃k,q=aJ O.P H k o:=by
  rcases hq with h | ⟨c,f,rs,_,_,rfl⟩ | ⟨_,_,_,_,_,_,_,rfl⟩ | ⟨_,_,_,_,_,_,_,rfl⟩ | ⟨_,_,_,_,_,_,h⟩ | ⟨_,_,_,_,_,_,h⟩
  ·exact h
  ·simp [a8] at hk
  ·simp [a8] at hk
  ·simp [a8] at hk
  ·exact (O8 ⟨_,_,_,_,h⟩).elim
  ·exact (za ⟨_,_,_,_,h⟩).elim
 obtain ⟨k,hq⟩:=fk;have read:∀{v:AV},a7 tm hp q=some v->cy hp Hq->(∀u m' S' w',aQ O m' S' w' Hq cH->cJ m m'->(∀id p,m' id=some p->m id=some p\/(ct<=id/\id<aT))->ae O.ab m' S' w' v u->bM m S w Hq m' S' w' Hq cH->next (a.put o.dst u) w')->o.wpIn (WF ro) 0 O.P a w next Q:=by
  intro v hr hl hn;have b9:=abK hl hr;rw [hq] at b9;obtain ⟨u,h1,h2⟩:=TL hH ht hh b9;exact BM hd h1 (.inl rfl) (hn u m S w hh cJ.refl (fun _ _ h=> .inl h) h2 bM.refl)
 have makes:∀{v:AV} {b:Obj},ck tm hp ct q=some (v,b)->cy ((ct,b)::hp) Hq->ct+1<=cH->m ct=none->(∀u m' S' w',aQ O m' S' w' Hq cH->cJ m m'->(∀id p,m' id=some p->m id=some p\/(ct<=id/\id<ct+1))->ae O.ab m' S' w' v u->bM m S w Hq m' S' w' Hq cH->next (a.put o.dst u) w')->o.wpIn (WF ro) 0 O.P a w next Q:=by
  intro v b hr hl hc hi hn;rw [hq] at hr;have b9:ck tm Hq ct (aJ O.P H k o)=some (v,b):=by rw [<-hr];exact D4 (fun _ _=>rfl)
  obtain ⟨u,g,p,h1,h2,h3,h4⟩:=TN hH ht hh b9;obtain ⟨S',k1,k2,k3⟩:=L4 (i:=ct) (g:=g) (p:=p) hh hi hc h2 (fun o' gi=>by
   obtain ⟨O0,g1,g2⟩:=hl ct b (by rw [ep];simp)
   rw [gi] at g1;injection g1 with g1
   subst g1
   have:=Lf g2 cV (h4 _ (gB hi) cV).1 h3
   rwa [h2] at this)
  refine BM hd h1 (.inl rfl) (hn u _ S' _ k1 (gB hi) (fun id q hq=>?_) (jr (fun _ _ h=>h) k2 (fun _ _=>rfl) _ _ (h4 _ (gB hi) cV).2) (R5 hh hi h2 k2 k3));by_cases hc:id=ct
  ·exact .inr (by omega)
  ·rw [dD hc] at hq;exact .inl hq
 have b6:∀{q:Op},(match ck tm hp ct q with | some (v,b)=>some (v,(ct,b)::hp,ct+1) | none=>(none:fj))=some (v,an,aT)->∃b,ck tm hp ct q=some (v,b)/\an=(ct,b)::hp/\aT=ct+1:=by
  intro q h
  cases hm:ck tm hp ct q with
  | none=>simp [hm] at h
  | some r=>
   obtain ⟨v1,b⟩:=r;simp only [hm,yb,yk] at h;obtain ⟨rfl,rfl,rfl⟩:=h;exact ⟨b,rfl,rfl,rfl⟩
 have gQ:∀{q:Op},(match a7 tm hp q with | some v=>some (v,hp,ct) | none=>(none:fj))=some (v,an,aT)->a7 tm hp q=some v/\an=hp/\aT=ct:=by
  intro q h
  cases hm:a7 tm hp q with
  | none=>simp [hm] at h
  | some r=>
   simp only [hm,yb,yk] at h;obtain ⟨rfl,rfl,rfl⟩:=h;exact ⟨rfl,rfl,rfl⟩
 have EM:(∃b,ck tm hp ct q=some (v,b)/\an=(ct,b)::hp/\aT=ct+1)->o.wpIn (WF ro) 0 O.P a w next Q:=by
  rintro ⟨b,h1,rfl,rfl⟩;exact makes h1 hl eU (ph ct (yv _) (uC _)) hn
 have ahQ:(a7 tm hp q=some v/\an=hp/\aT=ct)->o.wpIn (WF ro) 0 O.P a w next Q:=by
  rintro ⟨h1,rfl,rfl⟩;exact read h1 hl hn
 cases q with
 | st _ _ _=>simp [a8] at hk
 | mS _ _ _ _=>simp [a8] at hk
 | mU _=>simp [a8] at hk
 | cD _ _ _ _=>simp [a8] at hk
 | mW _ _ _=>simp [a8] at hk
 | gE _ _ _=>simp [a8] at hk
 | iR _ _ _ _=>simp [a8] at hk
 | jj _ _ _ _ _=>simp [a8] at hk
 | mV sz b x y=>exact (O8 ⟨sz,b,x,y,rfl⟩).elim
 | box s x=>exact EM (b6 (by simp only [aW] at hv;exact hv))
 | fB n s z ps=>exact EM (b6 (by simp only [aW] at hv;exact hv))
 | lU s b z x y=>exact EM (b6 (by simp only [aW] at hv;exact hv))
 | qJ=>exact EM (b6 (by simp only [aW] at hv;exact hv))
 | mT x=>exact EM (b6 (by simp only [aW] at hv;exact hv))
 | call md x xs=>
  cases md with
  | heap=>simp [a8] at hk
  | dyn=>simp [a8] at hk
  | pure=>
   simp only [aW,dO] at hv
   split at hv
   ·rename_i g first cap hx
    (try simp only at hv)
    cases hz:cm deep hp (first++(cX tm xs++cap)) with
    | none=>simp [hz] at hv
    | some z=>
     obtain ⟨aj,bi⟩:=z;simp only [hz] at hv
     cases hr:bA O.prog O.aG self g aj with
     | none=>simp [hr] at hv
     | some r=>
      simp only [hr,yb,yk] at hv;obtain ⟨rfl,rfl,rfl⟩:=hv;obtain ⟨c,f,ho,gn,rfl,rfl⟩:=IC hq.symm (by rintro rfl;simp [ao] at hx);exact aaQ hC hH ho gn hx hz hr hl ht hh (fun u S' w' h1 h2 h3=>hn u m S' w' h1 cJ.refl (fun _ _ h=> .inl h) h2 h3)
   ·simp at hv
   ·cases hv
  | own=>
   simp only [aW,dO] at hv
   split at hv
   ·rename_i g first cap hx
    (try simp only at hv)
    cases hz:cm deep hp (first++(cX tm xs++cap)) with
    | none=>simp [hz] at hv
    | some z=>
     obtain ⟨aj,bi⟩:=z;simp only [hz] at hv
     cases hr:bA O.prog O.aG self g aj with
     | none=>simp [hr] at hv
     | some r=>
      simp only [hr,yb] at hv;obtain ⟨c,f,ho,gn,rfl,rfl⟩:=IC hq.symm (by rintro rfl;simp [ao] at hx);have e1:v=(own bi ct r).1:=by rw [hv]
      have e2:an=(own bi ct r).2.1:=by rw [hv]
      have e3:aT=(own bi ct r).2.2:=by rw [hv]
      subst e1;subst e2;subst e3;exact abR hC hH ho gn hx hz hr hl eU aO ph ht hh hn
   ·simp at hv
   ·cases hv
 | _=>exact ahQ (gQ (by simp only [aW] at hv;exact hv))
end
end
section
open Go
section
variable {O:bh} {H:Hint} {m:Mp} {S:Nat->Prop} {w:yh} {tm:Env} {a:Act} {hp an:Hp} {ct aT:Nat} {self:bZ} {ro:Option Nat} {next:Act->yh->Prop} {Q:um->Act->yh->Prop}
def bM.oD {m':Mp} {S':Nat->Prop} {w':yh} {b b':Nat} (h:bM m S w hp m' S' w' an b) (hb:b'<=b):bM m S w hp m' S' w' an b':=
 ⟨h.os,h.tape,h.output,h.size,h.same,h.sub,h.still,h.new,h.own,fun i q hi hq=>h.old i q (by omega) hq,h.loops⟩
def ahR {hp:Hp} {ct:Nat} {r:AV} (aO:∀id o,ap hp id=some o->id<ct):∀id o,ap (own hp ct r).2.1 id=some o->id<(own hp ct r).2.2:=by
 have hL:∀(vs:List AV) (hp:Hp) (ct:Nat),(∀id o,ap hp id=some o->id<ct)->∀id o,ap (iz hp ct vs).2.1 id=some o->id<(iz hp ct vs).2.2:=by
  intro vs
  induction vs with
  | nil=>intro hp ct h id o ho;exact h id o ho
  | cons v r ih=>intro hp ct h id o ho;exact ih _ _ (Ez h) id o ho
 cases r with
 | av vs=>exact hL vs hp ct aO
 | _=>exact Ez aO
def ahS {hp:Hp} {ct:Nat} {r:AV} (aO:∀id o,ap hp id=some o->id<ct):∀id o,ap hp id=some o->ap (own hp ct r).2.1 id=some o:=by
 cases r with
 | av vs=>exact IB aO
 | _=>exact Mw aO
def ahT {hp:Hp} {ct:Nat} {r:AV}:ct<=(own hp ct r).2.2:=by
 cases r with
 | av vs=>exact IA
 | _=>exact Iz
def adP {hp:Hp} {ct:Nat} {r:AV}:∀id o,ap (own hp ct r).2.1 id=some o->id<ct->ap hp id=some o:=by
 have h1:∀(hp:Hp) (ct:Nat) (r:AV) id o,ap (et hp ct r).2.1 id=some o->id<ct->ap hp id=some o:=by
  intro hp ct r id o h hc;cases r<;>simp only [et] at h<;>try exact h
  rw [ep,yE (by omega)] at h;exact h
 have hL:∀(vs:List AV) (hp:Hp) (ct:Nat) id o,ap (iz hp ct vs).2.1 id=some o->id<ct->ap hp id=some o:=by
  intro vs
  induction vs with
  | nil=>intro hp ct id o ho _;exact ho
  | cons v r ih=>intro hp ct id o ho hc;exact h1 hp ct v id o (ih _ _ id o ho (by have:=Iz (hp:=hp) (ct:=ct) (r:=v);omega)) hc
 cases r with
 | av vs=>exact hL vs hp ct
 | _=>exact h1 hp ct _
structure fX (hp:Hp) (ct:Nat) (an:Hp) (aT:Nat):Prop where
 le:cy hp an
 mY:ct<=aT
 lt:∀id o,ap an id=some o->id<aT
 back:∀id o,ap an id=some o->id<ct->∃o',ap hp id=some o'
def fX.refl (aO:∀id o,ap hp id=some o->id<ct):fX hp ct hp ct:=⟨cy.refl,yv _,aO,fun _ o h _=>⟨o,h⟩⟩
def fX.trans {FC:Hp} {Ww:Nat} (h:fX hp ct an aT) (k:fX an aT FC Ww):fX hp ct FC Ww:=
 ⟨h.le.trans k.le,xi h.mY k.mY,k.lt,fun id o ho hi=>let ⟨o1,h1⟩:=k.back id o ho (Nat.lt_of_lt_of_le hi h.mY);h.back id o1 h1 hi⟩
def R6 {I9 aj:List AV} {bi:Hp} (hz:cm deep hp I9=some (aj,bi)) (aO:∀id o,ap hp id=some o->id<ct):fX hp ct bi ct:=by
 obtain ⟨z1,z2,_⟩:=Lo (O:=⟨default,⟨fun _=>none,fun _=>none⟩,fun _=>0,fun _=>none,fun _=>⟨0,fun _=>none,fun _=>[],fun _=>none,fun _=> .pure,fun _=>[]⟩,default⟩) hz;have hb:∀id o,ap bi id=some o->∃o',ap hp id=some o':=fun id o h=>by
  have:=z2 id
  rw [h] at this
  cases hq:ap hp id with
  | none=>rw [hq] at this;cases this
  | some q=>exact ⟨q,rfl⟩
 exact ⟨z1,yv _,fun id o h=>let ⟨o',h'⟩:=hb id o h;aO id o' h',fun id o h _=>hb id o h⟩
def abS {r:AV} (aO:∀id o,ap hp id=some o->id<ct):fX hp ct (own hp ct r).2.1 (own hp ct r).2.2:=
 ⟨fun id o h=>⟨o,ahS aO id o h,gm.refl o⟩,ahT,ahR aO,fun id o h hi=>⟨o,adP id o h hi⟩⟩
def QF {P:aR} {L:Lib} {q:Op} {v:AV} (hk:a8 q<=1) (hv:aW P L self tm hp ct q=some (v,an,aT)) (aO:∀id o,ap hp id=some o->id<ct):fX hp ct an aT:=by
 have b6:∀{q:Op},(match ck tm hp ct q with | some (v,b)=>some (v,(ct,b)::hp,ct+1) | none=>(none:fj))=some (v,an,aT)->fX hp ct an aT:=by
  intro q h
  cases hm:ck tm hp ct q with
  | none=>simp [hm] at h
  | some r=>
   obtain ⟨v1,b⟩:=r;simp only [hm,yb,yk] at h;obtain ⟨rfl,rfl,rfl⟩:=h;refine ⟨fun id o ho=>⟨o,?_,gm.refl o⟩,by omega,fun id o ho=>?_,fun id o ho hi=>?_⟩
   ·rw [ep,yE (by have:=aO id o ho;omega)];exact ho
   ·rw [ep] at ho;by_cases hc:ct=id
    ·omega
    ·simp only [hc,y8] at ho;have:=aO id o ho;omega
   ·rw [ep,yE (by omega)] at ho;exact ⟨o,ho⟩
 have gQ:∀{q:Op},(match a7 tm hp q with | some v=>some (v,hp,ct) | none=>(none:fj))=some (v,an,aT)->fX hp ct an aT:=by
  intro q h
  cases hm:a7 tm hp q with
  | none=>simp [hm] at h
  | some r=>
   simp only [hm,yb,yk] at h;obtain ⟨rfl,rfl,rfl⟩:=h;exact fX.refl aO
 cases bB:q with
 | st _ _ _=>simp [bB,a8] at hk
 | mS _ _ _ _=>simp [bB,a8] at hk
 | mU _=>simp [bB,a8] at hk
 | cD _ _ _ _=>simp [bB,a8] at hk
 | mW _ _ _=>simp [bB,a8] at hk
 | gE _ _ _=>simp [bB,a8] at hk
 | iR _ _ _ _=>simp [bB,a8] at hk
 | jj _ _ _ _ _=>simp [bB,a8] at hk
 | mV sz b x y=>
  rw [bB] at hv;simp only [aW] at hv
  cases hm:ow hp ct sz b (ao tm x) (fW hp sz (ao tm y)) with
  | none=>simp [hm] at hv
  | some r=>
   obtain ⟨v1,b⟩:=r;simp only [hm,yb,yk] at hv;obtain ⟨rfl,rfl,rfl⟩:=hv;refine ⟨fun id o ho=>⟨o,?_,gm.refl o⟩,by omega,fun id o ho=>?_,fun id o ho hi=>?_⟩
   ·rw [ep,yE (by have:=aO id o ho;omega)];exact ho
   ·rw [ep] at ho;by_cases hc:ct=id
    ·omega
    ·simp only [hc,y8] at ho;have:=aO id o ho;omega
   ·rw [ep,yE (by omega)] at ho;exact ⟨o,ho⟩
 | box s x=>exact b6 (q:=q) (by rw [bB] at hv ⊢;simp only [aW] at hv;exact hv)
 | fB n s z ps=>exact b6 (q:=q) (by rw [bB] at hv ⊢;simp only [aW] at hv;exact hv)
 | lU s b z x y=>exact b6 (q:=q) (by rw [bB] at hv ⊢;simp only [aW] at hv;exact hv)
 | qJ=>exact b6 (q:=q) (by rw [bB] at hv ⊢;simp only [aW] at hv;exact hv)
 | mT x=>exact b6 (q:=q) (by rw [bB] at hv ⊢;simp only [aW] at hv;exact hv)
 | call md x xs=>
  subst bB;simp only [aW,dO] at hv
  split at hv
  ·rename_i g first cap hx
   cases md with
   | heap=>simp [a8] at hk
   | dyn=>simp [a8] at hk
   | pure=>
    simp only at hv
    cases hz:cm deep hp (first++(cX tm xs++cap)) with
    | none=>simp [hz] at hv
    | some z=>
     obtain ⟨aj,bi⟩:=z;simp only [hz] at hv
     cases hr:bA P L self g aj with
     | none=>simp [hr] at hv
     | some r=>
      simp only [hr,yb,yk] at hv;obtain ⟨rfl,rfl,rfl⟩:=hv;exact R6 hz aO
   | own=>
    simp only at hv
    cases hz:cm deep hp (first++(cX tm xs++cap)) with
    | none=>simp [hz] at hv
    | some z=>
     obtain ⟨aj,bi⟩:=z;simp only [hz] at hv
     cases hr:bA P L self g aj with
     | none=>simp [hr] at hv
     | some r=>
      simp only [hr,yb] at hv;have e2:an=(own bi ct r).2.1:=by rw [hv]
      have e3:aT=(own bi ct r).2.2:=by rw [hv]
      subst e2;subst e3;have g1:=R6 hz aO;exact g1.trans (abS g1.lt)
  ·cases md with
   | heap=>simp [a8] at hk
   | dyn=>simp [a8] at hk
   | _=>simp at hv
  ·cases hv
 | _=>exact gQ (q:=q) (by rw [bB] at hv ⊢;simp only [aW] at hv;exact hv)
def Ic (hh:aQ O m S w hp ct) (hg:fX hp ct an aT):∃S',aQ O m S' w an aT/\(∀b,S b->S' b)/\(∀b,S' b->S b\/dB m hp b)/\∀base,bM m S w hp m S' w an base:=by
 have hd:∀id o p,ap an id=some o->m id=some p->∃o',ap hp id=some o':=fun id o p h hm=>hg.back id o h (hh.lt id p hm)
 obtain ⟨S',g1,g2,g3⟩:=TM hh hg.le hd hg.mY hg.lt;refine ⟨S',g1,g2,g3,fun base=>⟨rfl,rfl,rfl,yv _,fun _ _ _=>rfl,g2,fun _ _=>rfl,fun b hb=>(g3 b hb).imp (fun h=>h) .inl,?_,fun _ _ _ h=>h,fun _ r h=>⟨r,h⟩⟩⟩;rintro b ⟨i,o,p,h1,h2,h3⟩;obtain ⟨o',h4⟩:=hd i o p h1 h2;exact .inl ⟨i,o',p,h4,h2,h3⟩
def adQ {q:Op} {v:AV} (hv:bT tm hp ct q=some (v,an,aT)):ct<=aT:=by
 cases q<;>simp only [bT,reduceCtorEq] at hv
 all_goals
  grind
def L7 {P:yK} {H:Hint} {o:yL} {rs:List (Nat×Bool×Nat)} {x:X} {xs:List X} (hq:kM P H (.gE rs x xs) o):∃c f,o.op= .call c/\c.callee= .value f/\x=aH H f/\xs=fC H c.args.toList:=by
 rcases hq with ⟨k,hk⟩ | ⟨c,f,Ya,h1,h2,h3⟩ | ⟨_,_,_,_,_,_,_,h3⟩ | ⟨_,_,_,_,_,_,_,h3⟩ | ⟨_,_,_,_,_,_,h3⟩ | ⟨_,_,_,_,_,_,h3⟩
 ·cases ho:o.op with
  | call c=>
   obtain ⟨callee,args,ts⟩:=c;simp only [aJ,ho] at hk
   split at hk
   ·rename_i f;cases hm:H.mode k<;>simp only [hm,Op.gE.injEq,reduceCtorEq] at hk
    exact ⟨_,f,rfl,rfl,hk.2.1,hk.2.2⟩
   ·repeat' split at hk
    all_goals first
     | (cases hk;done)
     | (simp only [bad] at hk;cases hk;done)
     | (revert hk;generalize ym _ _=bb;intro hk;cases bb<;>simp [bad] at hk)
   ·simp only [bad] at hk;cases hk
  | binOp op t x' y ty=>
   cases op<;>simp only [aJ,ho,kF,lB] at hk
   case eql=>
         repeat' split at hk
         all_goals first
          | (cases hk;done)
          | (simp only [bad] at hk;cases hk;done)
          | (cases bK:(P.stoodInHeld t||P.eqGuardType P.depth t)<;>rw [bK] at hk<;>simp [bad] at hk)
   case neq=>
         repeat' split at hk
         all_goals first
          | (cases hk;done)
          | (simp only [bad] at hk;cases hk;done)
          | (cases bK:(P.stoodInHeld t||P.eqGuardType P.depth t)<;>rw [bK] at hk<;>simp [bad] at hk)
   all_goals cases hk
  | buildSlice t n parts=>
   simp only [aJ,ho] at hk
   repeat' split at hk
   all_goals first
    | (cases hk;done)
    | (simp only [bad] at hk;cases hk;done)
    | (revert hk;generalize yx _ _=bb;intro hk;cases bb<;>simp [bad] at hk)
  | makeMap t r=>
   cases r<;>simp only [aJ,ho] at hk
   ·repeat' split at hk
    all_goals first
     | (cases hk;done)
     | (simp only [bad] at hk;cases hk;done)
   ·simp only [bad] at hk;cases hk
  | next x' b=>
   cases b<;>simp only [aJ,ho] at hk
   ·simp only [bad] at hk;cases hk
   ·cases hk
  | _=>
   simp only [aJ,ho] at hk
   (repeat' split at hk)
   all_goals first
    | contradiction
    | (cases hk;done)
    | (simp only [bad] at hk;cases hk;done)
 ·simp only [Op.gE.injEq] at h3;exact ⟨c,f,h1,h2,h3.2.1,h3.2.2⟩
 ·cases h3
 ·cases h3
 ·cases h3
 ·cases h3
def aaT {P:yK} {H:Hint} {o:yL} {k:Nat} {rs:List (Nat×Bool×Nat)} {sz:Nat} {x y:X} (hk:Op.iR rs sz x y=aJ P H k o):False:=by
 cases ho:o.op with
 | call c=>
  obtain ⟨callee,args,ts⟩:=c;simp only [aJ,ho] at hk
  split at hk
  ·grind
  ·repeat' split at hk
   all_goals first
    | (cases hk;done)
    | (simp only [bad] at hk;cases hk;done)
    | (revert hk;generalize ym _ _=bb;intro hk;cases bb<;>simp [bad] at hk)
  ·simp only [bad] at hk;cases hk
 | binOp op t x' y ty=>
  cases op<;>simp only [aJ,ho,kF,lB] at hk
  case eql=>
        repeat' split at hk
        all_goals first
         | (cases hk;done)
         | (simp only [bad] at hk;cases hk;done)
         | (cases bK:(P.stoodInHeld t||P.eqGuardType P.depth t)<;>rw [bK] at hk<;>simp [bad] at hk)
  case neq=>
        repeat' split at hk
        all_goals first
         | (cases hk;done)
         | (simp only [bad] at hk;cases hk;done)
         | (cases bK:(P.stoodInHeld t||P.eqGuardType P.depth t)<;>rw [bK] at hk<;>simp [bad] at hk)
  all_goals cases hk
 | buildSlice t n parts=>
  simp only [aJ,ho] at hk
  repeat' split at hk
  all_goals first
   | (cases hk;done)
   | (simp only [bad] at hk;cases hk;done)
   | (revert hk;generalize yx _ _=bb;intro hk;cases bb<;>simp [bad] at hk)
 | makeMap t r=>
  cases r<;>simp only [aJ,ho] at hk
  ·repeat' split at hk
   all_goals first
    | (cases hk;done)
    | (simp only [bad] at hk;cases hk;done)
  ·simp only [bad] at hk;cases hk
 | next x' b=>
  cases b<;>simp only [aJ,ho] at hk
  ·simp only [bad] at hk;cases hk
  ·cases hk
 | _=>
  simp only [aJ,ho] at hk
  (repeat' split at hk)
  all_goals first
   | contradiction
   | (cases hk;done)
   | (simp only [bad] at hk;cases hk;done)
def aaU {P:yK} {H:Hint} {o:yL} {k:Nat} {rs:List (Nat×Bool×Nat)} {sz b:Nat} {x y:X} (hk:Op.jj rs sz b x y=aJ P H k o):False:=by
 cases ho:o.op with
 | call c=>
  obtain ⟨callee,args,ts⟩:=c;simp only [aJ,ho] at hk
  split at hk
  ·rename_i f;cases hm:H.mode k<;>simp only [hm,reduceCtorEq] at hk
  ·repeat' split at hk
   all_goals first
    | (cases hk;done)
    | (simp only [bad] at hk;cases hk;done)
    | (revert hk;generalize ym _ _=bb;intro hk;cases bb<;>simp [bad] at hk)
  ·simp only [bad] at hk;cases hk
 | binOp op t x' y ty=>
  cases op<;>simp only [aJ,ho,kF,lB] at hk
  case eql=>
        repeat' split at hk
        all_goals first
         | (cases hk;done)
         | (simp only [bad] at hk;cases hk;done)
         | (cases bK:(P.stoodInHeld t||P.eqGuardType P.depth t)<;>rw [bK] at hk<;>simp [bad] at hk)
  case neq=>
        repeat' split at hk
        all_goals first
         | (cases hk;done)
         | (simp only [bad] at hk;cases hk;done)
         | (cases bK:(P.stoodInHeld t||P.eqGuardType P.depth t)<;>rw [bK] at hk<;>simp [bad] at hk)
  all_goals cases hk
 | buildSlice t n parts=>
  simp only [aJ,ho] at hk
  repeat' split at hk
  all_goals first
   | (cases hk;done)
   | (simp only [bad] at hk;cases hk;done)
   | (revert hk;generalize yx _ _=bb;intro hk;cases bb<;>simp [bad] at hk)
 | makeMap t r=>
  cases r<;>simp only [aJ,ho] at hk
  ·repeat' split at hk
   all_goals first
    | (cases hk;done)
    | (simp only [bad] at hk;cases hk;done)
  ·simp only [bad] at hk;cases hk
 | next x' b=>
  cases b<;>simp only [aJ,ho] at hk
  ·simp only [bad] at hk;cases hk
  ·cases hk
 | _=>
  simp only [aJ,ho] at hk
  (repeat' split at hk)
  all_goals first
   | contradiction
   | (cases hk;done)
   | (simp only [bad] at hk;cases hk;done)
def akR {P:yK} {H:Hint} {o:yL} {sz:Nat} {x y:X} (hq:kM P H (.st sz x y) o):∃t x' y',o.op= .store t x' y'/\bX P t=some sz/\x=aH H x'/\y=aH H y':=by
 obtain ⟨k,hk⟩:∃k,Op.st sz x y=aJ P H k o:=by
  rcases hq with h | ⟨_,_,_,_,_,h⟩ | ⟨_,_,_,_,_,_,_,h⟩ | ⟨_,_,_,_,_,_,_,h⟩ | ⟨_,_,_,_,_,_,h⟩ | ⟨_,_,_,_,_,_,h⟩
  ·exact h
  ·cases h
  ·cases h
  ·cases h
  ·cases h
  ·cases h
 cases ho:o.op with
 | call c=>
  obtain ⟨callee,args,ts⟩:=c;simp only [aJ,ho] at hk
  split at hk
  ·rename_i f;cases hm:H.mode k<;>simp only [hm,reduceCtorEq] at hk
  ·repeat' split at hk
   all_goals first
    | (cases hk;done)
    | (simp only [bad] at hk;cases hk;done)
    | (revert hk;generalize ym _ _=bb;intro hk;cases bb<;>simp [bad] at hk)
  ·simp only [bad] at hk;cases hk
 | binOp op t x' y ty=>
  cases op<;>simp only [aJ,ho,kF,lB] at hk
  case eql=>
        repeat' split at hk
        all_goals first
         | (cases hk;done)
         | (simp only [bad] at hk;cases hk;done)
         | (cases bK:(P.stoodInHeld t||P.eqGuardType P.depth t)<;>rw [bK] at hk<;>simp [bad] at hk)
  case neq=>
        repeat' split at hk
        all_goals first
         | (cases hk;done)
         | (simp only [bad] at hk;cases hk;done)
         | (cases bK:(P.stoodInHeld t||P.eqGuardType P.depth t)<;>rw [bK] at hk<;>simp [bad] at hk)
  all_goals cases hk
 | buildSlice t n parts=>
  simp only [aJ,ho] at hk
  repeat' split at hk
  all_goals first
   | (cases hk;done)
   | (simp only [bad] at hk;cases hk;done)
   | (revert hk;generalize yx _ _=bb;intro hk;cases bb<;>simp [bad] at hk)
 | makeMap t r=>
  cases r<;>simp only [aJ,ho] at hk
  ·repeat' split at hk
   all_goals first
    | (cases hk;done)
    | (simp only [bad] at hk;cases hk;done)
  ·simp only [bad] at hk;cases hk
 | next x' b=>
  cases b<;>simp only [aJ,ho] at hk
  ·simp only [bad] at hk;cases hk
  ·cases hk
 | store t x' y'=>
  simp only [aJ,ho] at hk
  split at hk
  ·rename_i s hs;simp only [Op.st.injEq] at hk;obtain ⟨rfl,rfl,rfl⟩:=hk;exact ⟨t,x',y',rfl,hs,rfl,rfl⟩
  ·simp only [bad] at hk;cases hk
 | _=>
  simp only [aJ,ho] at hk
  (repeat' split at hk)
  all_goals first
   | contradiction
   | (cases hk;done)
   | (simp only [bad] at hk;cases hk;done)
def UF {P:yK} {H:Hint} {o:yL} {rs:List (Nat×Bool×Nat)} {sz:Nat} {x y:X} (hq:kM P H (.iR rs sz x y) o):∃t x' y',o.op= .store t x' y'/\bX P t=some sz/\x=aH H x'/\y=aH H y':=by
 rcases hq with ⟨k,hk⟩ | ⟨_,_,_,_,_,h3⟩ | ⟨t,x',y',kx,Ya,h1,h2,h3⟩ | ⟨_,_,_,_,_,_,_,h3⟩ | ⟨_,_,_,_,_,_,h3⟩ | ⟨_,_,_,_,_,_,h3⟩
 ·exact (aaT hk).elim
 ·cases h3
 ·simp only [Op.iR.injEq] at h3;obtain ⟨_,rfl,rfl,rfl⟩:=h3;exact ⟨t,x',y',h1,h2,rfl,rfl⟩
 ·cases h3
 ·cases h3
 ·cases h3
def UG {P:yK} {H:Hint} {o:yL} {rs:List (Nat×Bool×Nat)} {sz b:Nat} {x y:X} (hq:kM P H (.jj rs sz b x y) o):∃k,Op.cD sz b x y=aJ P H k o:=by
 rcases hq with ⟨k,hk⟩ | ⟨_,_,_,_,_,h3⟩ | ⟨_,_,_,_,_,_,_,h3⟩ | ⟨k,Ya,kx,b',x',y',h1,h3⟩ | ⟨_,_,_,_,_,_,h3⟩ | ⟨_,_,_,_,_,_,h3⟩
 ·exact (aaU hk).elim
 ·cases h3
 ·cases h3
 ·simp only [Op.jj.injEq] at h3;obtain ⟨_,rfl,rfl,rfl,rfl⟩:=h3;exact ⟨k,h1⟩
 ·cases h3
 ·cases h3
def UH {P:yK} {H:Hint} {o:yL} {sz b:Nat} {x y:X} (hq:kM P H (.cD sz b x y) o):∃k,Op.cD sz b x y=aJ P H k o:=by
 rcases hq with h | ⟨_,_,_,_,_,h3⟩ | ⟨_,_,_,_,_,_,_,h3⟩ | ⟨_,_,_,_,_,_,_,h3⟩ | ⟨_,_,_,_,_,_,h3⟩ | ⟨_,_,_,_,_,_,h3⟩
 ·exact h
 ·cases h3
 ·cases h3
 ·cases h3
 ·cases h3
 ·cases h3
def aaV {P:yK} {H:Hint} {q:Op} {o:yL} (hq:kM P H q o):kM P H (gH q) o:=by
 cases h:q with
 | gE rs f xs=>
  subst h;obtain ⟨c,f',g1,g2,g3,g4⟩:=L7 hq;exact .inr (.inl ⟨c,f',[],g1,g2,by rw [g3,g4];rfl⟩)
 | iR rs sz x y=>
  subst h;obtain ⟨t,x',y',g1,g2,g3,g4⟩:=UF hq;refine .inl ⟨0,?_⟩;simp only [gH,aJ,g1,g2,g3,g4]
 | jj rs sz b x y=>
  subst h;exact .inl (UG hq)
 | _=>subst h;exact hq
def SP (hC:lC O self) (hH:dZ O H) {o:yL} {q:Op} {v:AV} (hq:kM O.P H q o) (hd:∀c,o.op≠.defer c) (hv:aW O.prog O.aG self tm hp ct q=some (v,an,aT))
  (ht:bH O m S w tm a.tmps) (hh:aQ O m S w hp ct)
  (hn:∀u m' S' w',aQ O m' S' w' an aT->ct<=aT->ae O.ab m' S' w' v u->bM m S w hp m' S' w' an ct->next (a.put o.dst u) w'):o.wpIn (WF ro) 0 O.P a w next Q:=by
 have quiet:a8 q<=1->o.wpIn (WF ro) 0 O.P a w next Q:=by
  intro hk;have hg:=QF hk hv hh.aO;obtain ⟨S1,g1,g2,g3,g4⟩:=Ic hh hg;refine quiet_step hC hH hk hq hd hv cy.refl (yv _) hh.aO (fun id h1 h2=>?_) (rB (fun _ _ h=>h) g2 (fun _ _=>rfl) ht) g1 (fun u m' S' w' k1 k2 k3 k4 k5=>hn u m' S' w' k1 hg.mY k4 ((g4 ct).trans (k5.oD hg.mY)))
  cases hm:m id with
  | none=>rfl
  | some p=>have:=hh.lt id p hm;omega
 have MS:∀{q':Op},(∃k,q'=aJ O.P H k o)->bT tm hp ct q'=some (v,an,aT)->o.wpIn (WF ro) 0 O.P a w next Q:=by
  intro q' fk hw;obtain ⟨k,rfl⟩:=fk;obtain ⟨n,u,w',m',S',h1,h2,h3,h4,h5,h6⟩:=afG hH ht hh hw;exact BM hd h1 h2 (hn u m' S' w' h3 (adQ hw) h4 h6)
 have write:bT tm hp ct q=some (v,an,aT)->o.wpIn (WF ro) 0 O.P a w next Q:=by
  intro hw;refine MS ?_ hw;rcases hq with h | ⟨c,f,rs,_,_,rfl⟩ | ⟨_,_,_,_,_,_,_,rfl⟩ | ⟨_,_,_,_,_,_,_,rfl⟩ | ⟨_,_,_,_,_,_,rfl⟩ | ⟨_,_,_,_,_,_,rfl⟩
  ·exact h
  ·simp [bT] at hw
  ·simp [bT] at hw
  ·simp [bT] at hw
  ·simp [bT] at hw
  ·simp [bT] at hw
 have heap:∀{c:uy} {f:xe} {g:Nat} {first cap:List AV},o.op= .call c->c.callee= .value f->ao tm (aH H f)= .fn (.f g) first cap->
   gD O.prog O.aG self hp ct g (first++(cX tm (fC H c.args.toList)++cap))=some (v,an,aT)->o.wpIn (WF ro) 0 O.P a w next Q:=by
  intro c f g first cap ho gn hx he;obtain ⟨fi,ca,h1,h2⟩:=Ib hH ht (args:=c.args) hx;refine HG ho gn h1 (hC.heap _ _ _ _ _ _ _ he m S w _ hh h2) ?_;rintro e w' ⟨u,m',S',rfl,k1,k2,k3,k4⟩;exact ⟨u,rfl,hn u m' S' w' k1 k2 k3 k4⟩
 have round:∀{c:uy} {f:xe} {l:Nat} {x y:List AV},o.op= .call c->c.callee= .value f->ao tm (aH H f)= .fn (.y l) x y->
   lA self hp ct l (cX tm (fC H c.args.toList))=some (v,an,aT)->o.wpIn (WF ro) 0 O.P a w next Q:=by
  intro c f l x y ho gn hx he;have rf:=bI hH ht f;rw [hx] at rf;simp only [ae] at rf;obtain ⟨p,hm,hf⟩:=rf;have dF:=zW hH ht c.args.toList;obtain ⟨g,tmps,cf,body,h1,h2⟩:=hC.round _ _ _ _ _ _ _ he m S w (c.args.map a.eval) p hh hm (by simpa using dF);refine adL ho gn hf h1 h2 ?_;rintro e w' ⟨u,m',S',rfl,k1,k2,k3,k4⟩;exact ⟨u,rfl,hn u m' S' w' k1 k2 k3 k4⟩
 have dyn:∀{c:uy} {f:xe},o.op= .call c->c.callee= .value f->dO O.prog O.aG self hp ct .dyn (ao tm (aH H f)) (cX tm (fC H c.args.toList))=some (v,an,aT)->o.wpIn (WF ro) 0 O.P a w next Q:=by
  intro c f ho gn he;unfold dO at he
  split at he
  ·rename_i g first cap hx
   (try simp only at he)
   cases hp0:aC (first++(cX tm (fC H c.args.toList)++cap)) with
   | true=>
    rw [hp0] at he;simp only [yp] at he
    cases hr:bA O.prog O.aG self g (first++(cX tm (fC H c.args.toList)++cap)) with
    | none=>simp [hr] at he
    | some r=>
     simp only [hr,yb,yk] at he;obtain ⟨rfl,rfl,rfl⟩:=he;obtain ⟨fi,ca,h1,h2⟩:=Ib hH ht (args:=c.args) hx;refine HG ho gn h1 (hC.pure g _ r hr w S _ (Mx hh) hh.slt (pD (fun _ h=>h) (fun _ _=>rfl) _ _ hp0 h2) hp0) ?_;rintro e w' ⟨u,S',rfl,hw,g1,g2,g3,g4⟩;obtain ⟨S2,k1,k2,k3⟩:=R1 g4 m;have hS:∀b,S b->S2 b:=fun b hb=>k1 b (g1 b hb)
     have sY:∀b,S2 b->S b\/w.heap.size<=b:=fun b hb=>(k2 b hb).elim (g2 b) (fun h=> .inr h.1)
     have hl:∀b,S2 b->b<w'.heap.size:=fun b hb=>(k2 b hb).elim (g3 b) (fun h=>h.2)
     exact ⟨u,rfl,hn u m S2 w' (rC hh hw hS sY hl) (yv _) k3 (pG hh hw hS sY)⟩
   | false=>
    rw [hp0] at he;simp only [yI] at he;exact heap ho gn hx he
  ·rename_i l x y hx;exact round ho gn hx he
  ·cases he
 cases bB:q with
 | gE rs x xs=>
  subst bB;simp only [aW] at hv;have key:=L7 hq;obtain ⟨c,f,ho,gn,rfl,rfl⟩:=key
  cases hc:dO O.prog O.aG self hp ct .dyn (ao tm (aH H f)) (cX tm (fC H c.args.toList)) with
  | none=>simp [hc] at hv
  | some r=>
   obtain ⟨v1,bi,mb⟩:=r;simp only [hc] at hv
   cases hs:mv tm hp bi rs with
   | false=>rw [hs] at hv;cases hv
   | true=>
    rw [hs] at hv;simp only [yp,yb,yk] at hv;obtain ⟨rfl,rfl,rfl⟩:=hv;exact dyn ho gn hc
 | call md x xs=>
  subst bB;have fk:∃k,Op.call md x xs=aJ O.P H k o:=by
   rcases hq with h | ⟨c,f,rs,_,_,h⟩ | ⟨_,_,_,_,_,_,_,h⟩ | ⟨_,_,_,_,_,_,_,h⟩ | ⟨_,_,_,_,_,_,h⟩ | ⟨_,_,_,_,_,_,h⟩
   ·exact h
   ·cases h
   ·cases h
   ·cases h
   ·cases h
   ·cases h
  obtain ⟨k,hk⟩:=fk
  cases md with
  | pure=>exact quiet (by simp [a8])
  | own=>exact quiet (by simp [a8])
  | heap=>
   simp only [aW] at hv;obtain ⟨c,f,ho,gn,rfl,rfl⟩:=IC hk.symm (by rintro rfl;simp [ao,dO] at hv);unfold dO at hv
   split at hv
   ·rename_i g first cap hx;exact heap ho gn hx hv
   ·rename_i l x y hx;exact round ho gn hx hv
   ·cases hv
  | dyn=>
   simp only [aW] at hv;obtain ⟨c,f,ho,gn,rfl,rfl⟩:=IC hk.symm (by rintro rfl;simp [ao,dO] at hv);exact dyn ho gn hv
 | iR rs s x y=>
  subst bB;obtain ⟨t,x',y',g1,g2,g3,g4⟩:=UF hq;simp only [aW] at hv
  split at hv
  ·rename_i id off hx
   cases hf:jw tm id rs with
   | false=>rw [hf] at hv;cases hv
   | true=>
    rw [hf] at hv;simp only [yp] at hv
    exact MS (q':= .st s x y) ⟨0,by simp only [aJ,g1,g2,g3,g4]⟩ hv
  ·cases hv
 | jj rs s b x y=>
  subst bB;simp only [aW] at hv
  cases hc:bT tm hp ct (.cD s b x y) with
  | none=>simp [hc] at hv
  | some r=>
   obtain ⟨v1,bi,mb⟩:=r;simp only [hc] at hv
   cases hs:(Ca tm (ao tm x) rs||mv tm hp bi rs) with
   | false=>rw [hs] at hv;cases hv
   | true=>
    rw [hs] at hv;simp only [yp,yb,yk] at hv;obtain ⟨rfl,rfl,rfl⟩:=hv
    exact MS (q':= .cD s b x y) (UG hq) hc
 | st s x y=>subst bB;exact write (by simpa only [aW] using hv)
 | mS kk x y z=>subst bB;exact write (by simpa only [aW] using hv)
 | mU x=>subst bB;exact write (by simpa only [aW] using hv)
 | cD s b x y=>subst bB;exact write (by simpa only [aW] using hv)
 | mW s x y=>subst bB;exact write (by simpa only [aW] using hv)
 | mR k x lo hi=>subst bB;exact quiet (by cases k<;>simp [a8])
 | len k x=>subst bB;exact quiet (by rcases k with _ | _ | k<;>simp [a8])
 | _=>subst bB;exact quiet (by simp [a8])
end
end
section
open Go
def mH (tm:Env) (g:Option (Nat×Bool)):Option Bool:=
 match g with
 | none=>some true
 | some (t,b)=>match ah tm t with | .bool c=>some (c==b) | .av []=>some false | _=>none
def dU (P:aR) (L:Lib) (self:bZ) (tm:Env) (hp:Hp) (ct:Nat) (r:aM):fj:=
 match mH tm r.guard with
 | some true=>aW P L self tm hp ct r.op
 | some false=>some (.av [],hp,ct)
 | none=>none
def Q8 {P:aR} {L:Lib} {self:bZ} {r:aM} {rs:List aM} {s:St}:
  cI P L self (r::rs) s=match dU P L self s.tm s.hp s.ct r with | some (v,hp,ct)=>cI P L self rs {s with tm:=put r.dst v s.tm,hp:=hp,ct:=ct} | none=>none:=by
 obtain ⟨d,g,o⟩:=r;simp only [cI,dU]
 cases g with
 | none=>rfl
 | some q=>
  obtain ⟨t,b⟩:=q;simp only [mH];generalize ah s.tm t=x
  cases x with
  | bool c=>
   simp only;cases (c==b)<;>rfl
  | av vs=>cases vs<;>rfl
  | _=>rfl
def TX (ops:Array yL) (g:Option (Nat×Bool)) (g':Option (Nat×Bool)):Prop:=
 (g=none/\g'=none)\/∃t b j,g=some (t,b)/\g'=some (j,b)/\(ops[j]?).bind (·.dst)=some t
structure Au (P:yK) (H:Hint) (ops:Array yL) (r:aM) (o:yL):Prop where
 op:kM P H r.op o
 dst:r.dst=o.dst
 ok:Fk H o.dst=true
 guard:TX ops r.guard o.guard
def dH (P:yK) (H:Hint) (ops:Array yL):List aM->List yL->Prop
 | [],[]=>True
 | r::rs,o::l=>(Au P H ops r o\/(r.guard=none/\r.op=bad))/\dH P H ops rs l
 | _,_=>False
def Q9 {P:yK} {H:Hint} {ops:Array yL}:∀(l:List yL) (k:Nat),dH P H ops (zR P H ops l k).1 l
 | [],k=>by simp [zR,dH]
 | o::l,k=>by
  have ih:=Q9 (P:=P) (H:=H) (ops:=ops) l (k+(bif MP o then 1 else 0));simp only [zR];generalize hq:zR P H ops l (k+(bif MP o then 1 else 0))=q at ih;obtain ⟨l',k'⟩:=q;simp only;have NP:dH P H ops (⟨o.dst,none,bad⟩::l') (o::l):=⟨.inr ⟨rfl,rfl⟩,ih⟩
  cases hg:o.guard with
  | none=>
   simp only
   cases hd:Fk H o.dst with
   | false=>exact NP
   | true=>exact ⟨.inl ⟨.inl ⟨k,rfl⟩,rfl,hd,.inl ⟨rfl,hg⟩⟩,ih⟩
  | some p=>
   obtain ⟨j,b⟩:=p;simp only
   cases ht:(ops[j]?).bind (·.dst) with
   | none=>exact NP
   | some t=>
    simp only
    cases hd:Fk H o.dst with
    | false=>exact NP
    | true=>exact ⟨.inl ⟨.inl ⟨k,rfl⟩,rfl,hd,.inr ⟨t,b,j,rfl,hg,ht⟩⟩,ih⟩
section
variable {O:bh} {H:Hint} {m:Mp} {S:Nat->Prop} {w:yh} {tm:Env} {a:Act} {hp an:Hp} {ct aT:Nat} {self:bZ} {ro:Option Nat} {Q:um->Act->yh->Prop} {ops:Array yL}
def L8 {d:Option Nat} {v:AV} {tm:Env} {t:Nat}:ah (put d v tm) t=if d=some t then v else ah tm t:=by
 cases d with
 | none=>simp [put]
 | some i=>
  simp only [put,ah];by_cases h:i=t
  ·subst h;simp
  ·have:ym i t=false:=by
    cases hq:ym i t with
    | false=>rfl
    | true=>exact absurd (yi hq) h
   simp [this,h]
def Ie (a:Act) (d:Option Nat) (u:yg):(a.put d u).tmps.size=a.tmps.size:=by
 cases d with
 | none=>rfl
 | some i=>simp [Act.put]
def Ls (a:Act) (d:Option Nat) (u:yg):(a.put d u).defers=a.defers:=by
 cases d with
 | none=>rfl
 | some i=>rfl
def L9 {a:Act} {d:Option Nat} {u:yg} {t:Nat} (hd:∀i,d=some i->i<a.tmps.size):(a.put d u).tmps.getD t undef=if d=some t then u else a.tmps.getD t undef:=by
 cases d with
 | none=>simp [Act.put]
 | some i=>
  have hi:=hd i rfl;by_cases h:i=t
  ·subst h;simp [Act.put,hi]
  ·simp only [Act.put,yb,h,y8];simp [Array.getElem?_setIfInBounds_ne h]
def SQ {n:Nat} {d:Option Nat} (h:Fk H d=true) (hn:H.n<=n):∀i,d=some i->i<n:=by
 rintro i rfl
 have:=my.1 h
 omega
def Ma {d:Option Nat} {v:AV} {u:yg} (ht:bH O m S w tm a.tmps) (hd:∀i,d=some i->i<a.tmps.size) (hv:ae O.ab m S w v u):bH O m S w (put d v tm) (a.put d u).tmps:=fun t=>by
 rw [L8,L9 hd]
 split
 ·exact hv
 ·exact ht t
def R7 {o:yL} {g:Option (Nat×Bool)} {b:Bool} (hg:TX ops g o.guard) (ht:∀t,t∈Ng g->ae O.ab m S w (ah tm t) (a.tmps.getD t undef)) (hw:mH tm g=some b):Region.wanted o (yielded ops a.tmps)=b:=by
 rcases hg with ⟨rfl,h2⟩ | ⟨t,c,j,rfl,h2,h3⟩
 ·simp only [mH,yb] at hw;subst hw;simp [Region.wanted,h2]
 ·simp only [mH] at hw;have h4:=ht t (by simp [Ng]);simp only [Region.wanted,h2]
  split at hw
  ·rename_i d hd;rw [hd] at h4;simp only [ae] at h4;simp only [yb] at hw
   have:yielded ops a.tmps j=some d:=by
    simp only [yielded,h3,xN];have h5:a.tmps[t]? =some (.bool d):=by
     simp only [xT] at h4
     cases hq:a.tmps[t]? with
     | none=>rw [hq] at h4;simp [undef] at h4
     | some x=>rw [hq] at h4;simp at h4;rw [h4]
    rw [h5]
   rw [this,<-hw];cases d<;>cases c<;>rfl
  ·rename_i hd;rw [hd] at h4;simp only [ae,au] at h4;obtain ⟨xs,h4,h5⟩:=h4;simp only [yb] at hw;subst hw
   have:yielded ops a.tmps j=none:=by
    simp only [yielded,h3,xN];simp only [xT] at h4
    cases hq:a.tmps[t]? with
    | none=>rfl
    | some x=>rw [hq] at h4;simp at h4;rw [h4]
   rw [this];rfl
  ·cases hw
def QG {o:yL} {q:Op} (hq:kM O.P H q o) {r:AV×Hp×Nat} (hv:aW O.prog O.aG self tm hp ct q=some r):∀c,o.op≠.defer c:=by
 rcases hq with ⟨k,rfl⟩ | ⟨c,f,rs,h1,_,_⟩ | ⟨_,_,_,_,_,h1,_,_⟩ | ⟨k,rs,sz,b,x,y,h1,rfl⟩ | ⟨k,sz,b,x,y,h1,rfl⟩ | ⟨k,n,sz,z,ps,h1,rfl⟩
 ·exact aaO hv
 ·intro c' h;rw [h1] at h;cases h
 ·intro c' h;rw [h1] at h;cases h
 ·intro c' h;simp only [aJ,h] at h1;simp [bad] at h1
 ·intro c' h;simp only [aJ,h] at h1;simp [bad] at h1
 ·intro c' h;simp only [aJ,h] at h1;simp [bad] at h1
def afI (hC:lC O self) (hH:dZ O H) {i:Nat} {r:aM} {o:yL} {v:AV} (hi:ops[i]? =some o) (hr:Au O.P H ops r o\/(r.guard=none/\r.op=bad)) (hv:dU O.prog O.aG self tm hp ct r=some (v,an,aT))
  (ht:bH O m S w tm a.tmps) (hh:aQ O m S w hp ct) (hn:H.n<=a.tmps.size) {K:Act->yh->Prop}
  (hK:∀u m' S' w',aQ O m' S' w' an aT->ct<=aT->bH O m' S' w' (put r.dst v tm) (a.put o.dst u).tmps->bM m S w hp m' S' w' an ct->K (a.put o.dst u) w'):wpOpIn (WF ro) 0 O.P ops Q i K a w:=by
 rcases hr with hr | ⟨h1,h2⟩
 case inr=>
  simp only [dU,h1,mH,h2,bad,aW,dO,ao] at hv;cases hv
 unfold wpOpIn;simp only [hi];unfold dU at hv
 cases hw:mH tm r.guard with
 | none=>simp [hw] at hv
 | some b=>
  have O9:=R7 hr.guard (fun t _=>ht t) hw;have hd:=SQ hr.ok hn;rw [O9]
  cases b with
  | true=>
   simp only [hw] at hv;simp only [xm];refine SP hC hH hr.op (QG hr.op hv) hv ht hh (fun u m' S' w' k1 k2 k3 k4=>hK u m' S' w' k1 k2 ?_ k4);rw [hr.dst];exact Ma (rB (fun id p h=>k4.old id p (hh.lt id p h) h) k4.sub (fun b hb=>k4.still b hb) ht) hd k3
  | false=>
   simp only [hw,yb,yk] at hv;obtain ⟨rfl,rfl,rfl⟩:=hv;simp only [Bool.false_eq_true,y8];refine ⟨fun _ _=>trivial,hK undef m S w hh (yv _) ?_ bM.refl⟩;rw [hr.dst];exact Ma ht hd (by simp [ae,au,undef])
def TY (hC:lC O self) (hH:dZ O H):∀(l:List yL) (rs:List aM) (i:Nat) (s s':St) (a:Act) (m:Mp) (S:Nat->Prop) (w:yh),(∀j,l[j]? =ops[i+j]?)->dH O.P H ops rs l->
  cI O.prog O.aG self rs s=some s'->bH O m S w s.tm a.tmps->aQ O m S w s.hp s.ct->H.n<=a.tmps.size->
  (∀a' m' S' w',aQ O m' S' w' s'.hp s'.ct->s.ct<=s'.ct->bH O m' S' w' s'.tm a'.tmps->bM m S w s.hp m' S' w' s'.hp s.ct->a'.tmps.size=a.tmps.size->a'.defers=a.defers->s'.base=s.base->Q .normal a' w')->
  wpOpsIn (WF ro) 0 O.P ops Q (List.range' i l.length) a w
 | [],rs,i,s,s',a,m,S,w,hl,hr,hv,ht,hh,hn,hQ=>by
  cases rs with
  | cons _ _=>simp [dH] at hr
  | nil=>
   simp only [cI,yb] at hv;subst hv;simp only [List.length_nil,List.range'_zero,wpOpsIn];exact hQ a m S w hh (yv _) ht bM.refl rfl rfl rfl
 | o::l,rs,i,s,s',a,m,S,w,hl,hr,hv,ht,hh,hn,hQ=>by
  cases rs with
  | nil=>simp [dH] at hr
  | cons r rs=>
   simp only [dH] at hr;rw [Q8] at hv
   cases h1:dU O.prog O.aG self s.tm s.hp s.ct r with
   | none=>simp [h1] at hv
   | some q=>
    obtain ⟨v,bi,mb⟩:=q;simp only [h1] at hv;have hi:ops[i]? =some o:=by have:=hl 0;simpa using this.symm
    rw [List.length_cons,List.range'_succ,wpOpsIn_cons];refine afI hC hH hi hr.1 h1 ht hh hn (fun u m1 S1 w1 k1 k2 k3 k4=>?_)
    refine TY hC hH l rs (i+1) {s with tm:=put r.dst v s.tm,hp:=bi,ct:=mb} s' _ m1 S1 w1 (fun j=>?_) hr.2 hv k3 k1 (by rw [Ie];exact hn) (fun a' m' S' w' g1 g2 g3 g4 g5 g6 g7=>?_)
    ·have:=hl (j+1)
     rw [List.getElem?_cons_succ] at this;rw [this];congr 1;omega
    ·exact hQ a' m' S' w' g1 (xi k2 g2) g3 (k4.trans (g4.oD k2)) (by rw [g5,Ie]) (by rw [g6,Ls]) g7
end
end
end VE
