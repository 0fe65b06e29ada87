import Derived.LoopNIn
import Derived.RangeFuncIn
import Derived.Test.YtnilidoboioodaaGreatDoorTad
import Derived.Test.YtnilidoboioodaaGreatDoorTaa
set_option linter.all false
set_option maxRecDepth 100000
open Array renaming getD_eq_getD_getElem?→xT,getElem?_eq_getElem→vB,getElem?_eq_none→uX,getElem?_eq_some_iff→xg,replicate→vY
open Bool renaming and_eq_true→yf,false_eq_true→yB,not_eq_true'→wJ,or_eq_false_iff→tr,or_eq_true→vm
open Classical renaming em→vE
open Go renaming Code→wF,Deferred→uG,Exit→um,Loop→vX,Oper→yL,Program→yK,Value→yg,World→yh
open List renaming all_eq_true→tV,countP_cons→tW,getD_eq_getElem?_getD→y7,getElem?_cons_zero→wW,getElem?_eq_getElem→xh,getElem?_eq_some_iff→xp,length_append→yU,length_nil→yM,mem_append→xY,mem_cons→wc,mem_cons_of_mem→wK,mem_cons_self→vK,mem_range→yaj
open Nat renaming beq→ym,ble→yx,eq_of_beq_eq_true→yi,eq_or_lt_of_le→wH,eq_zero_or_pos→xj,le_of_lt_succ→uQ,le_refl→yv,le_trans→xi,lt_or_ge→wG,strongRecOn→vI,testBit→wA,testBit_or→yar,zero_add→yj,zero_le→uY
open Ne renaming symm→ybe
open Option renaming getD_some→xX
open Option.some renaming injEq→yb
open Prod.mk renaming injEq→yk
namespace VE
section
open Go
section
variable {ops:Array yL}
def Lg {acc:List Nat} {i:Nat}:∀{es:List Edge},wA (rQ acc es) i=true->∃e,e∈es/\Region.binds .any e=true/\(i=e.on\/wA (acc.getD e.on 0) i=true)
 | [],h=>by simp [rQ] at h
 | e::r,h=>by
  simp only [rQ] at h
  cases hb:Region.binds .any e with
  | false=>
   rw [hb] at h;obtain ⟨e',h1,h2⟩:=Lg h
   grind
  | true=>
   rw [hb] at h;simp only [yp,yar,vm] at h;rcases h with (h | h) | h
   ·grind
   ·grind
   ·obtain ⟨e',h1,h2⟩:=Lg h
    grind
def R8 {l:List yL} {acc:List Nat} {j:Nat} (hj:j<acc.length):(ia acc l)[j]? =acc[j]? :=by
 induction l generalizing acc with
 | nil=>rfl
 | cons o l ih=>
  simp only [ia]
  grind
def aaW {l:List yL} {acc:List Nat} {j:Nat} {o:yL} (h:l[j]? =some o):∃AB:List Nat,(ia acc l)[acc.length+j]? =some (rQ AB o.after.toList)/\AB.length=acc.length+j/\∀k,k<AB.length->AB[k]? =(ia acc l)[k]? :=by
 induction l generalizing acc j with
 | nil=>simp at h
 | cons x l ih=>
  cases j with
  | zero=>
   simp only [wW,yb] at h;subst h;refine ⟨acc,?_,by simp,fun k hk=>?_⟩
   ·simp only [ia];rw [R8 (by simp)]
    simp
   ·simp only [ia];rw [R8 (by rw [yU];omega),List.getElem?_append_left hk]
  | succ j=>
   obtain ⟨AB,h1,h2,h3⟩:=ih (acc:=acc++[rQ acc x.after.toList]) h;simp only [yU,List.length_cons,yM] at h1 h2;refine ⟨AB,?_,by omega,fun k hk=>?_⟩
   ·simp only [ia]
    grind
   ·simp only [ia];exact h3 k hk
def Ord (ops:Array yL) (i j:Nat):Prop:=wA ((ia [] ops.toList).getD j 0) i=true
def MT (ops:Array yL) (D:Nat->Prop):Prop:=∀j o,ops[j]? =some o->D j->∀e,e∈o.after->Region.binds .any e=true->D e.on
def R9 {D:Nat->Prop} (hc:MT ops D):∀(j:Nat) (o:yL),ops[j]? =some o->(∀e,e∈o.after->Region.binds .any e=true->D e.on)->∀i,Ord ops i j->D i:=by
 intro j
 induction j using vI with
 | _ j ih=>
  intro o ho hr i hi;have gi:ops.toList[j]? =some o:=by simp_all
  obtain ⟨AB,h1,h2,h3⟩:=aaW (acc:=[]) gi;simp only [yM,yj] at h1 h2;unfold Ord at hi;rw [y7,h1,xX] at hi;obtain ⟨e,g1,g2,g3⟩:=Lg hi;have he:D e.on:=hr e (by simpa using g1) g2;rcases g3 with rfl | g3
  ·grind
  ·rcases wG e.on j with aO | iB
   ·have h4:=h3 e.on (by omega);have hol:e.on<ops.size:=by
     grind
    have O5:ops[e.on]? =some ops[e.on]:=by simp_all
    refine ih e.on aO _ O5 (fun e' he' bK=>hc e.on _ O5 he e' he' bK) i ?_;unfold Ord
    grind
   ·grind
def adR {D:Nat->Prop} (hc:MT ops D) {i j:Nat} {o:yL} (ho:ops[j]? =some o) (hj:D j) (hi:Ord ops i j):D i:=
 R9 hc j o ho (fun e he hb=>hc j o ho hj e he hb) i hi
def Qq:∀{l:List yL} {k j:Nat} {o:yL},kB l k=true->l[j]? =some o->∀e,e∈o.after->Region.binds .any e=true->e.on<k+j
 | [],k,j,o,_,h=>by simp at h
 | x::l,k,j,o,hb,h=>by
  simp only [kB,yf] at hb
  cases j with
  | zero=>
   simp only [wW,yb] at h;subst h;intro e he oX
   have:=tV.1 hb.1 e (by simpa using he)
   simp_all
  | succ j=>
   intro e he oX
   have:=Qq hb.2 h e he oX
   omega
end
def AD (a b:aM) (r:List aM):Prop:=H7 a b=false/\(Ed a b=false\/Ew a b r=true)
def Qs {m:Nat} {b:aM}:∀{l:List aM} {k i:Nat} {a:aM},H8 m b l k=true->l[i]? =some a->wA m (k+i)=true\/AD a b (l.drop (i+1))
 | [],k,i,a,_,h=>by simp at h
 | x::l,k,i,a,hp,h=>by
  simp only [H8,yf] at hp
  cases i with
  | zero=>
   simp only [wW,yb] at h;subst h;have h1:=hp.1;simp only [vm,wJ,tr,Bool.and_eq_false_iff,Bool.not_eq_false'] at h1;rcases h1 with h1 | ⟨h1,h2⟩
   ·grind
   ·exact .inr ⟨h1,by simpa using h2⟩
  | succ i=>
   rcases Qs hp.2 h with h1 | h1
   ·grind
   ·grind
def K6:∀{l done:List aM} {ms:List Nat} {i j:Nat} {a b:aM},mu done l ms=true->(done++l)[i]? =some a->l[j]? =some b->i<done.length+j->
  ∃m,ms[j]? =some m/\(wA m i=true\/AD a b (((done++l).take (done.length+j)).drop (i+1)))
 | [],done,ms,i,j,a,b,_,_,h,_=>by simp at h
 | x::l,done,[],i,j,a,b,hp,_,h,_=>by simp [mu] at hp
 | x::l,done,m::ms,i,j,a,b,hp,ha,h,mc=>by
  simp only [mu,yf] at hp
  cases j with
  | zero=>
   have A1:done[i]? =some a:=by grind
   have:=Qs hp.1 A1
   grind
  | succ j=>
   have e:done++x::l=(done++[x])++l:=by simp
   obtain ⟨m',h1,h2⟩:=K6 (i:=i) (a:=a) hp.2 (by rw [<-e];exact ha) h (by simp;omega)
   grind
def Hs {a b:aM} (h:H7 a b=false):(∀d,a.dst=some d->d∉zV b/\b.dst≠some d)/\(∀d,b.dst=some d->d∉zV a):=by
 have mem:∀{i:Nat} {l:List Nat},jD i l=false->i∉l:=by
  intro i l
  induction l with
  | nil=>intro _ h;cases h
  | cons j r ih=>
   intro h hm;simp only [jD] at h
   cases hb:ym j i with
   | true=>rw [hb] at h;cases h
   | false=>
    simp_all
 simp only [H7,tr] at h;obtain ⟨⟨h1,h2⟩,h3⟩:=h;refine ⟨fun d hd=>⟨mem (by simpa [hd,B9] using h1),fun hb=>?_⟩,fun d hd=>mem (by simpa [hd,B9] using h2)⟩;rw [hd,hb] at h3;simp [Nh] at h3
def Ra {t:Nat}:∀{l:List aM},Am t l=true->∀r,r∈l->r.dst≠some t
 | [],_,r,h=>by cases h
 | x::l,h,r,hr=>by
  simp only [Am,yf,wJ] at h;rcases wc.1 hr with rfl | hr
  ·intro hd;rw [hd] at h;simp [B9,jD] at h
  ·exact Ra h.2 r hr
def HU {sz t:Nat} {ag:Bool}:∀{l:List (Nat×Bool×Nat)},Ax sz ag t l=true->(sz,ag,t)∈l
 | [],h=>by simp [Ax] at h
 | (s,g,u)::r,h=>by
  simp only [Ax,vm,yf] at h;rcases h with ⟨h1,h2,h3⟩ | h
  ·simp_all
  ·exact wK _ (HU h)
def Mb:∀{a b:List Nat},bV a b=true->a=b
 | [],[],_=>rfl
 | [],_::_,h=>by simp [bV] at h
 | _::_,[],h=>by simp [bV] at h
 | x::a,y::b,h=>by
  simp only [bV,yf] at h;rw [yi h.1,Mb h.2]
def abT {a b:AV} (h:NH a b=true):a=b:=by
 unfold NH at h
 split at h
 ·grind
 ·grind
 ·rw [Mb h]
 ·rfl
 ·rfl
 ·simp_all
 ·simp_all
 ·simp_all
 ·cases h
def K7 {tm:Env} {hp an:Hp} {sz t:Nat} {ag:Bool} {v:AV}:∀{l:List (Nat×Bool×Nat)},mv tm hp an l=true->(sz,ag,t)∈l->eM hp sz ag (ah tm t)=some v->eM an sz ag (ah tm t)=some v
 | [],_,h,_=>by cases h
 | (s,g,u)::r,h,hm,hv=>by
  simp only [mv] at h
  cases h1:eM hp s g (ah tm u) with
  | none=>simp [h1] at h
  | some x=>
   cases h2:eM an s g (ah tm u) with
   | none=>simp [h1,h2] at h
   | some y=>
    simp only [h1,h2,yf] at h;rcases wc.1 hm with e | hm
    ·simp only [yk] at e;obtain ⟨rfl,rfl,rfl⟩:=e;rw [h1] at hv;rw [h2,<-abT h.1,hv]
    ·exact K7 h.2 hm hv
structure Js (P:aR) (L:Lib) (run:bZ) (rs:List aM) (bD:Nat->Env) (bq:Nat->Hp) (bj:Nat->Nat) (vF:Nat->AV):Prop where
 step:∀i r,rs[i]? =some r->dU P L run (bD i) (bq i) (bj i) r=some (vF i,bq (i+1),bj (i+1))
 tm:∀i r,rs[i]? =some r->bD (i+1)=put r.dst (vF i) (bD i)
def TZ {P:aR} {L:Lib} {self:bZ}:∀{rs:List aM} {s s':St},cI P L self rs s=some s'->
  ∃bD bq bj vF,Js P L self rs bD bq bj vF/\bD 0=s.tm/\bq 0=s.hp/\bj 0=s.ct/\bD rs.length=s'.tm/\bq rs.length=s'.hp/\bj rs.length=s'.ct/\s'.base=s.base
 | [],s,s',h=>by
  simp only [cI,yb] at h;subst h;exact ⟨fun _=>s.tm,fun _=>s.hp,fun _=>s.ct,fun _=> .undef,⟨fun i r h=>by simp at h,fun i r h=>by simp at h⟩,rfl,rfl,rfl,rfl,rfl,rfl,rfl⟩
 | r::rs,s,s',h=>by
  rw [Q8] at h
  cases h1:dU P L self s.tm s.hp s.ct r with
  | none=>simp [h1] at h
  | some q=>
   obtain ⟨v,bi,mb⟩:=q;simp only [h1] at h;obtain ⟨bD,bq,bj,vF,g1,g2,g3,g4,g5,g6,g7,g8⟩:=TZ h;refine ⟨fun i=>match i with | 0=>s.tm | i+1=>bD i,fun i=>match i with | 0=>s.hp | i+1=>bq i,fun i=>match i with | 0=>s.ct | i+1=>bj i,fun i=>match i with | 0=>v | i+1=>vF i,⟨?_,?_⟩,rfl,rfl,rfl,by simpa using g5,by simpa using g6,by simpa using g7,g8⟩
   ·intro i r' hi
    cases i with
    | zero=>
     grind
    | succ i=>exact g1.step i r' (by simpa using hi)
   ·intro i r' hi
    cases i with
    | zero=>
     grind
    | succ i=>exact g1.tm i r' (by simpa using hi)
section
variable {P:aR} {L:Lib} {self:bZ} {rs:List aM} {bD:Nat->Env} {bq:Nat->Hp} {bj:Nat->Nat} {vF:Nat->AV}
def Eg (hR:Js P L self rs bD bq bj vF) {t i:Nat}:∀(k:Nat),i+k<=rs.length->(∀j r,i<=j->j<i+k->rs[j]? =some r->r.dst≠some t)->ah (bD (i+k)) t=ah (bD i) t
 | 0,_,_=>rfl
 | k+1,hk,h=>by
  have hr:rs[i+k]? =some rs[i+k]:=by simp_all
  rw [show i+(k+1)=i+k+1 by omega,hR.tm _ _ hr,L8,yE (h (i+k) _ (by omega) (by omega) hr)];exact Eg hR k (by omega) (fun j r h1 h2=>h j r h1 (by omega))
def Sa {r:aM} {tm:Env} {hp an:Hp} {ct aT:Nat} {v:AV} (hk:a8 r.op<=1) (hv:dU P L self tm hp ct r=some (v,an,aT)) (aO:∀id o,ap hp id=some o->id<ct):fX hp ct an aT:=by
 unfold dU at hv
 cases hw:mH tm r.guard with
 | none=>simp [hw] at hv
 | some b=>
  cases b with
  | true=>simp only [hw] at hv;exact QF hk hv aO
  | false=>
   simp only [hw,yb,yk] at hv;obtain ⟨rfl,rfl,rfl⟩:=hv;exact fX.refl aO
def HV (hR:Js P L self rs bD bq bj vF) {i:Nat} (aO:∀id o,ap (bq i) id=some o->id<bj i):∀(k:Nat),i+k<=rs.length->(∀j r,i<=j->j<i+k->rs[j]? =some r->a8 r.op<=1)->fX (bq i) (bj i) (bq (i+k)) (bj (i+k))
 | 0,_,_=>fX.refl aO
 | k+1,hk,h=>by
  have ih:=HV hR aO k (by omega) (fun j r h1 h2=>h j r h1 (by omega));have hr:rs[i+k]? =some rs[i+k]:=by simp_all
  exact ih.trans (Sa (h (i+k) _ (by omega) (by omega) hr) (hR.step _ _ hr) ih.lt)
end
end
section
open Go
def Ig {tm:Env} {t:Nat}:∀{l:List Nat},t∈l->ah (dd tm l) t=ah tm t
 | [],h=>by cases h
 | i::r,h=>by
  simp only [dd,ah]
  cases hb:ym i t with
  | true=>rw [yi hb];rfl
  | false=>
   rcases wc.1 h with e | h
   ·simp_all
   ·exact Ig h
def abU {P:aR} {L:Lib} {self:bZ} {tm bS:Env} {hp:Hp} {ct:Nat} {o:Op} {r:AV×Hp×Nat} (h:∀t,t∈ir o->ah bS t=ah tm t) (hv:aW P L self tm hp ct o=some r):aW P L self bS hp ct (gH o)=some r:=by
 cases o with
 | gE rs f xs=>
  simp only [ir,xY] at h;simp only [gH,aW] at hv ⊢
  rw [cW (x:=f) fun t ht=>h t (.inl ht),zJ (xs:=xs) fun t ht=>h t (.inr ht)]
  cases hc:dO P L self hp ct .dyn (ao tm f) (cX tm xs) with
  | none=>simp [hc] at hv
  | some q=>
   obtain ⟨v1,bi,mb⟩:=q;simp only [hc] at hv
   cases hs:mv tm hp bi rs with
   | false=>rw [hs] at hv;cases hv
   | true=>
    rw [hs] at hv;simpa only [mv,yp] using hv
 | iR rs sz x v=>
  simp only [gH,aW] at hv ⊢
  rw [zI (o:= .st sz x v) (tm:=tm) h]
  split at hv
  ·rename_i id off hx
   cases hf:jw tm id rs with
   | false=>rw [hf] at hv;cases hv
   | true=>rw [hf] at hv;exact hv
  ·cases hv
 | jj rs sz b x v=>
  simp only [gH,aW] at hv ⊢
  rw [zI (o:= .cD sz b x v) (tm:=tm) h]
  cases hc:bT tm hp ct (.cD sz b x v) with
  | none=>simp [hc] at hv
  | some q=>
   obtain ⟨v1,bi,mb⟩:=q;simp only [hc] at hv
   cases hs:(Ca tm (ao tm x) rs||mv tm hp bi rs) with
   | false=>rw [hs] at hv;cases hv
   | true=>rw [hs] at hv;exact hv
 | mV sz b x v=>
  rw [<-hv];simp only [ir,xY] at h;simp only [gH,aW]
  rw [cW (x:=x) fun t ht=>h t (.inl ht),cW (x:=v) fun t ht=>h t (.inr ht)]
 | call md f xs=>
  rw [<-hv];simp only [ir,xY] at h;simp only [gH,aW]
  rw [cW (x:=f) fun t ht=>h t (.inl ht),zJ (xs:=xs) fun t ht=>h t (.inr ht)]
 | st s x y=>rw [<-hv];simp only [gH,aW];exact zI h
 | mS kk x y z=>rw [<-hv];simp only [gH,aW];exact zI h
 | mU x=>rw [<-hv];simp only [gH,aW];exact zI h
 | cD s b x y=>rw [<-hv];simp only [gH,aW];exact zI h
 | mW s x y=>rw [<-hv];simp only [gH,aW];exact zI h
 | box s x=>rw [<-hv];simp only [gH,aW];rw [D4 (hp:=hp) h]
 | fB n s z ps=>rw [<-hv];simp only [gH,aW];rw [D4 (hp:=hp) h]
 | lU s b z x y=>rw [<-hv];simp only [gH,aW];rw [D4 (hp:=hp) h]
 | qJ=>exact hv
 | mT x=>rw [<-hv];simp only [gH,aW];rw [D4 (hp:=hp) h]
 | _=>rw [<-hv];simp only [gH,aW];rw [aah h]
def SR {P:aR} {L:Lib} {self:bZ} {tm:Env} {hp an:Hp} {ct aT:Nat} {q:Op} {v:AV} (hk:a8 q=0\/∃sz ag x,q= .ld sz ag x) (hv:aW P L self tm hp ct q=some (v,an,aT)):a7 tm hp q=some v/\an=hp/\aT=ct:=by
 have gQ:∀{q:Op},(match a7 tm hp q with | some v=>some (v,hp,ct) | none=>(none:fj))=some (v,an,aT)->a7 tm hp q=some v/\an=hp/\aT=ct:=by
  intro q h
  cases hm:a7 tm hp q with
  | none=>simp [hm] at h
  | some r=>
   simp only [hm,yb,yk] at h;obtain ⟨rfl,rfl,rfl⟩:=h;exact ⟨rfl,rfl,rfl⟩
 rcases hk with hk | ⟨sz,ag,x,rfl⟩
 ·cases bB:q with
  | call md f xs=>subst bB;cases md<;>simp [a8] at hk
  | gE rs f xs=>subst bB;simp [a8] at hk
  | iR rs s x y=>subst bB;simp [a8] at hk
  | jj rs s b x y=>subst bB;simp [a8] at hk
  | mV s b x y=>subst bB;simp [a8] at hk
  | st s x y=>subst bB;simp [a8] at hk
  | mS kk x y z=>subst bB;simp [a8] at hk
  | mU x=>subst bB;simp [a8] at hk
  | cD s b x y=>subst bB;simp [a8] at hk
  | mW s x y=>subst bB;simp [a8] at hk
  | box s x=>subst bB;simp [a8] at hk
  | fB n s z ps=>subst bB;simp [a8] at hk
  | lU s b z x y=>subst bB;simp [a8] at hk
  | qJ=>subst bB;simp [a8] at hk
  | mT x=>subst bB;simp [a8] at hk
  | _=>exact bB▸gQ (q:=q) (by rw [bB] at hv ⊢;simp only [aW] at hv;exact hv)
 ·exact gQ (q:= .ld sz ag x) (by simp only [aW] at hv;exact hv)
section
variable {O:bh} {H:Hint} {ops:Array yL} {π:Nat->Nat} {rs:List aM} {bD:Nat->Env} {bq:Nat->Hp} {bj:Nat->Nat} {vF:Nat->AV} {self:bZ} {ro:Option Nat} {Q:um->Act->yh->Prop}
structure oB (O:bh) (H:Hint) (A2:bZ) (ops:Array yL) (π:Nat->Nat) (rs:List aM) (bD:Nat->Env) (bq:Nat->Hp) (bj:Nat->Nat) (vF:Nat->AV):Prop where
 run:Js O.prog O.aG A2 rs bD bq bj vF
 len:rs.length=ops.size
 of:∀(i:Nat) (r:aM) (o:yL),rs[i]? =some r->ops[π i]? =some o->Au O.P H ops r o
 pair:∀(i j:Nat) (a b:aM),i<j->rs[i]? =some a->rs[j]? =some b->Ord ops (π i) (π j)\/AD a b ((rs.take j).drop (i+1))
 back:∀(i:Nat) (o:yL),ops[i]? =some o->∀e,e∈o.after->Region.binds .any e=true->e.on<i
def iD (rs:List aM) (i:Nat):Prop:=∃r,rs[i]? =some r/\a8 r.op=2
def MU (rs:List aM):∀(k i:Nat),i+k=rs.length->∃c,i<=c/\c<=rs.length/\(∀j,i<=j->j<c->¬iD rs j)/\(c=rs.length\/iD rs c)
 | 0,i,h=>⟨i,yv _,by omega,fun j h1 h2=>by omega,.inl (by omega)⟩
 | k+1,i,h=>by
  rcases vE (iD rs i) with hw | hw
  ·grind
  ·obtain ⟨c,h1,h2,h3,h4⟩:=MU rs k (i+1) (by omega)
   grind
def EA {rs:List aM} {i:Nat} {r:aM} (hr:rs[i]? =some r) (hw:¬iD rs i):a8 r.op<=1:=by
 have h:a8 r.op≠2:=fun e=>hw ⟨r,hr,e⟩
 have:a8 r.op<=2:=by
  cases r.op with
  | mR k x lo hi=>cases k<;>simp [a8]
  | len k x=>rcases k with _ | _ | k<;>simp [a8]
  | call md f xs=>cases md<;>simp [a8]
  | _=>simp [a8]
 omega
def Kq (O:bh) (rs:List aM) (bD:Nat->Env) (D:Nat->Prop) (m:Mp) (S:Nat->Prop) (w:yh) (a:Act):Prop:=
 ∀t,∃j,j<=rs.length/\(∀(i:Nat) (r:aM),rs[i]? =some r->r.dst=some t->(D i↔i<j))/\ae O.ab m S w (ah (bD j) t) (a.tmps.getD t undef)
def afJ {D:Nat->Prop} {m:Mp} {S:Nat->Prop} {w:yh} {a:Act} {i:Nat} {r:aM} (hG:oB O H self ops π rs bD bq bj vF) (hT:Kq O rs bD D m S w a) (hr:rs[i]? =some r) (hi:¬D i)
  (dw:∀j,Ord ops (π j) (π i)->D j) (eC:∀j,Ord ops (π i) (π j)->¬D j):∀t,t∈zV r->ae O.ab m S w (ah (bD i) t) (a.tmps.getD t undef):=by
 intro t ht;obtain ⟨j,h1,h2,h3⟩:=hT t;have kV:i<rs.length:=(xp.1 hr).1;have e:ah (bD j) t=ah (bD i) t:=by
  rcases Nat.le_total j i with hji | mc
  ·obtain ⟨k,rfl⟩:∃k,i=j+k:=⟨i-j,by omega⟩;refine (Eg hG.run k (by omega) (fun l rl g1 g2 hl hd=>?_)).symm;have hnD:¬D l:=fun hD=>by have:=(h2 l rl hl hd).1 hD;omega
   rcases hG.pair l (j+k) rl r (by omega) hl hr with ho | hf
   ·exact hnD (dw l ho)
   ·exact ((Hs hf.1).1 t hd).1 ht
  ·obtain ⟨k,rfl⟩:∃k,j=i+k:=⟨j-i,by omega⟩;refine Eg hG.run k h1 (fun l rl g1 g2 hl hd=>?_);have hD:D l:=(h2 l rl hl hd).2 (by omega);rcases wH g1 with rfl | g1
   ·exact hi hD
   ·rcases hG.pair i l r rl g1 hr hl with ho | hf
    ·exact eC l ho hD
    ·exact (Hs hf.1).2 t hd ht
 rw [<-e];exact h3
def T8 {D D':Nat->Prop} {m m':Mp} {S S':Nat->Prop} {w w':yh} {a:Act} {i:Nat} {r:aM} {u:yg} (hG:oB O H self ops π rs bD bq bj vF) (hT:Kq O rs bD D m S w a) (hr:rs[i]? =some r) (hi:¬D i)
  (dw:∀j,Ord ops (π j) (π i)->D j) (eC:∀j,Ord ops (π i) (π j)->¬D j) (hD:∀j,D' j↔D j\/j=i) (hm:cJ m m') (hS:∀b,S b->S' b) (hw:eF S w w') (hd:∀d,r.dst=some d->d<a.tmps.size)
  (hv:ae O.ab m' S' w' (vF i) u):Kq O rs bD D' m' S' w' (a.put r.dst u):=by
 intro t;have kV:i<rs.length:=(xp.1 hr).1;by_cases CO:r.dst=some t
 ·refine ⟨i+1,kV,fun l rl hl GG=>?_,?_⟩
  ·rw [hD];constructor
   ·rintro (h | h)
    ·rcases wG l (i+1) with g | g
     ·exact g
     ·rcases hG.pair i l r rl (by omega) hr hl with ho | hf
      ·exact (eC l ho h).elim
      ·exact (((Hs hf.1).1 t CO).2 GG).elim
    ·omega
   ·intro h;rcases wH (uQ h) with h | h
    ·exact .inr h
    ·rcases hG.pair l i rl r h hl hr with ho | hf
     ·exact .inl (dw l ho)
     ·exact (((Hs hf.1).1 t GG).2 CO).elim
  ·rw [hG.run.tm i r hr,L8,L9 hd,yT CO,yT CO];exact hv
 ·obtain ⟨j,h1,h2,h3⟩:=hT t;refine ⟨j,h1,fun l rl hl GG=>?_,?_⟩
  ·rw [hD,<-h2 l rl hl GG];constructor
   ·rintro (h | h)
    ·exact h
    ·subst h;rw [hr] at hl;injection hl with hl
     subst hl;exact (CO GG).elim
   ·exact .inl
  ·rw [L9 hd,yE CO];exact jr hm hS hw _ _ h3
def QH {tm:Env} {hp an:Hp} {ct aT id off sz kx t:Nat} {ag:Bool} {x y:X} {v v':AV}:∀{l:List (Nat×Bool×Nat)},jw tm id l=true->(sz,ag,t)∈l->ao tm x= .ptr id off->
  bT tm hp ct (.st kx x y)=some (v',an,aT)->eM hp sz ag (ah tm t)=some v->eM an sz ag (ah tm t)=some v
 | [],_,h,_,_,_=>by cases h
 | (s,g,u)::r,h,hm,hx,hw,hv=>by
  simp only [jw,yf] at h;rcases wc.1 hm with e | hm
  ·simp only [yk] at e;obtain ⟨rfl,rfl,rfl⟩:=e;have h1:=h.1
   split at h1
   ·rename_i j o hj;have dV:j≠id:=by
     intro e
     simp_all
    rw [hj] at hv ⊢;simp only [bT,hx] at hw;have key:∀ob,ap (a6 hp id ob) j=ap hp j:=fun ob=>by rw [n8,yE (ybe dV)]
    split at hw
    ·rename_i pu ex z cs zb;generalize (ym _ _&&yx _ _&&cd _)=bb at hw
     cases bb with
     | false=>cases hw
     | true=>
      obtain ⟨_,rfl,_⟩:=hw;simp only [eM,key] at hv ⊢;exact hv
    ·cases hw
   ·rename_i cs hj;rw [hj] at hv ⊢;simpa only [eM] using hv
   ·cases h1
  ·exact QH h.2 hm hx hw hv
def K8 {id j:Nat} (h:j≠id):∀(hp:Hp),ap (dc hp id) j=ap hp j
 | []=>rfl
 | (k,o)::r=>by
  simp only [dc,ap]
  cases h1:ym k id with
  | true=>
   have e:=yi h1;simp only [yp];rw [K8 h r]
   cases h2:ym k j with
   | true=>exact absurd (yi h2▸e) h
   | false=>rfl
  | false=>
   simp only [yI,ap];rw [K8 h r]
def abV {tm:Env} {hp an:Hp} {ct aT sz kx bb t:Nat} {ag:Bool} {x y:X} {v v':AV} {l:List (Nat×Bool×Nat)} (h:Ca tm (ao tm x) l=true) (hm:(sz,ag,t)∈l)
  (hw:bT tm hp ct (.cD kx bb x y)=some (v',an,aT)) (aO:∀id o,ap hp id=some o->id<ct) (hv:eM hp sz ag (ah tm t)=some v):eM an sz ag (ah tm t)=some v:=by
 have grow:∀{o:Obj},an=(ct,o)::hp->eM an sz ag (ah tm t)=some v:=fun {o} e=>by
  subst e;refine Mt (fun id o' gi=>⟨o',?_,gm.refl o'⟩) hv
  rw [ep,yE (by have:=aO id o' gi;omega)];exact gi
 simp only [bT] at hw
 cases hs:fW hp kx (ao tm y) with
 | none=>simp [hs] at hw
 | some q=>
  obtain ⟨mm,new⟩:=q;simp only [hs] at hw;cases hx:ao tm x<;>rw [hx] at hw h<;>simp only [Ca,yB] at h<;>(try simp only at hw)
  case af=>
   cases hb:ym mm 0 with
   | true=>simp only [hb,yp,yb,yk] at hw;rw [<-hw.2.1];exact hv
   | false=>
    rw [hb] at hw;simp only [yI] at hw;generalize (yx mm room&&(yx (mm*bb) room&&Nat.blt 0 kx))=b2 at hw
    cases b2 with
    | false=>cases hw
    | true=>simp only [yp,yb,yk] at hw;exact grow hw.2.1.symm
  case aq ex n cs=>
   cases ex with
   | false=>simp at hw
   | true=>
    simp only at hw
    cases hb:ym mm 0 with
    | true=>simp only [hb,yp,yb,yk] at hw;rw [<-hw.2.1];exact hv
    | false=>
     rw [hb] at hw;simp only [yI] at hw;generalize (yx (n+mm) room&&(yx ((n+mm)*bb) room&&(ym cs.length (n*kx)&&Nat.blt 0 kx)))=b2 at hw
     cases b2 with
     | false=>cases hw
     | true=>simp only [yp,yb,yk] at hw;exact grow hw.2.1.symm
  case ay id o n=>
   split at hw
   ·rename_i pu ex z cs zb;generalize (ym z kx&&_)=b2 at hw
    cases b2 with
    | false=>cases hw
    | true=>
     simp only [yp,yb,yk] at hw;obtain ⟨_,rfl,_⟩:=hw;clear zb;have key:∀l,jw tm id l=true->(sz,ag,t)∈l->(∃j off,ah tm t= .ptr j off/\j≠id)\/∃cs,ah tm t= .bR cs:=by
      intro l
      induction l with
      | nil=>intro _ hm;cases hm
      | cons e l ih=>
       obtain ⟨s,g,u⟩:=e;intro h hm;simp only [jw,yf] at h;rcases wc.1 hm with e | hm
       ·simp only [yk] at e;obtain ⟨rfl,rfl,rfl⟩:=e;have h1:=h.1
        split at h1
        ·rename_i j off hj;refine .inl ⟨j,off,hj,fun e=>?_⟩;subst e;simp at h1
        ·rename_i cs hj;exact .inr ⟨cs,hj⟩
        ·cases h1
       ·exact ih h.2 hm
     rcases key l h hm with ⟨j,off,e,dV⟩ | ⟨b8,e⟩
     ·rw [e] at hv ⊢;simp only [eM] at hv ⊢;have amm:ap hp j≠none:=by
       intro e0;rw [e0] at hv;cases hv
      cases hj:ap hp j with
      | none=>exact absurd hj amm
      | some ob=>
       have:=aO j ob hj
       rw [ep,yE (by omega),K8 dV,hj];rw [hj] at hv;exact hv
     ·rw [e] at hv ⊢;simpa only [eM] using hv
   ·cases hw
def Qv {D:Nat->Prop} {i c:Nat} {r:aM} {sz t:Nat} {ag:Bool} (hG:oB O H self ops π rs bD bq bj vF) (hr:rs[i]? =some r) (hi:¬D i) (CP:r.guard=none/\r.op= .ld sz ag (.t t)) (hc:c<=rs.length)
  (hW:∀j,j<c->iD rs j->D j) (eC:∀j,Ord ops (π i) (π j)->¬D j) (aO:∀j,j<=c->∀id o,ap (bq j) id=some o->id<bj j):∀k,i+1+k<=c->eM (bq (i+1+k)) sz ag (ah (bD i) t)=some (vF i)
 | 0,hk=>by
  have h1:=hG.run.step i r hr;simp only [dU,CP.1,mH,CP.2] at h1;obtain ⟨h2,h3,h4⟩:=SR (.inr ⟨_,_,_,rfl⟩) h1;simp only [a7,ao] at h2;rw [Nat.add_zero,h3];exact h2
 | k+1,hk=>by
  have ih:=Qv hG hr hi CP hc hW eC aO k (by omega);have hl:i+1+k<rs.length:=by omega
  have hj:rs[i+1+k]? =some rs[i+1+k]:=by simp [hl]
  have aP:=hG.run.step _ _ hj;rw [show i+1+(k+1)=i+1+k+1 by omega];rcases vE (iD rs (i+1+k)) with hw | hw
  ·have hD:=hW _ (by omega) hw;rcases hG.pair i (i+1+k) r _ (by omega) hr hj with ho | hf
   ·exact (eC _ ho hD).elim
   ·obtain ⟨CN,iU⟩:=hf;obtain ⟨ef,h5,h6⟩:=hw;rw [hj] at h5;injection h5 with h5
    subst h5;rcases iU with iU | iU
    ·have h1k:a8 r.op=1:=by rw [CP.2];rfl
     simp only [Ed,h1k,h6] at iU;cases iU
    ·unfold Ew at iU;simp only [CP.1,CP.2] at iU;generalize fk:(rs[i+1+k]).op=q at iU;have Nl:Am t (r::(rs.take (i+1+k)).drop (i+1))=true->ah (bD (i+1+k)) t=ah (bD i) t:=by
      intro amn;have jk:=Ra amn;rw [show i+1+k=i+(1+k) by omega];refine Eg hG.run (1+k) (by omega) (fun l rl g1 g2 qV=>jk rl ?_);rcases wH g1 with rfl | g1
      ·rw [hr] at qV;injection qV with qV;subst qV;exact vK
      ·refine wK _ ?_
       have:((rs.take (i+1+k)).drop (i+1))[l-(i+1)]? =some rl:=by
        rw [List.getElem?_drop,List.getElem?_take_of_lt (by omega),show i+1+(l-(i+1))=l by omega];exact qV
       exact List.mem_of_getElem? this
     unfold dU at aP
     cases hg:mH (bD (i+1+k)) (rs[i+1+k]).guard with
     | none=>simp [hg] at aP
     | some b=>
      cases b with
      | false=>
       simp only [hg,yb,yk] at aP;rw [<-aP.2.1];exact ih
      | true=>
       simp only [hg,fk] at aP;cases q<;>simp only [yB] at iU
       case gE zc fx xs=>
        simp only [yf] at iU;have Cb:=HU iU.1;have qW:=Nl iU.2;simp only [aW] at aP
        cases dR:dO O.prog O.aG self (bq (i+1+k)) (bj (i+1+k)) .dyn (ao (bD (i+1+k)) fx) (cX (bD (i+1+k)) xs) with
        | none=>simp [dR] at aP
        | some z=>
         obtain ⟨v1,bi,mb⟩:=z;simp only [dR] at aP
         cases hs:mv (bD (i+1+k)) (bq (i+1+k)) bi zc with
         | false=>rw [hs] at aP;cases aP
         | true=>
          rw [hs] at aP;simp only [yp,yb,yk] at aP;obtain ⟨_,h8,_⟩:=aP;rw [<-h8,<-qW];exact K7 hs Cb (by rw [qW];exact ih)
       case iR zc kx x v=>
        simp only [yf] at iU;have Cb:=HU iU.1;have qW:=Nl iU.2;simp only [aW] at aP
        split at aP
        ·rename_i id off hx
         cases hs:jw (bD (i+1+k)) id zc with
         | false=>rw [hs] at aP;cases aP
         | true=>
          rw [hs] at aP;simp only [yp] at aP;rw [<-qW];exact QH hs Cb hx aP (by rw [qW];exact ih)
        ·cases aP
       case jj zc kx b x v=>
        simp only [yf] at iU;have Cb:=HU iU.1;have qW:=Nl iU.2;simp only [aW] at aP
        cases dR:bT (bD (i+1+k)) (bq (i+1+k)) (bj (i+1+k)) (.cD kx b x v) with
        | none=>simp [dR] at aP
        | some z=>
         obtain ⟨v1,bi,mb⟩:=z;simp only [dR] at aP
         cases hs:(Ca (bD (i+1+k)) (ao (bD (i+1+k)) x) zc||mv (bD (i+1+k)) (bq (i+1+k)) bi zc) with
         | false=>rw [hs] at aP;cases aP
         | true=>
          rw [hs] at aP;simp only [yp,yb,yk] at aP;obtain ⟨_,h8,_⟩:=aP;rw [<-h8,<-qW];rcases (vm _ _).mp hs with hs | hs
          ·exact abV hs Cb dR (aO _ (by omega)) (by rw [qW];exact ih)
          ·exact K7 hs Cb (by rw [qW];exact ih)
  ·exact Mt (Sa (EA hj hw) aP (aO _ (by omega))).le ih
structure Inv (O:bh) (ops:Array yL) (rs:List aM) (bD:Nat->Env) (bq:Nat->Hp) (bj:Nat->Nat) (D:Nat->Prop) (m0:Mp) (S0:Nat->Prop) (w0:yh) (n0:Nat) (d0:List uG) (st c:Nat) (m:Mp) (S:Nat->Prop) (w:yh) (a:Act):Prop where
 Pa:st<=c
 cn:c<=rs.length
 before:∀i,i<st->iD rs i->D i
 CQ:∀i,st<=i->i<c->¬iD rs i
 cut:c=rs.length\/(iD rs c/\¬D c)
 behind:∀(i:Nat) (r:aM),c<=i->rs[i]? =some r->1<=a8 r.op->¬D i
 hp:aQ O m S w (bq c) (bj c)
 Pb:∀id p,m id=some p->id<bj st\/∃i,st<=i/\i<c/\D i/\bj i<=id/\id<bj (i+1)
 tm:Kq O rs bD D m S w a
 Kr:bM m0 S0 w0 (bq 0) m S w (bq c) (bj 0)
 ge:bj 0<=bj c
 size:a.tmps.size=n0
 defers:a.defers=d0
 CR:st=0\/iD rs (st-1)
 CS:∀j,j<=c->∀id o,ap (bq j) id=some o->id<bj j
end
end
section
open Go
section
variable {O:bh} {H:Hint} {ops:Array yL} {π:Nat->Nat} {rs:List aM} {bD:Nat->Env} {bq:Nat->Hp} {bj:Nat->Nat} {vF:Nat->AV} {self:bZ} {ro:Option Nat} {Q:um->Act->yh->Prop}
variable {D D':Nat->Prop} {m0:Mp} {S0:Nat->Prop} {w0:yh} {n0:Nat} {d0:List uG} {st c i:Nat} {m:Mp} {S:Nat->Prop} {w:yh} {a:Act} {r:aM} {o:yL}
def HW (hG:oB O H self ops π rs bD bq bj vF) (hI:Inv O ops rs bD bq bj D m0 S0 w0 n0 d0 st c m S w a) {x y:Nat} (hx:st<=x) (hxy:x<=y) (hy:y<=c):fX (bq x) (bj x) (bq y) (bj y):=by
 obtain ⟨k,rfl⟩:∃k,y=x+k:=⟨y-x,by omega⟩
 have:=hI.cn
 exact HV hG.run (hI.CS x (by omega)) k (by omega) (fun j r h1 h2 hr=>EA hr (hI.CQ j (by omega) (by omega)))
def Ih (hG:oB O H self ops π rs bD bq bj vF) (hI:Inv O ops rs bD bq bj D m0 S0 w0 n0 d0 st c m S w a) (hr:rs[i]? =some r) (hi:¬D i) (dw:∀j,Ord ops (π j) (π i)->D j) (eC:∀j,Ord ops (π i) (π j)->¬D j) (hD:∀j,D' j↔D j\/j=i)
  (hd:∀d,r.dst=some d->d<a.tmps.size) (hw:¬iD rs i) (qS:a8 r.op=0\/i<c) {m':Mp} {S':Nat->Prop} {w':yh} {u:yg} (k1:aQ O m' S' w' (bq c) (bj c)) (k2:cJ m m')
  (k3:∀id p,m' id=some p->m id=some p\/(st<=i/\i<c/\bj i<=id/\id<bj (i+1))) (k4:ae O.ab m' S' w' (vF i) u) (k5:bM m S w (bq c) m' S' w' (bq c) (bj c)):
  Inv O ops rs bD bq bj D' m0 S0 w0 n0 d0 st c m' S' w' (a.put r.dst u) where
 Pa:=hI.Pa
 cn:=hI.cn
 before j hj A3:=(hD j).2 (.inl (hI.before j hj A3))
 CQ:=hI.CQ
 cut:=hI.cut.imp (fun h=>h) (fun h=>⟨h.1,fun hc=>((hD c).1 hc).elim h.2 (fun e=>hw (e▸h.1))⟩)
 behind j rj hj A4 hk A5:=((hD j).1 A5).elim (hI.behind j rj hj A4 hk) (fun e=>by
  subst e;rw [hr] at A4;injection A4 with A4
  subst A4
  rcases qS with h | h<;>omega)
 hp:=k1
 Pb id p hp:=by
  rcases k3 id p hp with h | ⟨h1,h2,h3,h4⟩
  ·rcases hI.Pb id p h with h | ⟨j,g1,g2,g3,g4,g5⟩
   ·exact .inl h
   ·exact .inr ⟨j,g1,g2,(hD j).2 (.inl g3),g4,g5⟩
  ·exact .inr ⟨i,h1,h2,(hD i).2 (.inr rfl),h3,h4⟩
 tm:=T8 hG hI.tm hr hi dw eC hD k2 k5.sub (fun b hb=>k5.still b hb) hd k4
 Kr:=hI.Kr.trans (k5.oD hI.ge)
 ge:=hI.ge
 size:=by rw [Ie];exact hI.size
 defers:=by rw [Ls];exact hI.defers
 CR:=hI.CR
 CS:=hI.CS
def T9 (hG:oB O H self ops π rs bD bq bj vF) (hI:Inv O ops rs bD bq bj D m0 S0 w0 n0 d0 st c m S w a) (hr:rs[c]? =some r) (hi:¬D c) (dw:∀j,Ord ops (π j) (π c)->D j) (eC:∀j,Ord ops (π c) (π j)->¬D j) (hD:∀j,D' j↔D j\/j=c)
  (hd:∀d,r.dst=some d->d<a.tmps.size) (hw:iD rs c) {m':Mp} {S':Nat->Prop} {w':yh} {u:yg} (k1:aQ O m' S' w' (bq (c+1)) (bj (c+1))) (k2:bj c<=bj (c+1))
  (k4:ae O.ab m' S' w' (vF c) u) (k5:bM m S w (bq c) m' S' w' (bq (c+1)) (bj c)):
  ∃c' sT,Inv O ops rs bD bq bj D' m0 S0 w0 n0 d0 (c+1) c' m' sT w' (a.put r.dst u):=by
 have dR:c<rs.length:=(xp.1 hr).1;obtain ⟨c',h1,h2,h3,h4⟩:=MU rs (rs.length-(c+1)) (c+1) (by omega);obtain ⟨k,rfl⟩:∃k,c'=c+1+k:=⟨c'-(c+1),by omega⟩;have hg:∀k',k'<=k->fX (bq (c+1)) (bj (c+1)) (bq (c+1+k')) (bj (c+1+k')):=fun k' oT=>
  HV hG.run k1.aO k' (by omega) (fun j r g1 g2 hr=>EA hr (h3 j g1 (by omega)))
 obtain ⟨sT,g1,g2,g3,g4⟩:=Ic k1 (hg k (yv _));have hml:cJ m m':=fun id p h=>k5.old id p (hI.hp.lt id p h) h
 refine ⟨c+1+k,sT,⟨by omega,h2,?_,h3,?_,?_,g1,fun id p h=> .inl (k1.lt id p h),?_,?_,?_,by rw [Ie];exact hI.size,by rw [Ls];exact hI.defers,.inr (by simpa using hw),?_⟩⟩
 ·intro j hj A3;rcases wH (uQ hj) with e | hj
  ·exact (hD j).2 (.inr e)
  ·rcases wG j st with g | g
   ·exact (hD j).2 (.inl (hI.before j g A3))
   ·exact (hI.CQ j g hj A3).elim
 ·refine h4.imp (fun h=>h) (fun h=>⟨h,fun hc=>?_⟩);obtain ⟨rc,Pc,qS⟩:=h;rcases (hD _).1 hc with g | g
  ·exact hI.behind _ rc (by omega) Pc (by omega) g
  ·omega
 ·intro j rj hj A4 hk A5;rcases (hD j).1 A5 with g | g
  ·exact hI.behind j rj (by omega) A4 hk g
  ·omega
 ·exact T8 hG hI.tm hr hi dw eC hD hml (fun b hb=>g2 b (k5.sub b hb)) (fun b hb=>k5.still b hb) hd (jr (fun _ _ h=>h) g2 (fun _ _=>rfl) _ _ k4)
 ·exact (hI.Kr.trans (k5.oD hI.ge)).trans (g4 (bj 0))
 ·have:=(hg k (yv _)).mY
  have:=hI.ge
  omega
 ·intro j hj;rcases wG c j with g | g
  ·obtain ⟨k',rfl⟩:∃k',j=c+1+k':=⟨j-(c+1),by omega⟩;exact (hg k' (by omega)).lt
  ·exact hI.CS j g
def adS {q:Op} (h:a8 q≠2):gH q=q:=by
 cases q<;>first
  | rfl
  | exact absurd rfl h
def Rc {x y:aM} {l:List aM} (h:AD x y l):¬(a8 x.op=2/\1<=a8 y.op)/\(1<=a8 x.op->a8 y.op=2->x.guard=none/\∃sz ag t,x.op= .ld sz ag (.t t)):=by
 obtain ⟨_,h⟩:=h;have ex:Ew x y l=true->x.guard=none/\∃sz ag t,x.op= .ld sz ag (.t t):=by
  intro he;unfold Ew at he
  split at he
  ·rename_i sz ag t zc fx xs h1 h2 h3;exact ⟨h1,sz,ag,t,h2⟩
  ·rename_i h1 h2 h3;exact ⟨h1,_,_,_,h2⟩
  ·rename_i h1 h2 h3;exact ⟨h1,_,_,_,h2⟩
  ·cases he
 have k2:∀q:Op,a8 q<=2:=fun q=>by
  cases q with
  | mR k x lo hi=>cases k<;>simp [a8]
  | len k x=>rcases k with _ | _ | k<;>simp [a8]
  | call md f xs=>cases md<;>simp [a8]
  | _=>simp [a8]
 constructor
 ·rintro ⟨h1,h2⟩;rcases h with h | h
  ·have:a8 y.op=1\/a8 y.op=2:=by have:=k2 y.op;omega
   rcases this with e | e<;>(simp only [Ed,h1,e] at h;cases h)
  ·obtain ⟨_,sz,ag,t,e⟩:=ex h;rw [e] at h1;cases h1
 ·intro h1 h2;rcases h with h | h
  ·have:a8 x.op=1\/a8 x.op=2:=by have:=k2 x.op;omega
   rcases this with e | e<;>(simp only [Ed,h2,e] at h;cases h)
  ·exact ex h
def adT (hC:lC O self) (hH:dZ O H) (hG:oB O H self ops π rs bD bq bj vF) (hn:H.n<=n0) (hI:Inv O ops rs bD bq bj D m0 S0 w0 n0 d0 st c m S w a) (hr:rs[i]? =some r) (ho:ops[π i]? =some o) (hi:¬D i)
  (dw:∀j,Ord ops (π j) (π i)->D j) (eC:∀j,Ord ops (π i) (π j)->¬D j) (hD:∀j,D' j↔D j\/j=i) {K:Act->yh->Prop}
  (hK:∀st' c' m' S' w' a',Inv O ops rs bD bq bj D' m0 S0 w0 n0 d0 st' c' m' S' w' a'->K a' w'):wpOpIn (WF ro) 0 O.P ops Q (π i) K a w:=by
 have cA:=hG.of i r o hr ho;have NQ:=afJ hG hI.tm hr hi dw eC;have aP:=hG.run.step i r hr;have hd:∀d,r.dst=some d->d<a.tmps.size:=by
  rw [cA.dst];exact SQ cA.ok (by rw [hI.size];exact hn)
 have jl:=hI.Pa;have iB:1<=a8 r.op->i<=c:=by
  intro hk;rcases wG c i with Pd | Pd
  ·have kV:i<rs.length:=(xp.1 hr).1;rcases hI.cut with h | ⟨⟨rc,Pc,qS⟩,Gu⟩
   ·omega
   ·rcases hG.pair c i rc r Pd Pc hr with h | h
    ·exact (Gu (dw c h)).elim
    ·exact ((Rc h).1 ⟨qS,hk⟩).elim
  ·exact Pd
 have Yb:iD rs i->i=c:=by
  intro hw;obtain ⟨ef,h1,h2⟩:=hw;rw [hr] at h1;injection h1 with h1
  subst h1;have h3:=iB (by omega);rcases wH h3 with e | h3
  ·exact e
  ·rcases wG i st with g | g
   ·exact (hi (hI.before i g ⟨r,hr,h2⟩)).elim
   ·exact (hI.CQ i g h3 ⟨r,hr,h2⟩).elim
 have aO:1<=a8 r.op->¬iD rs i->i<c:=by
  intro hk hw;rcases wH (iB hk) with e | h
  ·subst e;rcases hI.cut with h | h
   ·have kV:i<rs.length:=(xp.1 hr).1;omega
   ·exact (hw h.1).elim
  ·exact h
 have qS:¬iD rs i->a8 r.op=0\/i<c:=fun hw=>by
  rcases xj (a8 r.op) with h | h
  ·exact .inl h
  ·exact .inr (aO h hw)
 unfold wpOpIn;simp only [ho];unfold dU at aP
 cases Ks:mH (bD i) r.guard with
 | none=>simp [Ks] at aP
 | some b=>
  have O9:=R7 cA.guard (fun t ht=>NQ t (by simp [zV,ht])) Ks;rw [O9]
  cases b with
  | false=>
   simp only [Ks,yb,yk] at aP;obtain ⟨hv,hh,hc⟩:=aP;simp only [yB,y8];refine ⟨fun _ _=>trivial,?_⟩;have dz:∀m S w,ae O.ab m S w (vF i) undef:=fun m S w=>by rw [<-hv];simp [ae,au,undef]
   rw [<-cA.dst];rcases vE (iD rs i) with hw | hw
   ·have e:=Yb hw;subst e;obtain ⟨c',sT,h⟩:=T9 hG hI hr hi dw eC hD hd hw (m':=m) (S':=S) (w':=w) (u:=undef) (by rw [<-hh,<-hc];exact hI.hp) (by omega) (dz _ _ _) (by rw [<-hh];exact bM.refl)
    exact hK _ _ _ _ _ _ h
   ·exact hK _ _ _ _ _ _ (Ih hG hI hr hi dw eC hD hd hw (qS hw) (m':=m) (S':=S) (w':=w) (u:=undef) hI.hp cJ.refl (fun _ _ h=> .inl h) (dz _ _ _) bM.refl)
  | true=>
   simp only [Ks] at aP;simp only [xm];have jk:=QG cA.op aP;have GH:bH O m S w (dd (bD i) (ir r.op)) a.tmps:=fun t=>by
    rcases vE (t∈ir r.op) with h | h
    ·rw [Ig h];exact NQ t (by simp [zV,h])
    ·have:ah (dd (bD i) (ir r.op)) t= .undef:=by
      clear NQ aP;revert h;generalize ir r.op=l;intro h
      induction l with
      | nil=>rfl
      | cons x l ih=>
       simp only [dd,ah];have hx:ym x t=false:=by
        cases hq:ym x t with
        | false=>rfl
        | true=>exact absurd (by rw [yi hq];exact vK) h
       rw [hx];exact ih (fun h'=>h (wK _ h'))
     rw [this];simp only [ae]
   have A6:aW O.prog O.aG self (dd (bD i) (ir r.op)) (bq i) (bj i) (gH r.op)=some (vF i,bq (i+1),bj (i+1)):=
    abU (fun t ht=>Ig ht) aP
   have UI:¬iD rs i->gH r.op=r.op:=fun hw=>adS (fun h=>hw ⟨r,hr,h⟩)
   have now:¬iD rs i->a7 (dd (bD i) (ir r.op)) (bq c) r.op=some (vF i)->Oper.wpIn (WF ro) 0 O.P o a w K Q:=by
    intro hw gQ;by_cases za:∃n sz z ps,r.op= .lV n sz z ps
    ·obtain ⟨n,sz,z,ps,za⟩:=za;have Gz:a8 r.op=0:=by rw [za];rfl
     have amo:aW O.prog O.aG self (dd (bD i) (ir r.op)) (bq c) (bj c) r.op=some (vF i,bq c,bj c):=by
      rw [za] at gQ ⊢;simp only [aW,gQ]
     refine quiet_step (Hq:=bq c) (cH:=bj c) hC hH (by omega) cA.op jk amo cy.refl (yv _) hI.hp.aO (fun id h1 h2=>by omega) GH hI.hp (fun u m' S' w' k1 k2 k3 k4 k5=>?_);rw [<-cA.dst];exact hK _ _ _ _ _ _ (Ih hG hI hr hi dw eC hD hd hw (.inl Gz) k1 k2 (fun id p h=> .inl ((k3 id p h).resolve_right (by omega))) k4 k5)
    have fk:∃k,r.op=aJ O.P H k o:=by
     rcases cA.op with h | ⟨cc,f,rr,_,_,h⟩ | ⟨_,_,_,_,_,_,_,h⟩ | ⟨_,_,_,_,_,_,_,h⟩ | ⟨_,_,_,_,_,_,h⟩ | ⟨_,_,_,_,_,_,h⟩
     ·exact h
     ·rw [h] at gQ;simp [a7] at gQ
     ·rw [h] at gQ;simp [a7] at gQ
     ·rw [h] at gQ;simp [a7] at gQ
     ·rw [h] at gQ;simp [a7] at gQ
     ·exact (za ⟨_,_,_,_,h⟩).elim
    obtain ⟨k,hk⟩:=fk;rw [hk] at gQ;rw [hk] at GH;obtain ⟨u,h1,h2⟩:=TL hH GH hI.hp gQ;refine BM jk h1 (.inl rfl) ?_;rw [<-cA.dst];exact hK _ _ _ _ _ _ (Ih hG hI hr hi dw eC hD hd hw (qS hw) hI.hp cJ.refl (fun _ _ h=> .inl h) h2 bM.refl)
   rcases vE (iD rs i) with hw | hw
   ·have e:=Yb hw;subst e;refine SP hC hH (aaV cA.op) jk A6 GH hI.hp (fun u m' S' w' k1 k2 k3 k4=>?_);rw [<-cA.dst];obtain ⟨c',sT,h⟩:=T9 hG hI hr hi dw eC hD hd hw k1 k2 k3 k4;exact hK _ _ _ _ _ _ h
   ·rcases xj (a8 r.op) with hk | hk
    ·have A6:=UI hw▸A6;obtain ⟨h1,_,_⟩:=SR (.inl hk) A6;exact now hw (by rw [abL hk (bq c) (bq i)];exact h1)
    ·have CJ:=aO hk hw;rcases wG i st with NR | NR
     ·
      rcases hI.CR with h0 | h0
      ·omega
      ·have bi:D (st-1):=hI.before _ (by omega) h0;have dV:i≠st-1:=fun e=>hi (e▸bi)
       obtain ⟨rp,hrp,hkp⟩:=h0;rcases hG.pair i (st-1) r rp (by omega) hr hrp with h | h
       ·exact (eC _ h bi).elim
       ·obtain ⟨hg,sz,ag,t,fk⟩:=(Rc h).2 hk hkp;have hl:=Qv (c:=c) hG hr hi ⟨hg,fk⟩ hI.cn (fun j hj A3=>by
         rcases wG j st with g | g
         ·exact hI.before j g A3
         ·exact (hI.CQ j g hj A3).elim) eC hI.CS (c-(i+1)) (by omega)
        rw [show i+1+(c-(i+1))=c by omega] at hl;refine now hw ?_;rw [fk];simp only [a7,ao];rw [Ig (by simp [ir,gG])];exact hl
     ·have fS:=HW hG hI (x:=i+1) (y:=c) (by omega) CJ (yv _);have GI:=HW hG hI (x:=st) (y:=i) (yv _) NR (by omega)
      refine quiet_step (Hq:=bq c) (cH:=bj c) hC hH (EA hr hw) cA.op jk (UI hw▸A6) fS.le fS.mY (hI.CS i (by omega)) ?_ GH hI.hp (fun u m' S' w' k1 k2 k3 k4 k5=>?_)
      ·intro id h1 h2
       cases hm:m id with
       | none=>rfl
       | some p=>
        rcases hI.Pb id p hm with h | ⟨j,q1,q2,q3,q4,q5⟩
        ·have:=GI.mY;omega
        ·rcases Nat.lt_trichotomy j i with g | g | g
         ·have:=(HW hG hI (x:=j+1) (y:=i) (by omega) g (by omega)).mY;omega
         ·subst g;exact (hi q3).elim
         ·have:=(HW hG hI (x:=i+1) (y:=j) (by omega) g (by omega)).mY;omega
      ·rw [<-cA.dst];exact hK _ _ _ _ _ _ (Ih hG hI hr hi dw eC hD hd hw (.inr CJ) k1 k2 (fun id p h=>(k3 id p h).imp (fun h=>h) (fun h=>⟨NR,CJ,h.1,h.2⟩)) k4 k5)
def left (n:Nat) (listed:Array Bool):Nat:=(List.range n).countP fun i=> !listed.getD i false
def adU {n:Nat} {listed:Array Bool} {i:Nat} (hi:i<n) (hs:listed.size=n) (hl:listed.getD i true=false):left n (listed.setIfInBounds i true)+1=left n listed:=by
 have key:∀(l:List Nat),l.Nodup->(i∈l->(l.countP fun j=> !(listed.setIfInBounds i true).getD j false)+1=l.countP fun j=> !listed.getD j false)/\(i∉l->(l.countP fun j=> !(listed.setIfInBounds i true).getD j false)=l.countP fun j=> !listed.getD j false):=by
  intro l
  induction l with
  | nil=>intro _;exact ⟨fun h=>(by cases h),fun _=>rfl⟩
  | cons x l ih=>
   intro jk;have hx:x≠i->(listed.setIfInBounds i true).getD x false=listed.getD x false:=fun h=>getD_set_ne false (ybe h)
   refine ⟨fun hm=>?_,fun hm=>?_⟩
   ·rw [tW,tW];by_cases e:x=i
    ·simp_all
    ·grind
   ·grind
 exact (key _ List.nodup_range).1 (yaj.2 hi)
def abW {n:Nat} {listed:Array Bool} (h:left n listed=0):∀i,i<n->listed.getD i false=true:=by
 unfold left at h
 simp_all
def abX {listed:Array Bool} (hs:listed.size=ops.size) (hb:∀(i:Nat) (o:yL),ops[i]? =some o->∀e,e∈o.after->Region.binds .any e=true->e.on<i) (h:Region.ready .any ops listed=[]):∀i,i<ops.size->listed.getD i false=true:=by
 intro i
 induction i using vI with
 | _ i ih=>
  intro hi
  cases hq:listed.getD i false with
  | true=>rfl
  | false=>
   have:i∈Region.ready .any ops listed:=by
    refine mem_ready.2 ⟨?_,ops[i],by simp [hi],fun e he oX=>?_⟩
    ·have aO:i<listed.size:=by omega
     simp only [xT,aO,vB,xX] at hq ⊢;exact hq
    ·have:=hb i ops[i] (by simp [hi]) e he oX
     exact ih e.on this (by omega)
   rw [h] at this;cases this
def afK (hG:oB O H self ops π rs bD bq bj vF) (hI:Inv O ops rs bD bq bj D m0 S0 w0 n0 d0 st c m S w a) (jg:∀i,i<rs.length->D i):
  aQ O m S w (bq rs.length) (bj rs.length)/\bH O m S w (bD rs.length) a.tmps/\bM m0 S0 w0 (bq 0) m S w (bq rs.length) (bj 0)/\bj 0<=bj rs.length:=by
 have hc:c=rs.length:=by
  rcases hI.cut with h | ⟨⟨r,h1,_⟩,h2⟩
  ·exact h
  ·exact (h2 (jg c (xp.1 h1).1)).elim
 subst hc;refine ⟨hI.hp,fun t=>?_,hI.Kr,hI.ge⟩;obtain ⟨j,h1,h2,h3⟩:=hI.tm t;obtain ⟨k,hk⟩:∃k,rs.length=j+k:=⟨rs.length-j,by omega⟩
 have:=Eg (t:=t) (i:=j) hG.run k (by omega) (fun l r g1 g2 hl hd=>by
  have:=(h2 l r hl hd).1 (jg l (xp.1 hl).1)
  omega)
 rw [<-hk] at this;rw [this];exact h3
structure EN (n:Nat) (π:Nat->Nat):Prop where
 inj:∀i j,π i=π j->i=j
 sur:∀x,x<n->∃i,i<n/\π i=x
 lt:∀i,i<n->π i<n
def ahU (hC:lC O self) (hH:dZ O H) (hG:oB O H self ops π rs bD bq bj vF) (hπ:EN ops.size π) (hn:H.n<=n0)
  (hQ:∀a' m' S' w',aQ O m' S' w' (bq rs.length) (bj rs.length)->bj 0<=bj rs.length->bH O m' S' w' (bD rs.length) a'.tmps->bM m0 S0 w0 (bq 0) m' S' w' (bq rs.length) (bj 0)->a'.tmps.size=n0->a'.defers=d0->Q .normal a' w'):
  ∀(bc:Nat) (listed:Array Bool) (st c:Nat) (m:Mp) (S:Nat->Prop) (w:yh) (a:Act),listed.size=ops.size->left ops.size listed=bc->MT ops (fun i=>listed.getD i false=true)->
   Inv O ops rs bD bq bj (fun i=>listed.getD (π i) false=true) m0 S0 w0 n0 d0 st c m S w a->wpAnyIn (WF ro) 0 O.P .any ops Q bc listed a w:=by
 have fin:∀(listed:Array Bool) (st c:Nat) (m:Mp) (S:Nat->Prop) (w:yh) (a:Act),Inv O ops rs bD bq bj (fun i=>listed.getD (π i) false=true) m0 S0 w0 n0 d0 st c m S w a->(∀i,i<ops.size->listed.getD i false=true)->Q .normal a w:=by
  intro listed st c m S w a hI jg;obtain ⟨h1,h2,h3,h4⟩:=afK hG hI (fun i hi=>jg _ (hπ.lt i (by rw [<-hG.len];exact hi)))
  exact hQ a m S w h1 h4 h2 h3 hI.size hI.defers
 intro bc
 induction bc with
 | zero=>
  intro listed st c m S w a hs hl hc hI;have jg:=abW hl;refine ⟨?_,fin listed st c m S w a hI jg⟩;rw [List.eq_nil_iff_forall_not_mem];intro i hm;obtain ⟨h1,o,ho,_⟩:=mem_ready.1 hm;have hi:=(xg.1 ho).1
  have:=jg i hi
  have aO:i<listed.size:=by omega
  simp only [xT,aO,vB,xX] at h1 this;rw [this] at h1;cases h1
 | succ bc ih=>
  intro listed st c m S w a hs hl hc hI;refine ⟨fun h=>fin listed st c m S w a hI (abX hs hG.back h),fun x hm=>?_⟩;obtain ⟨h1,o,ho,h2⟩:=mem_ready.1 hm;have hx:x<ops.size:=(xg.1 ho).1;obtain ⟨i,hi,rfl⟩:=hπ.sur x hx;have hr:rs[i]? =some (rs[i]'(by rw [hG.len];exact hi)):=by simp [hG.len,hi]
  have aO:π i<listed.size:=by omega
  have Yc:¬listed.getD (π i) false=true:=by
   simp only [xT,aO,vB,xX] at h1 ⊢;rw [h1];simp
  have Pe:∀y,(listed.setIfInBounds (π i) true).getD y false=true↔listed.getD y false=true\/y=π i:=by
   intro y;by_cases e:y=π i
   ·subst e;simp [aO]
   ·rw [getD_set_ne false (ybe e)];simp [e]
  have hD:∀j,(listed.setIfInBounds (π i) true).getD (π j) false=true↔listed.getD (π j) false=true\/j=i:=by
   intro j;rw [Pe];exact or_congr Iff.rfl ⟨fun e=>hπ.inj _ _ e,fun e=>by rw [e]⟩
  refine adT (D:=fun i=>listed.getD (π i) false=true) hC hH hG hn hI hr ho Yc (fun j hj=>R9 hc (π i) o ho h2 (π j) hj) (fun j hj A5=>?_) hD (fun st' c' m' S' w' a' Pf=>ih (listed.setIfInBounds (π i) true) st' c' m' S' w' a' (by simp [hs]) ?_ ?_ Pf)
  ·have X8:π j<ops.size:=by
    rcases wG (π j) ops.size with h | h
    ·exact h
    ·rw [xT,uX (by omega)] at A5;simp at A5
   exact Yc (adR hc (show ops[π j]? =some ops[π j] by simp [X8]) A5 hj)
  ·have:=adU hx hs h1
   omega
  ·intro j oj GJ hj e he hb;rw [Pe];rcases (Pe j).1 hj with g | g
   ·exact .inl (hc j oj GJ g e he hb)
   ·subst g;rw [ho] at GJ;injection GJ with GJ
    subst GJ;exact .inl (h2 e he hb)
end
end
section
open Go
def aaX {F:Fence} {n:Nat} {P:yK} {Q:um->Act->yh->Prop} {a:Act} {w:yh} {c:wF} (h:c.wpIn F n P Q a w) (hg:∀l a w,¬Q (.goto l) a w):(Code.scope c).wpIn F n P Q a w:=by
 intro b k cs cA hb hr;have h0:(lone (b.atR a (.code (.scope c)::k)) cs w).fenced P F:=fenced_calm hb hr rfl;have s0:step P (lone (b.atR a (.code (.scope c)::k)) cs w)= .next (lone (b.atR a (.code c:: .inScope c::k)) cs w):=step_lone_go (by simp [stepG,stepG.exec,Frame.atR]);obtain ⟨e,a₁,w₁,hq,Az⟩:=h b (.inScope c::k) cs cA hb hr;have hx:∀id,exitTo id (.inScope c::k)=exitTo id k:=fun id=>by simp [exitTo]
 cases e with
 | normal=>
  have s1:step P (lone (b.atR a₁ (.inScope c::k)) cs w₁)= .next (lone (b.atR a₁ k) cs w₁):=step_lone_go (by simp [stepG,stepG.exec,Frame.atR]);exact ⟨.normal,a₁,w₁,hq,.head h0 s0 (StepsIn.trans Az (.one (fenced_calm hb hr rfl) s1))⟩
 | exit id=>
  exact ⟨.exit id,a₁,w₁,hq,fun k' hk=> .head h0 s0 (Az.1 k' (by rw [hx];exact hk)),fun b9 hk=>let ⟨k₁,h1,h2⟩:=Az.2 b9 (by rw [hx];exact hk);⟨k₁,h1,.head h0 s0 h2⟩⟩
 | goto l=>exact (hg _ _ _ hq).elim
 | ret=>exact ⟨_,a₁,w₁,hq,.of_steps (.one h0 s0) Az⟩
 | panic ch=>exact ⟨_,a₁,w₁,hq,.of_steps (.one h0 s0) Az⟩
 | outgrown=>exact ⟨_,a₁,w₁,hq,.of_steps (.one h0 s0) Az⟩
def nL:Ex->um
 | .normal=> .normal
 | .ret=> .ret
 | .exit id=> .exit id
def Marks (lo:Nat) (S:Nat->Prop) (w:yh) (ds:List uG):Prop:=∃rs:List Nat,ds=rs.map (fun r=>{target:= .collected r,args:=#[]})/\rs.Nodup/\
 ∀r,r∈rs->w.heap[r]? =some (.deferred (some []))/\¬S r/\lo<=r
def pO (ro:Option Nat) (w:yh):Prop:=∀l,ro=some l->∃r:vX,w.heap[l]? =some (.loop r)
section
variable {O:bh} {m:Mp} {S:Nat->Prop} {w:yh} {hp:Hp} {ct:Nat}
def SS (hh:aQ O m S w hp ct) {b:Nat} (h:dB m hp b):∀x,w.heap[b]?≠some (.deferred x):=by
 intro x hx;obtain ⟨id,o,p,h1,h2,rfl⟩:=h;have h3:=hh.obj id o p h1 h2
 cases o with
 | cells rw pu ex sz cs=>obtain ⟨q,arr,t,g1,g2,_⟩:=h3;rw [h2] at g1;injection g1 with g1;subst g1;rw [hx] at g2;cases g2
 | mp rw ks vs=>obtain ⟨q,es,clock,g1,g2,_⟩:=h3;rw [h2] at g1;injection g1 with g1;subst g1;rw [hx] at g2;cases g2
 | si s pos=>obtain ⟨q,t,g1,g2,_⟩:=h3;rw [h2] at g1;injection g1 with g1;subst g1;rw [hx] at g2;cases g2
 | lp tm ps cf body st pe=>obtain ⟨q,l,hi,g1,g2,_⟩:=h3;rw [h2] at g1;injection g1 with g1;subst g1;rw [hx] at g2;cases g2
def rD (hh:aQ O m S w hp ct) {m':Mp} {S':Nat->Prop} {w':yh} {an:Hp} {base lo:Nat} (hf:bM m S w hp m' S' w' an base) {ds:List uG} (h:Marks lo S w ds):Marks lo S' w' ds:=by
 obtain ⟨rs,h1,h2,h3⟩:=h;refine ⟨rs,h1,h2,fun r hr=>?_⟩;obtain ⟨this,h4,h5⟩:=h3 r hr;have aO:=(xg.1 this).1;have ma:¬dB m hp r:=fun ho=>SS hh ho _ this
 refine ⟨(hf.same r aO ma).trans this,fun hs=>?_,h5⟩;rcases hf.new r hs with h | h | h
 ·grind
 ·grind
 ·omega
def HX {m':Mp} {S':Nat->Prop} {w':yh} {an:Hp} {base:Nat} {ro:Option Nat} (hf:bM m S w hp m' S' w' an base) (h:pO ro w):pO ro w':=fun l hl=>
 let ⟨r,hr⟩:=h l hl
 hf.loops l r hr
def dL (O:bh) (m:Mp) (S:Nat->Prop) (w:yh) (s:St) (ex:Ex) (s':St) (n lo:Nat) (e:um) (a':Act) (w':yh):Prop:=
 e=nL ex/\∃m' S',bH O m' S' w' s'.tm a'.tmps/\aQ O m' S' w' s'.hp s'.ct/\s'.base=s.base/\s.base<=s'.ct/\bM m S w s.hp m' S' w' s'.hp s.base/\a'.tmps.size=n/\Marks lo S' w' a'.defers
def sf (O:bh) (h:Nat) (c:wF) (s:St) (ex:Ex) (s':St):Prop:=
 ∀(ro:Option Nat) (lo:Nat) (m:Mp) (S:Nat->Prop) (w:yh) (a:Act),pO ro w->bH O m S w s.tm a.tmps->aQ O m S w s.hp s.ct->s.base<=s.ct->(O.hint h).n<=a.tmps.size->O.w0.heap.size<=lo->lo<=w.heap.size->Marks lo S w a.defers->
  c.wpIn (WF ro) 0 O.P (dL O m S w s ex s' a.tmps.size lo) a w
structure fw (O:bh):Prop where
 hint:∀h,dZ O (O.hint h)
 mixed:O.P.follows .mixedOrders=true
 prog:∀n F,O.prog n=some F->∃fn,O.P.funcs[O.ab n]? =some fn/\BL O.P (O.hint n) fn=some F/\fn.name≠ "runtime.NumGoroutine"
 aG:∀n sp aj r,O.aG.pure n=some sp->sp aj=some r->dG O n aj r
 Cc:∀n sp hp ct aj v an aT,O.aG.heap n=some sp->sp hp ct aj=some (v,an,aT)->se O n hp ct aj v an aT
def BB {P:yK} {H:Hint} {ops:Array yL}:∀(rs:List aM) (l:List yL) (done:List aM) (ms:List Nat),dH P H ops rs l->dH P H ops (iL done rs ms) l
 | [],l,done,ms,h=>by
  cases ms<;>simpa only [iL] using h
 | r::rs,[],done,ms,h=>by simp [dH] at h
 | r::rs,o::l,done,[],h=>by
  obtain ⟨d,g,op⟩:=r;cases op<;>simpa only [iL] using h
 | r::rs,o::l,done,m::ms,h=>by
  simp only [dH] at h;obtain ⟨h1,h2⟩:=h;obtain ⟨d,g,op⟩:=r
  cases op with
  | gE zc f xs=>
   simp only [iL,dH];refine ⟨?_,BB rs l _ ms h2⟩;rcases h1 with h1 | ⟨_,h1⟩
   ·refine .inl ⟨?_,h1.dst,h1.ok,h1.guard⟩;obtain ⟨c,f',g1,g2,g3,g4⟩:=L7 h1.op;rw [g3,g4];exact .inr (.inl ⟨c,f',_,g1,g2,rfl⟩)
   ·simp [bad] at h1
  | st sz x y=>
   simp only [iL,dH];refine ⟨?_,BB rs l _ ms h2⟩;rcases h1 with h1 | ⟨_,h1⟩
   ·refine .inl ⟨?_,h1.dst,h1.ok,h1.guard⟩;unfold stOp
    split
    ·exact h1.op
    ·obtain ⟨t,x',y',g1,g2,g3,g4⟩:=akR h1.op;exact .inr (.inr (.inl ⟨t,x',y',sz,_,g1,g2,by rw [g3,g4]⟩))
   ·simp [bad] at h1
  | cD sz b x y=>
   simp only [iL,dH];refine ⟨?_,BB rs l _ ms h2⟩;rcases h1 with h1 | ⟨_,h1⟩
   ·refine .inl ⟨?_,h1.dst,h1.ok,h1.guard⟩;unfold Wo
    split
    ·exact h1.op
    ·obtain ⟨k,hk⟩:=UH h1.op;exact .inr (.inr (.inr (.inl ⟨k,_,sz,b,x,y,hk,rfl⟩)))
   ·simp [bad] at h1
  | _=>
   simp only [iL,dH];exact ⟨h1,BB rs l _ ms h2⟩
def SU {P:yK} {H:Hint} {ops:Array yL}:∀(rs:List aM) (l:List yL) (done:List aM),dH P H ops rs l->dH P H ops (B1 done rs) l
 | [],[],_,h=>h
 | [],_::_,_,h=>by simp [dH] at h
 | r::rs,[],done,h=>by simp [dH] at h
 | r::rs,o::l,done,h=>by
  simp only [dH] at h;obtain ⟨h1,h2⟩:=h;simp only [B1,dH];refine ⟨?_,SU rs l _ h2⟩;obtain ⟨d,g,op⟩:=r
  cases op with
  | cD sz b x y=>
   simp only
   cases UD done x with
   | false=>exact h1
   | true=>
    simp only [yp];rcases h1 with h1 | ⟨_,h1⟩
    ·refine .inl ⟨?_,h1.dst,h1.ok,h1.guard⟩;obtain ⟨k,hk⟩:=UH h1.op;exact .inr (.inr (.inr (.inr (.inl ⟨k,sz,b,x,y,hk,rfl⟩))))
    ·simp [bad] at h1
  | _=>exact h1
end
section
variable {O:bh} {self:bZ}
def Ii {P:yK} {H:Hint} {ops:Array yL}:∀{rs:List aM} {l:List yL},dH P H ops rs l->rs.length=l.length/\∀(i:Nat) (r:aM) (o:yL),rs[i]? =some r->l[i]? =some o->Au P H ops r o\/(r.guard=none/\r.op=bad)
 | [],[],_=>⟨rfl,fun i r o h=>by simp at h⟩
 | [],_::_,h=>by simp [dH] at h
 | _::_,[],h=>by simp [dH] at h
 | r::rs,o::l,h=>by
  obtain ⟨h1,h2⟩:=Ii h.2;refine ⟨by simp [h1],fun i r' o' hr ho=>?_⟩
  cases i with
  | zero=>simp at hr ho;subst hr;subst ho;exact h.1
  | succ i=>exact h2 i r' o' (by simpa using hr) (by simpa using ho)
def afL {P:yK} {H:Hint} {o:yL} {n sz:Nat} {z:List AV} {ps:List (Nat×Nat×X)} (hq:kM P H (.fB n sz z ps) o):∃k,Op.fB n sz z ps=aJ P H k o:=by
 rcases hq with h | ⟨_,_,_,_,_,h3⟩ | ⟨_,_,_,_,_,_,_,h3⟩ | ⟨_,_,_,_,_,_,_,h3⟩ | ⟨_,_,_,_,_,_,h3⟩ | ⟨_,_,_,_,_,_,h3⟩
 ·exact h
 ·cases h3
 ·cases h3
 ·cases h3
 ·cases h3
 ·cases h3
def SV {P:yK} {H:Hint} {ops:Array yL} {all:List aM}:∀(rs:List aM) (l:List yL),dH P H ops rs l->dH P H ops (An all rs) l
 | [],[],h=>h
 | [],_::_,h=>by simp [dH] at h
 | r::rs,[],h=>by simp [dH] at h
 | r::rs,o::l,h=>by
  simp only [dH] at h;obtain ⟨h1,h2⟩:=h;simp only [An,dH];refine ⟨?_,SV rs l h2⟩;obtain ⟨d,g,op⟩:=r
  cases op with
  | fB n sz z ps=>
   simp only
   cases IS d all with
   | false=>exact h1
   | true=>
    simp only [yp];rcases h1 with h1 | ⟨_,h1⟩
    ·refine .inl ⟨?_,h1.dst,h1.ok,h1.guard⟩;obtain ⟨k,hk⟩:=afL h1.op;exact .inr (.inr (.inr (.inr (.inr ⟨k,n,sz,z,ps,hk,rfl⟩))))
    ·simp [bad] at h1
  | _=>exact h1
def sj (l:List yL):List Nat->List yL
 | []=>[]
 | x::r=>match l[x]? with | some o=>o::sj l r | none=>sj l r
def My {P:yK} {H:Hint} {ops:Array yL} {rs:List aM} {l:List yL} (h:dH P H ops rs l):∀(pm:List Nat),dH P H ops (r9 rs pm) (sj l pm)
 | []=>trivial
 | x::r=>by
  obtain ⟨h1,h2⟩:=Ii h;simp only [r9,sj]
  cases hr:rs[x]? with
  | none=>
   have:l[x]? =none:=by rw [List.getElem?_eq_none_iff] at hr ⊢;omega
   rw [this];exact My h r
  | some q=>
   have aO:=(xp.1 hr).1;have hl:l[x]? =some (l[x]'(by omega)):=by rw [xh]
   rw [hl];exact ⟨h2 x q _ hr hl,My h r⟩
def Sb {l:List yL}:∀(pm:List Nat),(∀x,x∈pm->x<l.length)->(sj l pm).length=pm.length/\∀(i:Nat),(sj l pm)[i]? =(pm[i]?).bind (l[·]?)
 | [],_=>⟨rfl,fun i=>by simp [sj]⟩
 | x::r,h=>by
  have hx:=h x vK;obtain ⟨h1,h2⟩:=Sb r (fun y hy=>h y (wK _ hy));have hl:l[x]? =some l[x]:=by rw [xh]
  simp only [sj,hl];refine ⟨by simp [h1],fun i=>?_⟩
  cases i with
  | zero=>simp [hl]
  | succ i=>simpa using h2 i
def QI {m:Nat}:∀(pm:List Nat) (k i:Nat),wA (BJ m pm k) i=true->k<=i/\∃x,pm[i-k]? =some x/\wA m x=true
 | [],k,i,h=>by simp [BJ] at h
 | x::r,k,i,h=>by
  simp only [BJ,yar,vm] at h;rcases h with h | h
  ·cases hx:wA m x with
   | false=>simp [hx] at h
   | true=>
    simp only [hx,yp,Nat.testBit_two_pow,vl] at h;subst h;exact ⟨yv _,x,by simp,hx⟩
  ·obtain ⟨h1,y,h2,h3⟩:=QI r (k+1) i h;refine ⟨by omega,y,?_,h3⟩;rw [show i-k=(i-(k+1))+1 by omega,List.getElem?_cons_succ];exact h2
def QJ {ms pm all:List Nat}:∀(l:List Nat) (j:Nat),(rK ms pm all l)[j]? =(l[j]?).map fun x=>BJ (ms.getD x 0) pm 0
 | [],j=>by simp [rK]
 | x::r,0=>by simp [rK]
 | x::r,j+1=>by simpa [rK] using QJ r j
def aai {n:Nat} {pm:List Nat} (h:EJ n pm (oz pm n)=true):pm.length=n/\(∀x,x∈pm->x<n)/\EN n (fun i=>pm.getD i i):=by
 simp only [EJ,yf] at h;obtain ⟨h1,h2⟩:=h;have hl:=yi h1;have kV:(oz pm n).length=n:=by simp [oz]
 have h3:∀i,i<n->pm.getD i i<n/\(oz pm n).getD i i<n/\(oz pm n).getD (pm.getD i i) i=i/\pm.getD ((oz pm n).getD i i) i=i:=fun i hi=>by
  have:=tV.1 h2 i (yaj.2 hi)
  simp only [yf] at this;obtain ⟨a,b,c,d⟩:=this;exact ⟨my.1 a,my.1 b,yi c,yi d⟩
 have out:∀i,n<=i->pm.getD i i=i:=fun i hi=>by rw [y7,List.getElem?_eq_none (by omega)];rfl
 generalize oz pm n=inv at h3 kV;have Wx:∀(l:List Nat) (i a b:Nat),i<l.length->l.getD i a=l.getD i b:=fun l i a b hi=>by
  rw [y7,y7,xh hi];rfl
 refine ⟨hl,fun x hx=>?_,⟨fun i j mc=>?_,fun x hx=>?_,fun i hi=>(h3 i hi).1⟩⟩
 ·obtain ⟨i,hi,rfl⟩:=List.getElem_of_mem hx
  have:=(h3 i (by omega)).1
  rwa [y7,xh hi] at this
 ·have mc:pm.getD i i=pm.getD j j:=mc;by_cases hi:i<n
  ·by_cases hj:j<n
   ·have a:=(h3 i hi).2.2.1;have b:=(h3 j hj).2.2.1;rw [mc] at a;rw [Wx inv _ i j (by rw [kV];exact (h3 j hj).1)] at a
    exact a.symm.trans b
   ·rw [out j (by omega)] at mc
    have:=(h3 i hi).1
    omega
  ·by_cases hj:j<n
   ·rw [out i (by omega)] at mc
    have:=(h3 j hj).1
    omega
   ·rw [out i (by omega),out j (by omega)] at mc;exact mc
 ·obtain ⟨_,b,_,d⟩:=h3 x hx;exact ⟨_,b,by show pm.getD _ _=x;rw [Wx pm _ _ x (by omega)];exact d⟩
def QK {P:yK} {H:Hint} {ops:Array yL} {rs:List aM} {Pp:aR} {L:Lib} {A2:bZ} {s s':St} (ic:(kB ops.toList 0&&mu [] rs (ia [] ops.toList))=true) (Jt:dH P H ops rs ops.toList) (hv:cI Pp L A2 rs s=some s'):
  ∃rs π,EN ops.size π/\kB ops.toList 0=true/\(rs.length=ops.size/\∀(i:Nat) (r:aM) (o:yL),rs[i]? =some r->ops[π i]? =some o->Au P H ops r o\/(r.guard=none/\r.op=bad))/\
    (∀(i j:Nat) (x y:aM),i<j->rs[i]? =some x->rs[j]? =some y->Ord ops (π i) (π j)\/AD x y ((rs.take j).drop (i+1)))/\cI Pp L A2 rs s=some s':=by
 simp only [yf] at ic;obtain ⟨hlen,ap⟩:=Ii Jt;refine ⟨rs,fun i=>i,⟨fun _ _ h=>h,fun x h=>⟨x,h,rfl⟩,fun _ h=>h⟩,ic.1,⟨by rw [hlen];simp,fun i r o hr ho=>ap i r o hr (by simpa using ho)⟩,fun i j x y mc hx hy=>?_,hv⟩
 obtain ⟨mm,g1,g2⟩:=K6 (done:=[]) (i:=i) (j:=j) (a:=x) (b:=y) ic.2 (by simpa using hx) hy (by simpa using mc);refine g2.imp (fun g=>?_) (fun g=>by simpa using g);unfold Ord;rw [y7,g1];exact g
def Z1 {P:yK} {H:Hint} {ops:Array yL} {l:List aM} {pm nP:List Nat} {Pp:aR} {L:Lib} {A2:bZ} {s s':St} (A7:dH P H ops l ops.toList) (Pg:rK (ia [] ops.toList) pm pm pm=nP) (q1:kB ops.toList 0=true)
  (q2:EJ ops.size pm (oz pm ops.size)=true) (q3:mu [] (iL [] (r9 (An l l) pm) nP) nP=true) (hv:cI Pp L A2 (iL [] (r9 (An l l) pm) nP) s=some s'):
  ∃rs π,EN ops.size π/\kB ops.toList 0=true/\(rs.length=ops.size/\∀(i:Nat) (r:aM) (o:yL),rs[i]? =some r->ops[π i]? =some o->Au P H ops r o\/(r.guard=none/\r.op=bad))/\
    (∀(i j:Nat) (x y:aM),i<j->rs[i]? =some x->rs[j]? =some y->Ord ops (π i) (π j)\/AD x y ((rs.take j).drop (i+1)))/\cI Pp L A2 rs s=some s':=by
 obtain ⟨hl,aO,hπ⟩:=aai q2;have h1:=BB _ _ [] nP (My (SV (all:=l) _ _ A7) pm);obtain ⟨h2,h3⟩:=Ii h1;obtain ⟨h4,h5⟩:=Sb (l:=ops.toList) pm (fun x hx=>by simpa using aO x hx);refine ⟨_,_,hπ,q1,⟨by rw [h2,h4,hl],fun i r o hr ho=>h3 i r o hr ?_⟩,fun i j x y mc hx hy=>?_,hv⟩
 ·have hi:i<pm.length:=by have:=(xp.1 hr).1;omega
  rw [h5,xh hi,Option.bind_some];rw [y7,xh hi,xX] at ho;simpa using ho
 ·have hj:j<pm.length:=by have:=(xp.1 hy).1;omega
  obtain ⟨mm,g1,g2⟩:=K6 (done:=[]) (i:=i) (j:=j) (a:=x) (b:=y) q3 (by simpa using hx) hy (by simpa using mc);refine g2.imp (fun g=>?_) (fun g=>by simpa using g);rw [<-Pg,QJ,xh hj,Option.map_some,yb] at g1;subst g1;obtain ⟨_,z,g3,g4⟩:=QI _ _ _ g;unfold Ord
  rw [y7 (l:=pm),xh hj,xX]
  rw [y7 (l:=pm),show pm[i]? =some z by simpa using g3,xX];exact g4
def abY {m:Mp} {S:Nat->Prop} {w:yh} {hp:Hp} {ct:Nat} (hh:aQ O m S w hp ct):Calm w {w with drawn:=w.drawn+1}:=⟨rfl,rfl,rfl,yv _,fun _ _=>rfl⟩
def ahV (hO:fw O) (hC:lC O self) (h:Nat) (id:Nat) (ops:Array yL) (draw:Bool) (k:Nat) {s s':St} (hv:cI O.prog O.aG self (Iv O.P (O.hint h) ops draw k).1 s=some s'):sf O h (.region id ops draw) s .normal s':=by
 intro ro lo m S w a cA ht hh hb hn aY eh b6;unfold Iv at hv;have A7:=Q9 (P:=O.P) (H:=O.hint h) (ops:=ops) ops.toList k;generalize hq:zR O.P (O.hint h) ops ops.toList k=q at hv A7;obtain ⟨l,k'⟩:=q;simp only at hv A7;have post:∀{a':Act} {m':Mp} {S':Nat->Prop} {w':yh},aQ O m' S' w' s'.hp s'.ct->s.ct<=s'.ct->bH O m' S' w' s'.tm a'.tmps->bM m S w s.hp m' S' w' s'.hp s.ct->a'.tmps.size=a.tmps.size->a'.defers=a.defers->s'.base=s.base->dL O m S w s .normal s' a.tmps.size lo .normal a' w':=by
  intro a' m' S' w' h1 h2 h3 h4 h5 h6 h7;exact ⟨rfl,m',S',h3,h1,h7,by omega,h4.oD hb,h5,by rw [h6];exact rD hh h4 b6⟩
 cases draw with
 | false=>
  simp only [yI] at hv;refine wpIn_region ?_;rw [List.range_eq_range'];have hl:ops.size=ops.toList.length:=by simp
  rw [hl];exact TY hC (hO.hint h) ops.toList l 0 s s' a m S w (fun j=>by simp) A7 hv ht hh hn (fun a' m' S' w' h1 h2 h3 h4 h5 h6 h7=>post h1 h2 h3 h4 h5 h6 h7)
 | true=>
  simp only [yp] at hv;have Ph:∃rs π,EN ops.size π/\kB ops.toList 0=true/\(rs.length=ops.size/\∀(i:Nat) (r:aM) (o:yL),rs[i]? =some r->ops[π i]? =some o->Au O.P (O.hint h) ops r o\/(r.guard=none/\r.op=bad))/\
    (∀(i j:Nat) (x y:aM),i<j->rs[i]? =some x->rs[j]? =some y->Ord ops (π i) (π j)\/AD x y ((rs.take j).drop (i+1)))/\cI O.prog O.aG self rs s=some s':=by
   have Jt:=BB l ops.toList [] (ia [] ops.toList) A7
   cases ic:(kB ops.toList 0&&mu [] (iL [] l (ia [] ops.toList)) (ia [] ops.toList)) with
   | true=>
    rw [ic] at hv;exact QK ic Jt hv
   | false=>
    rw [ic] at hv;simp only [yI] at hv
    cases NS:(kB ops.toList 0&&mu [] (B1 [] (iL [] l (ia [] ops.toList))) (ia [] ops.toList)) with
    | true=>
     rw [NS] at hv;exact QK NS (SU _ _ _ Jt) hv
    | false=>
     rw [NS] at hv;simp only [yI] at hv;generalize hpm:places l (ia [] ops.toList)=pm at hv;generalize Pg:rK (ia [] ops.toList) pm pm pm=nP at hv
     cases Ju:(kB ops.toList 0&&(EJ ops.size pm (oz pm ops.size)&&mu [] (iL [] (r9 (An l l) pm) nP) nP)) with
     | false=>
      rw [Ju] at hv;simp [cI,bad,aW,dO,ao] at hv
     | true=>
      rw [Ju] at hv;simp only [yp] at hv;simp only [yf] at Ju;obtain ⟨q1,q2,q3⟩:=Ju;exact Z1 A7 Pg q1 q2 q3 hv
  clear hv;obtain ⟨rs,π,hπ,akS,⟨hlen,ap⟩,akT,hv⟩:=Ph
  ·obtain ⟨bD,bq,bj,vF,hR,e1,e2,e3,e4,e5,e6,e7⟩:=TZ hv;have hG:oB O (O.hint h) self ops π rs bD bq bj vF:=by
    refine ⟨hR,hlen,fun i r o hr ho=>?_,akT,fun i o ho e he hbd=>?_⟩
    ·rcases ap i r o hr ho with g | ⟨g1,g2⟩
     ·exact g
     ·have:=hR.step i r hr
      simp [dU,g1,mH,g2,bad,aW,dO,ao] at this
    ·have:=Qq akS (j:=i) (o:=o) (by simpa using ho) e he hbd
     omega
   refine wpIn_region_any hO.mixed ?_;have Fm:=abY hh;have fI:=rC hh Fm (S':=S) (fun _ h=>h) (fun _ h=> .inl h) hh.slt
   have CN:bM m S w s.hp m S {w with drawn:=w.drawn+1} s.hp (bj 0):=pG hh Fm (fun _ h=>h) (fun _ h=> .inl h);obtain ⟨c,c1,c2,c3,c4⟩:=MU rs rs.length 0 (by omega);have hg:∀k',k'<=c->fX (bq 0) (bj 0) (bq (0+k')) (bj (0+k')):=fun k' oT=>
    HV hR (by rw [e2,e3];exact hh.aO) k' (by omega) (fun j r g1 g2 hr=>EA hr (c3 j g1 (by omega)))
   have fS:=hg c (yv _);rw [yj] at fS;obtain ⟨S1,g1,g2,g3,g4⟩:=Ic (by rw [e2,e3];exact fI:aQ O m S {w with drawn:=w.drawn+1} (bq 0) (bj 0)) fS
   have oA:∀i,(vY ops.size false).getD i false=true->False:=fun i hi=>by
    simp only [xT] at hi;by_cases aO:i<ops.size
    ·simp [aO] at hi
    ·rw [uX (by simpa using aO)] at hi;simp at hi
   refine ahU (m0:=m) (S0:=S) (w0:=w) (n0:=a.tmps.size) (d0:=a.defers) hC (hO.hint h) hG hπ hn (fun a' m' S' w' h1 h2 h3 h4 h5 h6=>?_) ops.size _ 0 c m S1 _ a (by simp) ?_ (fun j o _ hj=>(oA j hj).elim) ?_
   ·rw [e5,e6] at h1;rw [e3,e6] at h2;rw [e4] at h3;rw [e2,e3,e5] at h4;exact post h1 h2 h3 h4 h5 h6 e7
   ·unfold left;rw [List.countP_eq_length.2]
    ·simp
    ·intro i hi;simp only [wJ]
     cases hq:(vY ops.size false).getD i false with
     | false=>rfl
     | true=>exact (oA i hq).elim
   ·refine ⟨uY _,c2,fun i hi=>by omega,c3,c4.imp (fun h=>h) (fun h=>⟨h,fun hd=>oA _ hd⟩),fun i r _ _ _ hd=>oA _ hd,g1,fun id p hp=> .inl (by rw [e3];exact hh.lt id p hp),fun t=>⟨0,uY _,fun i r _ _=>⟨fun hd=>(oA _ hd).elim,fun h=>by omega⟩,?_⟩,?_,fS.mY,rfl,rfl,.inl rfl,fun j hj=>?_⟩
    ·rw [e1];exact jr (fun _ _ h=>h) (fun b hb=>g2 b hb) (fun b hb=>Fm.same b (hh.slt b hb)) _ _ (ht t)
    ·rw [e2];have g5:=g4 (bj 0);rw [e2] at g5;exact CN.trans g5
    ·have:=(hg j hj).lt
     rw [yj] at this;exact this
end
end
section
open Go
section
variable {O:bh} {m:Mp} {S:Nat->Prop} {w:yh} {hp:Hp} {ct:Nat}
def Re (hh:aQ O m S w hp ct) {g:Nat} {w':yh} (hw:One w w' g) (hg:¬S g) (ho:¬dB m hp g) (aY:O.w0.heap.size<=g):aQ O m S w' hp ct:=by
 have aP:eF S w w':=fun b hb=>hw.other b (fun e=>hg (e▸hb))
 refine ⟨fun id o p h1 h2=>?_,hh.lt,hh.inj,fun b hb=>by rw [hw.size];exact hh.slt b hb,fun id p h=>by rw [hw.size];exact hh.blt id p h,hh.low,fun b hb=>?_,by rw [hw.size];exact hh.eK,hh.aO⟩
 ·exact n7 (fun _ _ h=>h) (fun _ h=>h) aP (fun q hq=>hw.other _ (fun e=>ho ⟨id,o,q,h1,hq,e⟩)) (fun _ _ h=>h) (hh.obj id o p h1 h2)
 ·rw [hw.other b (by omega)];exact hh.jF b hb
def Rg {P:yK} {b:Nat} {o:Go.Obj} (h:w.heap[b]? =some o) (hc:∀c t f,o≠.cells c t f):(getObj b).run P w= .ok o w:=by
 simp only [getObj,Sem.run,h]
def HH {P:yK} {b:Nat} {o x:Go.Obj} (h:w.heap[b]? =some o) (hc:∀c t f,o≠.cells c t f):(setObj b x).run P w= .ok () {w with heap:=w.heap.setIfInBounds b x}:=by
 simp only [setObj,Sem.run,h]
def D5 {P:yK} {b:Nat} {r:vX} (h:w.heap[b]? =some (.loop r)):(Instr.getLoop b).run P w= .ok r w:=by
 simp only [Instr.getLoop,Sem.run_bind,Rg (P:=P) h (fun _ _ _=>by simp),Result.andThen_ok,Sem.run_pure]
def EB (hh:aQ O m S w hp ct) {l:Nat} {tm:Env} {ps:List Nat} {cf body:VC} {st:Nat} {pe:qc} {p:Pl} (hg:ap hp l=some (.lp tm ps cf body st pe)) (hm:m l=some p):
  ∃(r:vX) (h:Nat),w.heap[p.b]? =some (.loop r)/\¬S p.b/\r.state=sA st/\st<=2/\r.pending=pN pe/\bH O m S w tm r.tmps/\r.params.toList=ps/\sS O.P (O.hint h) cf r.assign/\sS O.P (O.hint h) body r.body/\
   (O.hint h).n<=r.tmps.size/\pU (O.hint h).n ps=true:=by
 obtain ⟨q,r,h,g1,g2,g3⟩:=hh.obj l _ p hg hm
 grind
def Sc (hh:aQ O m S w hp ct) {l:Nat} {tm:Env} {ps:List Nat} {cf body:VC} {st:Nat} {pe:qc} {p:Pl} (hg:ap hp l=some (.lp tm ps cf body st pe)) (hm:m l=some p) {r:vX} (hr:w.heap[p.b]? =some (.loop r))
  {st':Nat} {pe':qc} (h2:st'<=2):
  aQ O m S {w with heap:=w.heap.setIfInBounds p.b (.loop {r with state:=sA st',pending:=pN pe'})} (a6 hp l (.lp tm ps cf body st' pe')) ct/\
  bM m S w hp m S {w with heap:=w.heap.setIfInBounds p.b (.loop {r with state:=sA st',pending:=pN pe'})} (a6 hp l (.lp tm ps cf body st' pe')) ct:=by
 obtain ⟨r',h,g1,g2,g3,g4,g5,g6,g7,g8,g9,g10,g11⟩:=EB hh hg hm;rw [hr] at g1;injection g1 with g1
 injection g1 with g1
 subst g1;have eR:=Bs w p.b (.loop {r with state:=sA st',pending:=pN pe'})
 refine Eo hh hg hm g2 eR ⟨p,{r with state:=sA st',pending:=pN pe'},h,hm,HC hr,g2,rfl,h2,rfl,?_,g7,g8,g9,g10,g11⟩ (fun _ _=>⟨_,HC hr⟩);exact rB (fun _ _ h=>h) (fun _ h=>h) (fun b hb=>eR.other b (fun e=>g2 (e▸hb))) g6
def Sd {n:Nat}:∀{ps:List Nat} {vs:List AV} {us:List yg} {tm bS:Env} {tmps:Array yg},oe tm ps vs=some bS->au O.ab m S w vs us->bH O m S w tm tmps->n<=tmps.size->pU n ps=true->
  ps.length=us.length/\bH O m S w bS ((ps.zip us).foldl (fun t (x:Nat×yg)=>t.setIfInBounds x.1 x.2) tmps)/\((ps.zip us).foldl (fun t (x:Nat×yg)=>t.setIfInBounds x.1 x.2) tmps).size=tmps.size
 | [],[],us,tm,bS,tmps,h,hr,ht,hn,ha=>by
  simp only [oe,yb] at h;simp only [au] at hr
  simp_all
 | [],_::_,us,tm,bS,tmps,h,hr,ht,hn,ha=>by simp [oe] at h
 | _::_,[],us,tm,bS,tmps,h,hr,ht,hn,ha=>by simp [oe] at h
 | p::ps,v::vs,us,tm,bS,tmps,h,hr,ht,hn,ha=>by
  simp only [oe] at h;obtain ⟨u,t,rfl,h1,h2⟩:=hr;simp only [pU,yf] at ha;have hp:=my.1 ha.1;have Yd:bH O m S w ((p,v)::tm) (tmps.setIfInBounds p u):=Ma (a:=⟨tmps,[]⟩) (d:=some p) ht (fun i hi=>by injection hi with hi;show i<tmps.size;omega) h1
  obtain ⟨g1,g2,g3⟩:=Sd (n:=n) h h2 Yd (by simpa using hn) ha.2
  simp_all
def adV (ps:Array Tmp) (args:Array yg) (tmps:Array yg):(ps.zip args).foldl (fun tmps (x:Tmp×yg)=>tmps.setIfInBounds x.1 x.2) tmps=(ps.toList.zip args.toList).foldl (fun t (x:Nat×yg)=>t.setIfInBounds x.1 x.2) tmps:=by
 rw [<-Array.foldl_toList,Array.toList_zip]
def Z2 {P:yK} {b:Nat} {r:vX} (h:w.heap[b]? =some (.loop r)) (jump:Option wF):
  (Instr.endRound b jump).run P w= .ok (.bool jump.isNone) {w with heap:=w.heap.setIfInBounds b (.loop {r with state:=if jump.isNone then .ready else .done,pending:=jump})}:=by
 simp only [Instr.endRound,Sem.run_bind,D5 h,Result.andThen_ok,HH (P:=P) h (fun _ _ _=>by simp),Sem.run_pure]
def ZQ {P:yK} {b:Nat} {r:vX} (h:w.heap[b]? =some (.loop r)) (hs:r.state= .ready):
  (Instr.beginRound b).run P w= .ok () {w with heap:=w.heap.setIfInBounds b (.loop {r with state:= .busy})}:=by
 simp only [Instr.beginRound,Sem.run_bind,D5 h,Result.andThen_ok,HH (P:=P) h (fun _ _ _=>by simp),hs,Sem.run_pure]
def adW {self:bZ} (hS:∀v s ex s',self v s=some (ex,s')->∀c h l k,(comp O.P (O.hint h) c l k).1=v->sf O h c s ex s') {l:Nat} {xs:List AV} {v:AV} {an:Hp} {aT:Nat}
  (hv:lA self hp ct l xs=some (v,an,aT)):UE O hp ct l xs v an aT:=by
 intro m S w args p hh hm dF;unfold lA at hv
 split at hv
 case h_2=>cases hv
 rename_i tm ps cf body pe hg;obtain ⟨r,h,g1,g2,g3,g4,g5,g6,g7,⟨ca,ka,g8⟩,⟨cb,kb,g9⟩,g10,g11⟩:=EB hh hg hm
 cases hb:oe tm ps xs with
 | none=>simp [hb] at hv
 | some bS=>
  simp only [hb] at hv;obtain ⟨b1,b2,b3⟩:=Sd hb dF g6 g10 g11;rw [<-g7] at b1 b2 b3;have dM:args.size=r.params.size:=by
   grind
  let tmps:Array yg:=(r.params.zip args).foldl (fun tmps (x:Tmp×yg)=>tmps.setIfInBounds x.1 x.2) r.tmps
  have Wy:tmps=(r.params.toList.zip args.toList).foldl (fun t (x:Nat×yg)=>t.setIfInBounds x.1 x.2) r.tmps:=adV _ _ _;refine ⟨r.fn,tmps,r.assign,r.body,?_,?_⟩
  ·simp only [Instr.yield,Sem.run_bind,D5 g1,Result.andThen_ok,dM,ne_eq,ybo,y8,Sem.run_pure];rfl
  refine roundIn_of_wpIn (F:=Fence.wide) trivial ?_
  cases h1:self cf ⟨bS,hp,ct,ct⟩ with
  | none=>simp [h1] at hv
  | some q=>
   obtain ⟨ex1,s1⟩:=q
   cases ex1 with
   | ret=>simp [h1] at hv
   | exit id=>simp [h1] at hv
   | normal=>
    simp only [h1] at hv;have dE:=hS _ _ _ _ h1 r.assign h ca ka g8;have cA:∀w',bM m S w hp m S w' hp ct->pO (some p.b) w':=fun w' hf=>HX hf (fun l hl=>⟨r,by injection hl with hl;subst hl;exact g1⟩)
    refine wpIn_mono (dE (some p.b) w.heap.size m S w ⟨tmps,[]⟩ (cA w bM.refl) (by rw [Wy];exact b2) hh (yv _) (by show _<=tmps.size;rw [Wy,b3];exact g10) hh.eK (yv _) ⟨[],rfl,by simp,by simp⟩) ?_
    rintro e a1 w1 ⟨rfl,m1,S1,k1,k2,k3,k4,k5,k6,k7⟩;simp only [nL,Exit.then];have zd:m1 l=some p:=k5.old l p (hh.lt l p hm) hm
    split at hv
    case h_2=>cases hv
    rename_i iA AT AU Ao qK fS;obtain ⟨r1,fI,f1,f2,f3,f4,f5,f6,f7,f8,f9,f10,f11⟩:=EB k2 fS zd;have Pj:=ZQ (P:=O.P) f1 f3;obtain ⟨q1,q2⟩:=Sc k2 fS zd f1 (st':=1) (pe':=qK) (by omega)
    have dC:({r1 with state:=sA 1,pending:=pN qK}:vX)={r1 with state:= .busy}:=by rw [<-f5];rfl
    rw [dC] at q1 q2;refine ⟨_,Pj,?_⟩
    cases h2:self body ⟨s1.tm,a6 s1.hp l (.lp iA AT AU Ao 1 qK),s1.ct,s1.ct⟩ with
    | none=>simp [h2] at hv
    | some q=>
     obtain ⟨ex,s2⟩:=q;simp only [h2] at hv;have pg:=hS _ _ _ _ h2 r.body h cb kb g9
     have amp:pO (some p.b) {w1 with heap:=w1.heap.setIfInBounds p.b (.loop {r1 with state:= .busy})}:=fun l hl=>by
      grind
     have Pk:bH O m1 S1 {w1 with heap:=w1.heap.setIfInBounds p.b (.loop {r1 with state:= .busy})} s1.tm a1.tmps:=
      rB (fun _ _ h=>h) (fun _ h=>h) (fun b hb=>q2.still b hb) k1
     have amq:(O.hint h).n<=a1.tmps.size:=by
      grind
     refine wpIn_mono (pg (some p.b) w.heap.size m1 S1 _ a1 amp Pk q1 (yv _) amq hh.eK (xi k5.size q2.size) (rD k2 q2 k7)) ?_;rintro e a2 w2 ⟨rfl,m2,S2,j1,j2,j3,j4,j5,j6,j7⟩;have Ye:m2 l=some p:=j5.old l p (k2.lt l p zd) zd
     split at hv
     case h_2=>cases hv
     rename_i oP Gr Gs Fj pe2 CT;obtain ⟨r2,GK,d1,d2,d3,d4,d5,d6,d7,d8,d9,d10,d11⟩:=EB j2 CT Ye;have amr:bM m S w hp m2 S2 w2 s2.hp ct:=(k5.trans (q2.oD k4)).trans (j5.oD k4);have Wz:ct<=s2.ct:=xi k4 j4;have fin:∀(jump:Option wF) (st':Nat) (pe':qc),pN pe'=jump->sA st'=(if jump.isNone then .ready else .done)->st'<=2->
       ∃v' w',(Instr.endRound p.b jump).run O.P w2= .ok v' w'/\pE O m S w hp ct (.bool jump.isNone) (a6 s2.hp l (.lp oP Gr Gs Fj st' pe')) s2.ct (.returned v') w':=by
      intro jump st' pe' e1 e2 e3;obtain ⟨z1,z2⟩:=Sc j2 CT Ye d1 (st':=st') (pe':=pe') e3;rw [e1,e2] at z1 z2;exact ⟨_,_,Z2 d1 jump,_,m2,S2,rfl,z1,Wz,by simp [ae],amr.trans (z2.oD Wz)⟩
     cases ex with
     | normal=>
      simp only [yb,yk] at hv;obtain ⟨rfl,rfl,rfl⟩:=hv;simp only [nL,roundPost];exact fin none 0 .none rfl rfl (by omega)
     | ret=>
      simp only [MO,yb,yk] at hv;obtain ⟨rfl,rfl,rfl⟩:=hv;simp only [nL,roundPost];exact fin (some .ret) 2 .ret rfl rfl (by omega)
     | exit id=>
      simp only [MO,yb,yk] at hv;obtain ⟨rfl,rfl,rfl⟩:=hv;simp only [nL,roundPost];exact fin (some (.exit id)) 2 (.exit id) rfl rfl (by omega)
end
end
section
open Go
section
variable {O:bh} {self:bZ}
def Ij {P:yK} {f:FuncId} {fn:Func} {args:Array yg} {w:yh} (hf:P.funcs[f]? =some fn) (hb:fn.body.isSome=true) (hn:fn.name≠ "runtime.NumGoroutine"):(callFunc f args).run P w= .ok (.enter f args) w:=by
 have h1:fn.body≠none:=fun e=>by rw [e] at hb;cases hb
 simp [callFunc,program,Sem.run,hf,h1,hn]
def Lh {P:yK} {H:Hint} {fn:Func} {F:aF} (h:BL P H fn=some F):∃c,fn.body=some c/\F.body=(comp P H c 0 0).1/\mw P fn.results.toList=some F.eT/\H.n<=fn.ntmps:=by
 unfold BL at h
 split at h
 ·rename_i c rs h1 h2
  cases hb:yx H.n fn.ntmps with
  | false=>rw [hb] at h;cases h
  | true=>
   rw [hb] at h;simp only [yp,yb] at h;subst h
   simp_all
 ·cases h
def adX {m:Mp} {S:Nat->Prop} {w:yh} {hp:Hp} {ct:Nat} {tm:Env} {a:Act} {ro:Option Nat} (fn:FuncId) (ps:Array Tmp) (assign body:wF) {cf b':VC} {h:Nat} (hh:aQ O m S w hp ct) (ht:bH O m S w tm a.tmps) (cA:pO ro w)
  (Pm:sS O.P (O.hint h) cf assign) (Pn:sS O.P (O.hint h) b' body) (hn:(O.hint h).n<=a.tmps.size) (fR:pU (O.hint h).n ps.toList=true) {lo:Nat} (eh:lo<=w.heap.size) (b6:Marks lo S w a.defers):
  ∃l mark w1,(Instr.enterLoop fn a.tmps ps assign body ro).run O.P w= .ok (l,mark) w1/\aQ O (ew m ct ⟨l,0,0,0⟩) S w1 ((ct,.lp tm ps.toList cf b' 0 .none)::hp) (ct+1)/\
   bM m S w hp (ew m ct ⟨l,0,0,0⟩) S w1 ((ct,.lp tm ps.toList cf b' 0 .none)::hp) ct/\m ct=none/\Marks lo S w1 (mark++a.defers)/\w.heap.size<=l:=by
 have br:m ct=none:=by
  cases hq:m ct with
  | none=>rfl
  | some p=>have:=hh.lt ct p hq;omega
 have lay:∀(w':yh) (d:Nat),Calm w w'->Marks lo S w' a.defers->
   aQ O (ew m ct ⟨w'.heap.size,0,0,0⟩) S (w'.alloc (.loop {state:= .ready,pending:=none,fn:=fn,tmps:=a.tmps,params:=ps,assign:=assign,body:=body,defers:=d})) ((ct,.lp tm ps.toList cf b' 0 .none)::hp) (ct+1)/\
   bM m S w hp (ew m ct ⟨w'.heap.size,0,0,0⟩) S (w'.alloc (.loop {state:= .ready,pending:=none,fn:=fn,tmps:=a.tmps,params:=ps,assign:=assign,body:=body,defers:=d})) ((ct,.lp tm ps.toList cf b' 0 .none)::hp) ct:=by
  intro w' d hw WA;have fI:aQ O m S w' hp ct:=rC hh hw (fun _ h=>h) (fun _ h=> .inl h) (fun b hb=>Nat.lt_of_lt_of_le (hh.slt b hb) hw.size);have CN:bM m S w hp m S w' hp ct:=pG hh hw (fun _ h=>h) (fun _ h=> .inl h);have hg:fX hp ct ((ct,.lp tm ps.toList cf b' 0 .none)::hp) (ct+1):=by
   refine ⟨fun id o ho=>⟨o,?_,gm.refl o⟩,by omega,fun id o ho=>?_,fun id o ho hi=>?_⟩
   ·rw [ep,yE (by have:=hh.aO id o ho;omega)];exact ho
   ·rw [ep] at ho;by_cases hc:ct=id
    ·omega
    ·simp only [hc,y8] at ho;have:=hh.aO id o ho;omega
   ·rw [ep,yE (by omega)] at ho;exact ⟨o,ho⟩
  have fT:∀i q,ap ((ct,Obj.lp tm ps.toList cf b' 0 .none)::hp) i=some q->i≠ct->ap hp i=some q:=fun i q h hi=>by
   rw [ep,yE (fun e=>hi e.symm)] at h;exact h
  have GK:aQ O m S w' ((ct,.lp tm ps.toList cf b' 0 .none)::hp) (ct+1):=by
   have dV:∀id p,m id=some p->id≠ct:=fun id p hm e=>by have:=hh.lt id p hm;omega
   exact ⟨fun id o p ho hm=>fI.obj id o p (fT id o ho (dV id p hm)) hm,fun id p hm=>by have:=hh.lt id p hm;omega,
    fun i j oi oj pi pj hi hj br eV e=>fI.inj i j oi oj pi pj (fT i oi hi (dV i pi br)) (fT j oj hj (dV j pj eV)) br eV e,fI.slt,fI.blt,fI.low,fI.jF,fI.eK,hg.lt⟩
  have lZ:dX O (ew m ct ⟨w'.heap.size,0,0,0⟩) S (w'.alloc (.loop {state:= .ready,pending:=none,fn:=fn,tmps:=a.tmps,params:=ps,assign:=assign,body:=body,defers:=d})) ct (.lp tm ps.toList cf b' 0 .none):=by
   refine ⟨⟨w'.heap.size,0,0,0⟩,_,h,cV,heap_alloc_new w' _,?_,rfl,by omega,rfl,?_,rfl,Pm,Pn,hn,fR⟩
   ·intro hS
    have:=fI.slt _ hS
    simp at this
   ·exact rB (gB br) (fun _ h=>h) (fun b hb=>(D8 fI _ b hb).trans (hw.same b (hh.slt b hb))) ht
  obtain ⟨S',k1,k2,k3⟩:=L4 (i:=ct) (p:=⟨w'.heap.size,0,0,0⟩) GK br (by omega) rfl (fun o ho=>by
   rw [ep] at ho;simp only [xm,yb] at ho;subst ho
   exact .inl ⟨lZ,by simp [fV]⟩)
  have k1':aQ O (ew m ct ⟨w'.heap.size,0,0,0⟩) S (w'.alloc (.loop {state:= .ready,pending:=none,fn:=fn,tmps:=a.tmps,params:=ps,assign:=assign,body:=body,defers:=d})) ((ct,.lp tm ps.toList cf b' 0 .none)::hp) (ct+1):=by
   have Gy:∀id q,m id=some q->q.b≠w'.heap.size:=fun id q hq=>by have:=fI.blt id q hq;omega
   refine ⟨?_,k1.lt,k1.inj,fun b hb=>k1.slt b (k2 b hb),k1.blt,k1.low,k1.jF,k1.eK,k1.aO⟩;intro id o q ho hm;by_cases hc:id=ct
   ·subst hc;rw [ep] at ho
    grind
   ·rw [dD hc] at hm;exact n7 (gB br) (fun _ h=>h) (D8 fI _) (fun q' bB=>alloc_old (fI.blt id q' bB)) (fun _ _ h=>h) (fI.obj id o q (fT id o ho hc) hm)
  refine ⟨k1',CN.trans ⟨rfl,rfl,rfl,by simp,fun b hb _=>alloc_old hb,fun _ h=>h,fun b hb=>D8 fI _ b hb,fun b hb=> .inl hb,?_,fun i q _ hq=>gB br i q hq,fun b r hb=>⟨r,(alloc_old (xg.1 hb).1).trans hb⟩⟩⟩;rintro b ⟨i,o,q,g1,g2,g3⟩;by_cases hc:i=ct
  ·subst hc;rw [cV] at g2
   grind
  ·rw [dD hc] at g2;exact .inl ⟨i,o,q,fT i o g1 hc,g2,g3⟩
 cases ro with
 | none=>
  have Fm:Calm w (w.alloc (.deferred (some []))):=⟨rfl,rfl,rfl,by simp,fun b hb=>alloc_old hb⟩;obtain ⟨rs,r1,r2,r3⟩:=b6;have ams:Marks lo S (w.alloc (.deferred (some []))) a.defers:=⟨rs,r1,r2,fun r hr=>⟨(alloc_old (xg.1 (r3 r hr).1).1).trans (r3 r hr).1,(r3 r hr).2⟩⟩;obtain ⟨k1,k2⟩:=lay (w.alloc (.deferred (some []))) w.heap.size Fm ams
  refine ⟨(w.alloc (.deferred (some []))).heap.size,[{target:= .collected w.heap.size,args:=#[]}],_,?_,k1,k2,br,?_,by simp⟩
  ·simp [Instr.enterLoop,newObj,Sem.run]
  ·have hold:∀(b:Nat) (x:Go.Obj),(w.alloc (.deferred (some []))).heap[b]? =some x->((w.alloc (.deferred (some []))).alloc (.loop {state:= .ready,pending:=none,fn:=fn,tmps:=a.tmps,params:=ps,assign:=assign,body:=body,defers:=w.heap.size})).heap[b]? =some x:=fun b x hb=>
    (alloc_old (xg.1 hb).1).trans hb
   refine ⟨w.heap.size::rs,by rw [r1];rfl,?_,?_⟩
   ·grind
   ·intro r hr;rcases wc.1 hr with rfl | hr
    ·exact ⟨hold _ _ (heap_alloc_new w _),fun hs=>by have:=hh.slt _ hs;omega,eh⟩
    ·exact ⟨hold _ _ ((alloc_old (xg.1 (r3 r hr).1).1).trans (r3 r hr).1),(r3 r hr).2⟩
 | some l0=>
  obtain ⟨r0,me⟩:=cA l0 rfl;obtain ⟨k1,k2⟩:=lay w r0.defers Calm.refl b6;refine ⟨w.heap.size,[],_,?_,k1,k2,br,?_,yv _⟩
  ·simp [Instr.enterLoop,D5 me,newObj,Sem.run]
  ·exact rD hh k2 b6
def akU (hO:fw O) (hC:lC O self) {h:Nat} {f:Operand} {ps:Array Tmp} {assign body:wF} {cf b':VC} (Pm:sS O.P (O.hint h) cf assign) (Pn:sS O.P (O.hint h) b' body) (fR:pU (O.hint h).n ps.toList=true)
  {s:St} {ex:Ex} {s':St} (hv:bk O.prog O.aG self (.rf (aH (O.hint h) f) ps.toList cf b') s=some (ex,s')):sf O h (.rangeFunc f ps assign body) s ex s':=by
 intro ro lo m S w a cA ht hh hb hn aY eh b6;simp only [bk] at hv
 split at hv
 case h_2=>cases hv
 rename_i n first cap hx
 split at hv
 case h_1=>cases hv
 rename_i hL
 cases he:gD O.prog O.aG self ((s.ct,.lp s.tm ps.toList cf b' 0 .none)::s.hp) (s.ct+1) n (first++(.fn (.y s.ct) [] []::cap)) with
 | none=>simp [he] at hv
 | some q=>
  obtain ⟨v,bi,mb⟩:=q;simp only [he] at hv
  split at hv
  case h_2=>cases hv
  rename_i oP Gr Gs Fj st pe CT
  cases aP:ym st 1 with
  | true=>rw [aP] at hv;cases hv
  | false=>
   rw [aP] at hv;simp only [yI] at hv;refine wpIn_rangeFunc (fun fn _=>?_);obtain ⟨l,mark,w1,e1,e2,e3,e4,e5,e6⟩:=adX (ro:=ro) fn ps assign body hh ht cA Pm Pn hn fR eh b6;have rf:=bI (hO.hint h) ht f;rw [hx] at rf;simp only [ae] at rf;obtain ⟨fi,ca,hf,r2,r3⟩:=rf;have hle:=gB e4 (p:=⟨l,0,0,0⟩);have Cd:eF S w w1:=fun b hb=>e3.still b hb
   have dF:au O.ab (ew m s.ct ⟨l,0,0,0⟩) S w1 (first++(.fn (.y s.ct) [] []::cap)) (fi++#[Value.func (.yield l) #[] #[]]++ca).toList:=by
    have:=jo (fu hle (fun _ h=>h) Cd _ _ r2) (jo (a:=[.fn (.y s.ct) [] []]) (x:=[Value.func (.yield l) #[] #[]]) (by
     simp only [au]
     exact ⟨_,[],rfl,by simp only [ae];exact ⟨_,cV,rfl⟩,rfl⟩) (fu hle (fun _ h=>h) Cd _ _ r3))
    grind
   have Nn:=hC.heap _ _ _ _ _ _ _ he _ S w1 _ e2 dF;have hP:∃F,O.prog n=some F:=by
    unfold gD at he;rw [hL] at he
    cases hq:O.prog n with
    | none=>simp [hq] at he
    | some F=>exact ⟨F,rfl⟩
   obtain ⟨F,hF⟩:=hP;obtain ⟨fn',q1,q2,q3⟩:=hO.prog n F hF;obtain ⟨cb,q4,_⟩:=Lh q2;have eH:(callFunc (O.ab n) (fi++#[Value.func (.yield l) #[] #[]]++ca)).run O.P w1= .ok (.enter (O.ab n) (fi++#[Value.func (.yield l) #[] #[]]++ca)) w1:=Ij q1 (by rw [q4];rfl) q3
   refine ⟨l,mark,w1,{target:= .fn (.func (O.ab n)) ca,args:=fi++#[Value.func (.yield l) #[] #[]]},w1,O.ab n,fi++#[Value.func (.yield l) #[] #[]]++ca,w1,e1,?_,fun _ _=>trivial,?_,fun hd=>by simp [WF,Fence.wide] at hd,?_⟩
   ·show Sem.run O.P (Deferred.ofValue (a.eval f) _) w1=_
    rw [hf];simp [Deferred.ofValue,Act.eval]
   ·simp only [invoke];exact eH
   ·rcases Nn with ⟨_,Nn⟩ | ⟨u,w',h1,_⟩
    case inr=>rw [eH] at h1;cases h1
    have ahW:CallsIn (WF ro) 0 O.P (O.ab n) (fi++#[Value.func (.yield l) #[] #[]]++ca) w1 (pE O (ew m s.ct ⟨l,0,0,0⟩) S w1 ((s.ct,.lp s.tm ps.toList cf b' 0 .none)::s.hp) (s.ct+1) v bi mb):=Nn;refine CallsIn.mono ahW ?_;rintro e w3 ⟨u,m',S',rfl,k1,k2,k3,k4⟩;have gk:m' s.ct=some ⟨l,0,0,0⟩:=k4.old s.ct _ (Nat.lt_succ_self _) cV;obtain ⟨r,GK,d1,d2,d3,d4,d5,d6,_⟩:=EB k1 CT gk;have mZ:(r.state==LoopState.busy)=false:=by
     rw [d3];rcases st with _ | _ | st
     ·rfl
     ·simp_all
     ·have:st=0:=by omega
      subst this;rfl
    have eR:=Bs w3 l (.loop {r with state:= .exhausted});have hdl:=SO k1 s.ct;have ma:¬dB m' (dc bi s.ct) l:=QD k1 CT gk
    have z1:aQ O m' S' {w3 with heap:=w3.heap.setIfInBounds l (.loop {r with state:= .exhausted})} (VE.dc bi s.ct) mb:=Re hdl eR d2 ma (by have:=hh.eK;omega)
    have z2:bM m' S' w3 bi m' S' {w3 with heap:=w3.heap.setIfInBounds l (.loop {r with state:= .exhausted})} (VE.dc bi s.ct) s.base:=by
     refine ⟨rfl,rfl,rfl,by rw [eR.size];exact yv _,fun b _ hb=>eR.other b (fun e=>hb (e▸EL CT gk)),fun _ h=>h,fun b hb=>eR.other b (fun e=>d2 (e▸hb)),fun b hb=> .inl hb,fun b hb=> .inl (TW hb),fun _ _ _ h=>h,fun b x hb=>?_⟩
     grind
    have NT:bM m S w s.hp m' S' {w3 with heap:=w3.heap.setIfInBounds l (.loop {r with state:= .exhausted})} (VE.dc bi s.ct) s.base:=
     ((e3.oD hb).trans (k4.oD (by omega))).trans z2
    have Jv:(Instr.endLoop l).run O.P w3= .ok (pN pe) {w3 with heap:=w3.heap.setIfInBounds l (.loop {r with state:= .exhausted})}:=by
     simp only [Instr.endLoop,Sem.run_bind,D5 d1,Result.andThen_ok,mZ,yB,y8,Sem.run_pure,HH (P:=O.P) d1 (fun _ _ _=>by simp),d5]
    have WA:Marks lo S' {w3 with heap:=w3.heap.setIfInBounds l (.loop {r with state:= .exhausted})} (mark++a.defers):=rD k1 z2 (rD e2 k4 e5)
    have qX:bH O m' S' {w3 with heap:=w3.heap.setIfInBounds l (.loop {r with state:= .exhausted})} s.tm a.tmps:=by
     refine rB (fun id p hp=>?_) NT.sub (fun b hb=>NT.still b hb) ht;have h1:=hh.lt id p hp;exact k4.old id p (by omega) (hle id p hp)
    have post:∀Po,s'={s with hp:=VE.dc bi s.ct,ct:=mb}->ex=Po->dL O m S w s ex s' a.tmps.size lo (nL Po) {a with defers:=mark++a.defers} {w3 with heap:=w3.heap.setIfInBounds l (.loop {r with state:= .exhausted})}:=by
     rintro Po rfl rfl;exact ⟨rfl,m',S',qX,z1,rfl,by show s.base<=mb;omega,NT,rfl,WA⟩
    refine ⟨_,_,Jv,?_⟩
    cases pe with
    | none=>
     simp only [yb,yk] at hv;exact post .normal hv.2.symm hv.1.symm
    | ret=>
     simp only [yb,yk] at hv;exact wpIn_ret (post .ret hv.2.symm hv.1.symm)
    | exit id=>
     simp only [yb,yk] at hv;exact wpIn_exit (post (.exit id) hv.2.symm hv.1.symm)
end
end
def Le (f g:bZ):Prop:=∀c s r,f c s=some r->g c s=some r
section
variable {P:aR} {L:Lib} {f g:bZ}
def K5 (h:Le f g) (n:Nat) (aj:List AV) (r:AV) (hr:bA P L f n aj=some r):bA P L g n aj=some r:=by
 unfold bA at hr ⊢
 cases hL:L.pure n with
 | some sp=>simpa only [hL] using hr
 | none=>
  simp only [hL] at hr ⊢
  cases hP:P n with
  | none=>simp [hP] at hr
  | some F=>
   simp only [hP] at hr ⊢
   cases hf:f F.body ⟨eE 0 aj,[],0,0⟩ with
   | none=>simp [hf] at hr
   | some q=>rw [h _ _ _ hf];simpa only [hf] using hr
def Li (h:Le f g) (hp:Hp) (ct:Nat) (n:Nat) (aj:List AV) (r:AV×Hp×Nat) (hr:gD P L f hp ct n aj=some r):gD P L g hp ct n aj=some r:=by
 unfold gD at hr ⊢
 cases hL:L.heap n with
 | some sp=>simpa only [hL] using hr
 | none=>
  simp only [hL] at hr ⊢
  cases hP:P n with
  | none=>simp [hP] at hr
  | some F=>
   simp only [hP] at hr ⊢
   cases hf:f F.body ⟨eE 0 aj,hp,ct,ct⟩ with
   | none=>simp [hf] at hr
   | some q=>rw [h _ _ _ hf];simpa only [hf] using hr
def Qw (h:Le f g) (hp:Hp) (ct:Nat) (l:Nat) (xs:List AV) (r:AV×Hp×Nat) (hr:lA f hp ct l xs=some r):lA g hp ct l xs=some r:=by
 unfold lA at hr ⊢
 cases hl:ap hp l with
 | none=>simp [hl] at hr
 | some o=>
  simp only [hl] at hr ⊢
  split at hr
  ·rename_i tm ps cf body pe iE
   cases hb:oe tm ps xs with
   | none=>simp [hb] at hr
   | some bS=>
    simp only [hb] at hr ⊢
    cases h1:f cf ⟨bS,hp,ct,ct⟩ with
    | none=>simp [h1] at hr
    | some q=>
     rw [h _ _ _ h1];simp only [h1] at hr ⊢
     split at hr
     ·rename_i s1 amt
      split at hr
      ·rename_i iA AT AU Ao qK amu
       cases h2:f body ⟨s1.tm,a6 s1.hp l (.lp iA AT AU Ao 1 qK),s1.ct,s1.ct⟩ with
       | none=>simp [h2] at hr
       | some q2=>rw [h _ _ _ h2];simpa only [h2] using hr
      ·simp at hr
     ·simp at hr
  ·simp at hr
def QM (h:Le f g) (hp:Hp) (ct:Nat) (m:Md) (fv:AV) (xs:List AV) (r:AV×Hp×Nat) (hr:dO P L f hp ct m fv xs=some r):dO P L g hp ct m fv xs=some r:=by
 unfold dO at hr ⊢
 split at hr
 ·rename_i n first cap
  cases m with
  | pure=>
   cases hz:cm deep hp (first++(xs++cap)) with
   | none=>simp [hz] at hr
   | some q=>
    simp only [hz] at hr ⊢
    cases hc:bA P L f n q.1 with
    | none=>simp [hc] at hr
    | some u=>rw [K5 h n q.1 u hc];simpa only [hc] using hr
  | own=>
   cases hz:cm deep hp (first++(xs++cap)) with
   | none=>simp [hz] at hr
   | some q=>
    simp only [hz] at hr ⊢
    cases hc:bA P L f n q.1 with
    | none=>simp [hc] at hr
    | some u=>rw [K5 h n q.1 u hc];simpa only [hc] using hr
  | heap=>exact Li h _ _ _ _ _ hr
  | dyn=>
   cases hz:aC (first++(xs++cap)) with
   | true=>
    simp only [hz,yp] at hr ⊢
    cases hc:bA P L f n (first++(xs++cap)) with
    | none=>simp [hc] at hr
    | some u=>rw [K5 h n _ u hc];simpa only [hc] using hr
   | false=>
    simp only [hz,yI] at hr ⊢;exact Li h _ _ _ _ _ hr
 ·split at hr
  ·exact Qw h _ _ _ _ _ hr
  ·exact Qw h _ _ _ _ _ hr
  ·simp at hr
 ·simp at hr
def Se (h:Le f g) (tm:Env) (hp:Hp) (ct:Nat) (o:Op) (r:AV×Hp×Nat) (hr:aW P L f tm hp ct o=some r):aW P L g tm hp ct o=some r:=by
 unfold aW at hr ⊢
 split at hr
 ·exact QM h _ _ _ _ _ _ hr
 ·rename_i rs fv xs
  cases hc:dO P L f hp ct .dyn (ao tm fv) (cX tm xs) with
  | none=>simp [hc] at hr
  | some q=>rw [QM h _ _ _ _ _ _ hc];simpa only [hc] using hr
 all_goals simpa only using hr
def HI (h:Le f g):∀(ops:List aM) (s s':St),cI P L f ops s=some s'->cI P L g ops s=some s'
 | [],s,s',hr=>by simpa only [cI] using hr
 | ⟨d,gd,o⟩::r,s,s',hr=>by
  simp only [cI] at hr ⊢
  split at hr
  ·rename_i hw
   cases ho:aW P L f s.tm s.hp s.ct o with
   | none=>simp [ho] at hr
   | some q=>rw [Se h _ _ _ _ _ ho];simp only [ho] at hr ⊢;exact HI h r _ _ hr
  ·rename_i hw
   (try simp only [hw]);exact HI h r _ _ hr
  ·simp at hr
def nm (h:Le f g):∀(c:VC) (s:St) (r:Ex×St),bk P L f c s=some r->bk P L g c s=some r
 | .skip,s,r,hr=>by simpa only [bk] using hr
 | .jM ops,s,r,hr=>by
  simp only [bk] at hr ⊢
  cases ho:cI P L f ops s with
  | none=>simp [ho] at hr
  | some s'=>rw [HI h _ _ _ ho];simpa only [ho] using hr
 | .seq a b,s,r,hr=>by
  simp only [bk] at hr ⊢
  cases ha:bk P L f a s with
  | none=>simp [ha] at hr
  | some q=>
   rw [nm h a s q ha];obtain ⟨ex,s1⟩:=q
   cases ex with
   | normal=>simp only [ha] at hr ⊢;exact nm h b s1 r hr
   | ret=>simpa only [ha] using hr
   | exit id=>simpa only [ha] using hr
 | .cond x a b,s,r,hr=>by
  simp only [bk] at hr ⊢
  split at hr
  ·rename_i t ht
   cases t with
   | true=>simp only [yp] at hr ⊢;exact nm h a s r hr
   | false=>simp only [yI] at hr ⊢;exact nm h b s r hr
  ·simp at hr
 | .cT id a,s,r,hr=>by
  simp only [bk] at hr ⊢
  cases ha:bk P L f a s with
  | none=>simp [ha] at hr
  | some q=>rw [nm h a s q ha];simpa only [ha] using hr
 | .kp live,s,r,hr=>by simpa only [bk] using hr
 | .fz ts,s,r,hr=>by simpa only [bk] using hr
 | .loop live a,s,r,hr=>by
  simp only [bk] at hr ⊢
  cases ha:bk P L f a (aV live s) with
  | none=>simp [ha] at hr
  | some q=>
   rw [nm h a _ q ha];obtain ⟨ex,s1⟩:=q
   cases ex with
   | normal=>simp only [ha] at hr ⊢;exact h _ _ _ hr
   | ret=>simpa only [ha] using hr
   | exit id=>simpa only [ha] using hr
 | .rf fv ps cf body,s,r,hr=>by
  simp only [bk] at hr ⊢
  split at hr
  ·rename_i n first cap hx
   split at hr
   ·grind
   ·rename_i hL
    cases hc:gD P L f ((s.ct,.lp s.tm ps cf body 0 .none)::s.hp) (s.ct+1) n (first++(.fn (.y s.ct) [] []::cap)) with
    | none=>simp [hc] at hr
    | some q=>rw [Li h _ _ _ _ _ hc];simpa only [hc] using hr
  ·simp at hr
 | .exit id,s,r,hr=>by simpa only [bk] using hr
 | .ret,s,r,hr=>by simpa only [bk] using hr
end
def EC (P:aR) (L:Lib) (c:VC) (s:St):ev P L 0 c s=none:=rfl
def ID (P:aR) (L:Lib) (n:Nat):ev P L (n+1)=bk P L (ev P L n):=rfl
def Ve (P:aR) (L:Lib):∀n,Le (ev P L n) (ev P L (n+1))
 | 0=>fun c s r h=>by rw [EC] at h;cases h
 | n+1=>fun c s r h=>by
  exact nm (Ve P L n) c s r h
def Mz (P:aR) (L:Lib) {n m:Nat} (h:n<=m):Le (ev P L n) (ev P L m):=by
 induction h with
 | refl=>exact fun _ _ _ h=>h
 | step _ ih=>exact fun c s r hr=>Ve P L _ c s r (ih c s r hr)
end VE
