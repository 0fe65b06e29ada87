import Derived.Test.YtpdlhopnhojpjaaGreatDoorTao
import Derived.Test.YtpdlhopnhojpjaaGreatDoorTag
import Derived.Test.YtpdlhopnhojpjaaGreatDoorTaf
import Derived.Test.YtpdlhopnhojpjaaGreatDoorTan
set_option linter.all false
set_option maxRecDepth 100000
open Bool renaming false_eq_true→yN,not_false→yU,not_true→yR
open Function renaming comp→uU
open List renaming Nodup→tr,append_assoc→xm,append_nil→xT,cons_append→xr,drop→vh,drop_eq_getElem_cons→yP,drop_zero→yL,eq_nil_of_length_eq_zero→yF,getD_eq_getElem?_getD→yM,getElem?_eq_getElem→y9,getElem_append_left→xk,getElem_append_right→xA,getElem_cons_succ→wB,getElem_cons_zero→xy,getElem_map→yX,getElem_mem→yE,getElem_range→vl,getElem_set→uI,getElem_take→vC,length→tR,length_append→yG,length_cons→yy,length_map→yk,length_nil→yO,length_range→tV,length_set→xD,length_take→yI,length_zipWith→tj,map→wH,map_append→xg,map_congr_left→vm,map_cons→xd,map_id→ybU,map_map→wu,map_nil→vN,map_set→tT,mem_append→xL,mem_cons→wJ,mem_cons_of_mem→xY,mem_cons_self→wM,mem_iff_getElem→xG,mem_map→wA,mem_range→yax,mem_singleton→xu,nil_append→xp,nodup_append→yaR,nodup_cons→xQ,pairwise_cons→yaN,pairwise_iff_getElem→wX,range→y5,range'→wo,range'_eq_map_range→uC,range'_succ→vT,replicate→yf,replicate_succ→xP,take_of_length_le→yC,take_succ_eq_append_getElem→yT,take_zero→yat,zipWith→xW,zipWith_cons_cons→yan
open Nat renaming add_comm→yaP,add_one_ne_zero→xo,add_zero→y7,le_refl→yq,min_eq_left→xt,mul_one→yh,reduceAdd→yd,reduceEqDiff→ya,reduceLT→yJ,reduceLeDiff→yp,reduceMul→xj,sub_self→ub,zero_add→yg,zero_le→uJ,zero_lt_one→tO
open Option.some renaming inj→th,injEq→ye
open Rat renaming mul_inv_cancel→tu
namespace VE
open Go (IntKind)
def BA (id:Nat) (o:Obj) (j:Nat):∀hp:Hp,ao (aT hp id o) j=if j=id then (ao hp id).map (fun _=>o) else ao hp j
 | []=>by by_cases h:j=id<;>simp [aT,ao,h]
 | (i,u)::r=>by
  have ih:=BA id o j r;by_cases h1:i=id
  ·subst h1;rw [abg];by_cases h2:j=i
   ·subst h2;rw [yA rfl,ej,ej];rfl
   ·rw [yo h2,cd _ _ (fun e=>h2 e.symm),cd _ _ (fun e=>h2 e.symm)]
  ·rw [SH _ _ _ h1];by_cases h2:j=i
   ·subst h2;rw [yo h1,ej,ej]
   ·rw [cd _ _ (fun e=>h2 e.symm),ih,cd _ _ h1,cd _ _ (fun e=>h2 e.symm)]
def fM {hp:Hp} {id:Nat} {u:Obj} (h:ao hp id=some u) (o:Obj) (j:Nat):ao (aT hp id o) j=if j=id then some o else ao hp j:=by
 rw [BA,h];rfl
def nS (id j:Nat):∀hp:Hp,ao (dJ hp id) j=if j=id then none else ao hp j
 | []=>by split<;>rfl
 | (i,u)::r=>by
  have ih:=nS id j r;by_cases h1:i=id
  ·subst h1;rw [abh,ih];by_cases h2:j=i
   ·rw [yA h2,yA h2]
   ·rw [yo h2,yo h2,cd _ _ (fun e=>h2 e.symm)]
  ·rw [aal _ _ h1];by_cases h2:j=i
   ·subst h2;rw [yo h1,ej,ej]
   ·rw [cd _ _ (fun e=>h2 e.symm),ih,cd _ _ (fun e=>h2 e.symm)]
def abJ (i:Nat):∀l:List Nat,jR i l=true↔i∈l
 | []=>by simp [jR]
 | j::r=>by
  by_cases h:j=i
  ·subst h;simp [abk]
  ·rw [SI _ h,abJ i r];simp [show ¬i=j from fun e=>h e.symm]
def aqN {i:Nat} {l:List Nat} (h:i∉l):jR i l=false:=by
 cases hq:jR i l with
 | false=>rfl
 | true=>exact absurd ((abJ i l).1 hq) h
def OI (hp:Hp):∀(ids seen gh:List Nat) (n:Nat),ids.length<n->(∀i,i∈ids->∃o,ao hp i=some o/\iR o=[])->ids.Nodup->(∀i,i∈ids->i∉seen)->mo hp n (ids++gh) seen=mo hp (n-ids.length) gh (seen++ids)
 | [],seen,gh,n,_,_,_,_=>by simp
 | i::ids,seen,gh,0,h,_,_,_=>by simp at h
 | i::ids,seen,gh,n+1,h,h1,h2,h3=>by
  obtain ⟨o,g,e⟩:=h1 i wM;have hn:=xQ.1 h2
  rw [xr,FA,aqN (h3 i wM),Gc,g,Gd,e,xp,OI hp ids (seen++[i]) gh n (by simpa using h) (fun j hj=>h1 j (xY _ hj)) hn.2 (fun j hj hm=>by
   rcases xL.1 hm with hm | hm
   ·exact h3 j (xY _ hj) hm
   ·simp only [xu] at hm
    subst hm;exact hn.1 hj)]
  simp only [yy,xm,xr,xp];rw [show n+1-(ids.length+1)=n-ids.length by omega]
def TY (hp:Hp) {n:Nat} (h:0<n) (seen:List Nat):mo hp n [] seen=seen:=by
 obtain ⟨m,rfl⟩:∃m,n=m+1:=⟨n-1,by omega⟩;exact acM hp m seen
def Tn (hp:Hp) (f:Nat->Option Nat):∀(seen:List Nat) (k:Nat) (acc:Hp) (j:Nat),j<k->ao (iz hp f seen k acc) j=ao acc j
 | [],k,acc,j,_=>rfl
 | id::r,k,acc,j,h=>by
  rw [iz]
  cases ao hp id with
  | none=>exact Tn hp f r (k+1) acc j (by omega)
  | some o=>
   simp only;rw [Tn hp f r (k+1) _ j (by omega),cd _ _ (by omega)]
def ZJ (hp:Hp) (f:Nat->Option Nat):∀(seen:List Nat) (k:Nat) (acc:Hp) (j:Nat) (h:j<seen.length) (o:Obj),ao hp seen[j]=some o->ao (iz hp f seen k acc) (k+j)=some (iT f o)
 | id::r,k,acc,0,_,o,ho=>by
  simp only [xy] at ho;rw [iz];simp only [ho];show ao (iz hp f r (k+1) ((k,iT f o)::acc)) k=_
  rw [Tn hp f r (k+1) _ k (by omega),ej]
 | id::r,k,acc,j+1,h,o,ho=>by
  simp only [wB] at ho
  have:=fun AK=>ZJ hp f r (k+1) AK j (by simpa using h) o ho
  rw [iz,show k+(j+1)=k+1+j by omega]
  cases ao hp id with
  | none=>exact this _
  | some u=>exact this _
def sJ:∀(seen:List Nat) (k j:Nat) (h:j<seen.length),seen.Nodup->dc seen[j] seen k=some (k+j)
 | s::r,k,0,_,_=>by simp only [xy,y7];exact acN s r k
 | s::r,k,j+1,h,hn=>by
  have hn:=xQ.1 hn;have hj:j<r.length:=by simpa using h
  simp only [wB];rw [abl _ _ (fun e=>hn.1 (by rw [e];exact yE hj)),sJ r (k+1) j hj hn.2]
  congr 1;omega
def R3 {live:List Nat} {tm:Env} {hp:Hp} {ct:Nat} {seen:List Nat} (hr:mo hp 100000 (et (bP tm live)) []=seen):
  ∃ah,aG live ⟨tm,hp,ct,0⟩=⟨fe (pos seen) (bP tm live),ah,seen.length,0⟩/\∀j (h:j<seen.length) o,ao hp seen[j]=some o->ao ah j=some (iT (pos seen) o):=by
 refine ⟨iz hp (pos seen) seen 0 [],by rw [aw,hr,acO],fun j h o ho=>?_⟩
 have:=ZJ hp (pos seen) seen 0 [] j h o ho
 rwa [yg] at this
def aaC {w:Nat}:∀(ids:List Nat) (T:List (List AV)) (hp:Hp) (n:Nat),ids.length+4<=n->ids.length=T.length->(∀i (h1:i<ids.length) (h2:i<T.length),T[i].length=w/\∃rw,ao hp ids[i]=some (.cells rw true false 1 T[i]))->
  ∃ah,cD n hp (ids.map fun i=> .ak i 0 w)=some (T.map (fun r=> .aE false w r),ah)/\∀j,j∉ids->ao ah j=ao hp j
 | [],[],hp,n+1,_,_,_=>⟨hp,rfl,fun _ _=>rfl⟩
 | [],[],hp,0,h,_,_=>by simp at h
 | [],_::_,_,_,_,h,_=>by simp at h
 | _::_,[],_,_,_,h,_=>by simp at h
 | i::ids,r::T,hp,n+1,hn,hl,h=>by
  obtain ⟨l0,bS,g0⟩:=h 0 (by simp) (by simp);simp only [xy] at l0 g0;simp only [yy] at hn hl;obtain ⟨m,rfl⟩:∃m,n=m+1+1:=⟨n-2,by omega⟩;have hz:nT (m+1) hp i=some (false,1,r,if bS=true then aT hp i (.cells false true false 1 r) else hp):=by
   rw [JE,g0];cases bS<;>rfl
  have KR:∃a6,(if bS=true then aT hp i (.cells false true false 1 r) else hp)=a6/\∀j,ao a6 j=if j=i then some (.cells (if bS=true then false else bS) true false 1 r) else ao hp j:=by
   refine ⟨_,rfl,fun j=>?_⟩
   cases bS with
   | true=>simp only [xE];rw [fM g0]
   | false=>
    simp only [yN,xn]
    split
    ·rename_i e;rw [e,g0]
    ·rfl
  obtain ⟨a6,e1,g1⟩:=KR;rw [e1] at hz;obtain ⟨ah,e2,g2⟩:=aaC ids T a6 (m+1+1) (by omega) (by omega) (fun k h1 h2=>by
   obtain ⟨a,E6,b⟩:=h (k+1) (by simpa using h1) (by simpa using h2);simp only [wB] at a b;refine ⟨a,?_⟩;rw [g1]
   split
   ·rename_i e;rw [e,g0] at b;simp only [ye,Obj.cells.injEq] at b;exact ⟨_,by rw [b.2.2.2.2]⟩
   ·exact ⟨E6,b⟩)
  refine ⟨ah,?_,fun j hj=>?_⟩
  ·rw [xd,NS,JD,hz,lP false (by rw [l0,yh]) (by decide),OV,e2,OW];rfl
  ·simp only [wJ,not_or] at hj;rw [g2 j hj.2,g1,yo hj.1]
def cr (r:List Rat):List AV:=r.map fun x=> .str (RT x)
def qF (r:List Rat):(cr r).length=r.length:=yk _
def Dy {r:List Rat} {c:Nat} (h:c<r.length):vh c (cr r)= .str (RT (aW r c))::vh (c+1) (cr r):=by
 rw [yP (by rw [qF];exact h),db h];simp [cr]
def O2 (r:List Rat) (c:Nat) (x:Rat):(cr r).set c (.str (RT x))=cr (r.set c x):=by simp [cr,tT]
def O3 (e:Bool) (r:List Rat):bm (.aE e r.length (cr r)) (r.map RT):=by
 have:=OH e (r.map RT)
 rw [yk,wu] at this;exact this
structure bE (hp:Hp) (w:Nat) (M:Mx):Prop where
 m:ao hp 0=some (.cells true false false 1 ((y5 M.length).map fun i=> .ak (i+1) 0 w))
 r:∀i,i<M.length->ao hp (i+1)=some (.cells true true false 1 (cr (gR M i)))
def dV (hp:Hp) (n k:Nat) (pvs:List AV):Prop:=k=0\/ao hp (n+1)=some (.cells true true false 1 pvs)
def bE.drop {n p w:Nat} (h:p<n):∃r,vh p ((y5 n).map fun i=>AV.ak (i+1) 0 w)= .ak (p+1) 0 w::r:=by
 rw [yP (by simpa using h)]
 simp
def bE.set {hp:Hp} {w:Nat} {M:Mx} (h:bE hp w M) {i:Nat} (hi:i<M.length) (r:List Rat):bE (aT hp (i+1) (.cells true true false 1 (cr r))) w (M.set i r):=by
 refine ⟨?_,fun j hj=>?_⟩
 ·rw [fM (h.r i hi),yo (by omega),xD];exact h.m
 ·rw [xD] at hj;rw [fM (h.r i hi),ib];by_cases e:i=j
  ·grind
  ·rw [yo (by omega),yo (fun q=>e q.1)];exact h.r j hj
def dV.set {hp:Hp} {n k:Nat} {pvs:List AV} (h:dV hp n k pvs) {i:Nat} {o:Obj} (hi:i<=n):dV (aT hp i o) n k pvs:=by
 rcases h with h | h
 ·exact .inl h
 ·refine .inr ?_;rw [BA,yo (by omega)];exact h
def cL (a:Nat) (ids pl:List Nat):List Nat:=a::(ids++pl)
def aaD (w:Nat):∀ids:List Nat,gG (ids.map fun i=>AV.ak i 0 w)=ids
 | []=>rfl
 | i::r=>by simp only [xd,gG,refs,aaD w r];rfl
def awb {hp:Hp} {a w:Nat} {ids pl:List Nat} {bS ex:Bool} (hm:ao hp a=some (.cells bS false ex 1 (ids.map fun i=> .ak i 0 w))) (hr:∀i,i∈ids->∃o,ao hp i=some o/\iR o=[]) (a6:∀i,i∈pl->∃o,ao hp i=some o/\iR o=[]) (hn:(cL a ids pl).Nodup) (hl:ids.length+pl.length<90000):mo hp 100000 (a::pl) []=cL a ids pl:=by
 have gZ:=xQ.1 hn;have ck:∀i,i∈ids++pl->i∉[a]:=fun i hi hm=>by
  grind
 rw [show (100000:Nat)=99999+1 from rfl,FA,Jh,Gc,hm,Gd,Oy,aaD,xp]
 have:ids++pl=(ids++pl)++[]:=by simp
 rw [this,OI hp (ids++pl) [a] [] 99999 (by rw [yG];omega) (fun i hi=>by
  rcases xL.1 hi with h | h
  ·grind
  ·exact a6 i h) gZ.2 ck,TY hp (by rw [yG];omega)]
 rfl
def abK {f:Nat->Option Nat} {w:Nat}:∀(ids:List Nat) (k:Nat),(∀i (h:i<ids.length),f ids[i]=some (k+i))->eH f (ids.map fun i=>AV.ak i 0 w)=(wo k ids.length).map fun i=> .ak i 0 w
 | [],_,_=>rfl
 | i::r,k,h=>by
  have h0:=h 0 (by simp);simp only [xy,y7] at h0;simp only [xd,eH,b8,h0,yy,vT]
  rw [abK r (k+1) (fun j hj=>by
   have:=h (j+1) (by simpa using hj)
   simp only [wB] at this
   rw [this];congr 1;omega)]
def OJ {live:List Nat} {tm:Env} {hp:Hp} {ct a w:Nat} {ids pl:List Nat} {M:Mx} (hE:et (bP tm live)=a::pl) (hm:ao hp a=some (.cells true false false 1 (ids.map fun i=> .ak i 0 w)))
  (hl:ids.length=M.length) (hr:∀i (h:i<ids.length),ao hp ids[i]=some (.cells true true false 1 (cr (gR M i)))) (hM:M.length<=10000) (hn:(cL a ids pl).Nodup) (a6:∀i,i∈pl->∃o,ao hp i=some o/\iR o=[]) (eJ:pl.length<=1000):
  ∃ah aK,aK=1+(M.length+pl.length)/\aG live ⟨tm,hp,ct,0⟩=⟨fe (pos (cL a ids pl)) (bP tm live),ah,aK,0⟩/\bE ah w M/\(∀j (h:j<pl.length) o,ao hp pl[j]=some o->ao ah (M.length+1+j)=some (iT (pos (cL a ids pl)) o))/\dc a (cL a ids pl) 0=some 0/\∀j (h:j<pl.length),dc pl[j] (cL a ids pl) 0=some (M.length+1+j):=by
 have ij:∀i,i∈ids->∃o,ao hp i=some o/\iR o=[]:=fun i hi=>by
  obtain ⟨k,hk,rfl⟩:=xG.1 hi;exact ⟨_,hr k hk,rfl⟩
 have hR:=awb (pl:=pl) hm ij a6 hn (by omega);rw [<-hE] at hR;obtain ⟨ah,e,g⟩:=R3 (ct:=ct) hR;have ls:(cL a ids pl).length=1+(ids.length+pl.length):=by simp [cL];omega
 have s0:∀h:0<(cL a ids pl).length,(cL a ids pl)[0]=a:=fun _=>rfl
 have sI:∀i (h:i<ids.length) (h2:i+1<(cL a ids pl).length),(cL a ids pl)[i+1]=ids[i]:=fun i h h2=>by
  simp [cL,xk h]
 have sP:∀j (h:j<pl.length) (h2:M.length+1+j<(cL a ids pl).length),(cL a ids pl)[M.length+1+j]=pl[j]:=fun j h h2=>by
  have:M.length+1+j=(ids.length+j)+1:=by omega
  simp only [cL,this,wB]
  grind
 have pI:∀i (h:i<ids.length),pos (cL a ids pl) ids[i]=some (1+i):=fun i h=>by
  have:=sJ (cL a ids pl) 0 (i+1) (by omega) hn
  rw [sI i h (by omega)] at this;rw [pos_eq,this];congr 1;omega
 refine ⟨ah,_,by rw [ls,hl],e,⟨?_,fun i hi=>?_⟩,fun j hj o ho=>?_,?_,fun j hj=>?_⟩
 ·have:=g 0 (by omega) _ (by rw [s0];exact hm)
  rw [this];have e2:iT (pos (cL a ids pl)) (.cells true false false 1 (ids.map fun i=> .ak i 0 w))= .cells true false false 1 (eH (pos (cL a ids pl)) (ids.map fun i=> .ak i 0 w)):=rfl;rw [e2,abK ids 1 pI,hl,uC,wu]
  congr 3
  funext i
  simp [yaP]
 ·have:=g (i+1) (by omega) _ (by rw [sI i (by omega)];exact hr i (by omega))
  rw [this];rfl
 ·exact g (M.length+1+j) (by omega) o (by rw [sP j hj (by omega)];exact ho)
 ·have:=sJ (cL a ids pl) 0 0 (by omega) hn
  rw [s0] at this;exact this
 ·have:=sJ (cL a ids pl) 0 (M.length+1+j) (by omega) hn
  rw [sP j hj (by omega),yg] at this;exact this
def di (n k:Nat):List Nat:=if k=0 then [] else [n+1]
def aaE (n k:Nat):(cL 0 ((y5 n).map (·+1)) (di n k)).Nodup:=by
 unfold cL di;have h1:((y5 n).map (·+1)).Nodup:=by
  have e:(y5 n).map (·+1)=wo 1 n:=by
   rw [uC]
   grind
  grind
 grind
def aaF {live:List Nat} {tm:Env} {hp:Hp} {ct w k:Nat} {M:Mx} {pvs:List AV} (h:bE hp w M) (hv:dV hp M.length k pvs) (hM:M.length<=10000) (hE:et (bP tm live)=0::di M.length k):
  ∃ah aK S,aK=1+(M.length+(di M.length k).length)/\aG live ⟨tm,hp,ct,0⟩=⟨fe (pos S) (bP tm live),ah,aK,0⟩/\bE ah w M/\dV ah M.length k pvs/\dc 0 S 0=some 0/\(k≠0->dc (M.length+1) S 0=some (M.length+1)):=by
 have hm:=h.m;rw [show ((y5 M.length).map fun i=>AV.ak (i+1) 0 w)=((y5 M.length).map (·+1)).map (fun i=> .ak i 0 w) by rw [wu];rfl] at hm
 obtain ⟨ah,aK,eZ,e,g1,g2,g3,g4⟩:=OJ (ct:=ct) hE hm (by simp) (fun i hi=>by
  simp only [yX,vl];exact h.r i (by simpa using hi)) hM (aaE M.length k) (fun i hi=>by
   unfold di at hi
   split at hi
   ·grind
   ·rename_i hk;simp only [xu] at hi;subst hi;rcases hv with hv | hv
    ·grind
    ·exact ⟨_,hv,rfl⟩) (by unfold di;split<;>simp)
 refine ⟨ah,aK,_,eZ,e,g1,?_,g3,fun hk=>?_⟩
 ·by_cases hk:k=0
  ·exact .inl hk
  ·rcases hv with hv | hv
   ·grind
   ·refine .inr ?_;have eJ:di M.length k=[M.length+1]:=yo hk
    have:=g2 0 (by rw [eJ];exact tO) (.cells true true false 1 pvs) (by simp only [eJ,xy];exact hv)
    exact this
 ·have eJ:di M.length k=[M.length+1]:=yo hk
  have:=g4 0 (by rw [eJ];exact tO)
  simp only [eJ,xy] at this;simpa [eJ] using this
def kS {live:List Nat} {tm tm':Env} {hp:Hp} {ct w k n:Nat} {M:Mx} {pvs:List AV} {R:Prop} (h:bE hp w M) (hv:dV hp n k pvs) (hn:M.length=n) (hM:n<=10000) (hE:et (bP tm live)=0::di n k)
  (hT:∀S,dc 0 S 0=some 0->(k≠0->dc (n+1) S 0=some (n+1))->fe (pos S) (bP tm live)=tm') (hR:R):∃ah aK,aG live ⟨tm,hp,ct,0⟩=⟨tm',ah,aK,0⟩/\bE ah w M/\dV ah n k pvs/\R:=by
 subst hn;obtain ⟨ah,aK,S,eZ,e,q1,q2,q3,q4⟩:=aaF (ct:=ct) h hv hM hE
 grind
def JK {live:List Nat} {tm tm':Env} {hp:Hp} {ct w k n:Nat} {M:Mx} {pvs:List AV} (h:bE hp w M) (hv:dV hp n k pvs) (hn:M.length=n) (hM:n<=10000) (hE:et (bP tm live)=0::di n k)
  (hT:∀S,dc 0 S 0=some 0->(k≠0->dc (n+1) S 0=some (n+1))->fe (pos S) (bP tm live)=tm'):∃ah,aG live ⟨tm,hp,ct,0⟩=⟨tm',ah,1+(n+(di n k).length),0⟩/\bE ah w M/\dV ah n k pvs:=by
 subst hn;obtain ⟨ah,aK,S,rfl,e,q1,q2,q3,q4⟩:=aaF (ct:=ct) h hv hM hE
 grind
section
variable {P:aM} {L:Lib}
def aiW (mN:Has P L 355 zg) (a:Rat):aj P L 355 [.str (RT a)] (.bool (decide (a=0))):=by
 have:=av5 a
 unfold aj;rw [aI mN];simp only [go_sem,ya,zg,mz,this]
def axW (mf:Has P L 351 nv) {hp:Hp} {ct n w:Nat} {M:Mx} (h:bE hp w M) (hn:M.length=n) (h0:0<n):er P L (D P L) hp ct .heap (.fn (.f 351) [] []) [.ak 0 0 n]=some (aa w,hp,ct):=by
 show ix P L (D P L) hp ct 351 [.ak 0 0 n]=_
 obtain ⟨r,d0⟩:=bE.drop (n:=M.length) (p:=0) (w:=w) (by omega);have hm:=h.m;rw [yL] at d0;rw [d0] at hm;have hb:∃tm,D P L nv.body ⟨dN 0 [.ak 0 0 n],hp,ct,ct⟩=some (.ret,⟨tm,hp,ct,ct⟩)/\af tm 2=aa w:=by
  simp only [go_sem,ya,yd,yh,nv,show ¬(n:Int)=0 by omega,yv,IQ,bA 0 0 h0,y7,hm,yL,AA];exact ⟨_,rfl,by simp only [go_sem]⟩
 obtain ⟨tm,hb,t2⟩:=hb;exact JG mf hb (.inr rfl) (by simp only [go_sem,nv,t2])
end
def fL (k:Nat) (new old:List Rat):List Rat:=new.take k++old.drop k
def OK {k:Nat} {new old:List Rat} (h:new.length=old.length) (hk:k<=old.length):(fL k new old).length=old.length:=by
 simp [fL];omega
def abL (new old:List Rat):fL 0 new old=old:=by simp [fL]
def acX {k:Nat} {new old:List Rat} (h:new.length=old.length) (hk:k=old.length):fL k new old=new:=by
 simp only [fL,List.drop_length,xT]
 grind
def acY {k j:Nat} {new old:List Rat} (h:new.length=old.length) (hj:k<=j) (hk:k<=old.length):aW (fL k new old) j=aW old j:=by
 simp only [aW,fL,yM]
 grind
def acZ {k:Nat} {new old:List Rat} (h:new.length=old.length) (hk:k<old.length):(fL k new old).set k (aW new k)=fL (k+1) new old:=by
 apply List.ext_getElem
 ·rw [xD,OK h (by omega),OK h (by omega)]
 ·intro i h1 h2;rw [uI];simp only [fL];by_cases hi:k=i
  ·subst hi;rw [yA rfl,db (by omega),xk (by simp;omega)]
   simp
  ·grind
def amb {r:List Rat} {t:Rat} {k:Nat} (hk:k<r.length):aW (du r r t 0) k=aW r k*t:=by
 rw [db (by rw [Ag rfl];exact hk),JJ hk hk,db hk];grind
def am0 {r p:List Rat} {t:Rat} {k:Nat} (h:r.length=p.length) (hk:k<r.length):aW (du r p 1 (-t)) k=aW r k-t*aW p k:=by
 rw [db (by rw [Ag h];exact hk),JJ hk (h▸hk),db hk,db (h▸hk)];grind
def To {m:Mx} {i:Nat} (h:i<m.length):m.set i (gR m i)=m:=by
 rw [cm h];exact List.set_getElem_self h
def abM {m:Mx} {i:Nat} (a b:List Rat):(m.set i a).set i b=m.set i b:=by simp
section
variable {P:aM} {L:Lib}
def awc (mN:Has P L 355 zg) {M:Mx} {w c n k F:Nat} {pvs:List AV} (hw:wid w M) (hc:c<w) (jb:w<=10000) (hn:M.length=n) (gO:n<=10000):
  ∀d st,(∃(p:Nat) (hp:Hp) (ct:Nat),aG [0,4,5,6] st=⟨[(0,.ak 0 0 n),(4,oV (n+1) k),(5,aa c),(6,aa p)],hp,ct,0⟩/\bE hp w M/\dV hp n k pvs/\p+d=n/\kI M c d p=F)->
   ∃ex s',D P L (.loop [0,4,5,6] DP) st=some (ex,s')/\∃tm hp ct,s'=⟨tm,hp,ct,0⟩/\ex= .exit 2/\bE hp w M/\dV hp n k pvs/\af tm 0= .ak 0 0 n/\af tm 4=oV (n+1) k/\af tm 5=aa c/\af tm 6=aa F:=by
 intro dq sq;generalize bh:aG [0,4,5,6] sq=s0;revert bh s0 sq dq;apply dj;rintro d st ⟨p,hp,ct,rfl,hM,hV,hpd,hF⟩;by_cases ss:p<n
 ·have Yj:p<M.length:=by omega
  have wp:=hw p Yj;obtain ⟨r,d0⟩:=bE.drop (n:=M.length) (w:=w) Yj;have g0:=hM.m;have gp:=hM.r p Yj;have dp:=Dy (r:=gR M p) (c:=c) (by omega);have e1:=aiW mN (aW (gR M p) c);obtain ⟨d,rfl⟩:∃d',d=d'+1:=⟨d-1,by omega⟩;simp only [kI] at hF;have wi:IntKind.wrap .i64 ((p:Int)+1)=((p+1:Nat):Int):=wrap64 (by omega) (by omega);unfold aj at e1;by_cases hz:aW (gR M p) c=0
  ·left
   rw [yA hz] at hF;rw [xq hz] at e1;cases k
   all_goals
    simp only [oV];simp only [go_sem,ya,yh,DP,show (p:Int)<n by omega,yu,bA 0 0 ss,yg,g0,d0,gp,bA (p+1) 0 hc,dp,e1];refine ⟨_,d,rfl,by omega,p+1,?_⟩;rw [wi];exact kS hM hV hn (by omega) (by simp only [go_sem,ya,di]<;>rfl) (fun S q3 q4=>by simp only [go_sem,ya,q3,q4,uj,xo,xz]<;>rfl) ⟨by omega,hF⟩
  ·right
   rw [yo hz] at hF;subst hF;rw [xb hz] at e1;cases k
   all_goals
    simp only [oV];simp only [go_sem,ya,yh,DP,show (p:Int)<n by omega,yu,bA 0 0 ss,yg,g0,d0,gp,bA (p+1) 0 hc,dp,e1];exact ⟨_,_,rfl,by simp,_,_,_,rfl,rfl,hM,hV,by simp only [go_sem,ya],by simp only [go_sem,ya],by simp only [go_sem,ya],by simp only [go_sem,ya]⟩
 ·right
  have:d=0:=by omega
  subst this;simp only [kI] at hF;subst hF;cases k
  all_goals
   simp only [oV];simp only [go_sem,ya,DP,show ¬(p:Int)<n by omega,yv];exact ⟨_,_,rfl,by simp,_,_,_,rfl,rfl,hM,hV,by simp only [go_sem,ya],by simp only [go_sem,ya],by simp only [go_sem,ya],by simp only [go_sem,ya]⟩
def awd (h:Rn P L) {M:Mx} {w c n k a:Nat} {pvs:List AV} (hw:wid w M) (jb:w<=10000) (hn:M.length=n) (gO:n<=10000) (ha:a<n) {t:Rat} {K J:Nat} (kr:∀x,x∈gR M a->Hq K x) (kt:Hq J t) (hK:K+J<=8000000000):
  ∀d st,(∃(i:Nat) (hp:Hp) (ct:Nat),aG [0,4,5,7,8,9] st=⟨[(0,.ak 0 0 n),(4,oV (n+1) k),(5,aa c),(7,aa a),(8,.str (RT t)),(9,aa i)],hp,ct,0⟩/\bE hp w (M.set a (fL i (du (gR M a) (gR M a) t 0) (gR M a)))/\dV hp n k pvs/\i+d=w)->
   ∃ex s',D P L (.loop [0,4,5,7,8,9] Ki) st=some (ex,s')/\∃tm hp ct,s'=⟨tm,hp,ct,0⟩/\ex= .exit 4/\bE hp w (M.set a (du (gR M a) (gR M a) t 0))/\dV hp n k pvs/\af tm 0= .ak 0 0 n/\af tm 4=oV (n+1) k/\af tm 5=aa c/\af tm 7=aa a:=by
 intro dq sq;generalize bh:aG [0,4,5,7,8,9] sq=s0;revert bh s0 sq dq;apply dj;rintro d st ⟨i,hp,ct,rfl,hM,hV,hid⟩;have Bp:a<M.length:=by omega
 have wa:=hw a Bp;have lc:(du (gR M a) (gR M a) t 0).length=(gR M a).length:=Ag rfl;obtain ⟨r,d0⟩:=bE.drop (n:=(M.set a (fL i (du (gR M a) (gR M a) t 0) (gR M a))).length) (p:=a) (w:=w) (by simpa using Bp);have g0:=hM.m;have ga:=hM.r a (by simpa using Bp);rw [ib,yA ⟨rfl,Bp⟩] at ga;by_cases hi:i<w
 ·left
  have lp:=OK (k:=i) lc (by omega);have dp:=Dy (r:=fL i (du (gR M a) (gR M a) t 0) (gR M a)) (c:=i) (by omega);rw [acY lc (yq i) (by omega)] at dp;have e1:=Va h (a:=aW (gR M a) i) (b:=t) (kr _ (Dx (by omega))) kt hK;rw [<-amb (show i<(gR M a).length by omega)] at e1;have aJ:=fun (ct:Nat)=>Pz (hp:=hp) (ct:=ct) (id:=a+1) (ex:=false) (at_:=i) (r:= .str (RT (aW (du (gR M a) (gR M a) t 0) i))) (rows:=cr (fL i (du (gR M a) (gR M a) t 0) (gR M a))) (by rw [qF];omega) rfl rfl
  simp only [O2,acZ lc (show i<(gR M a).length by omega)] at aJ;have fW:=hM.set (i:=a) (by simpa using Bp) (fL (i+1) (du (gR M a) (gR M a) t 0) (gR M a));rw [abM] at fW;have Bq:=hV.set (i:=a+1) (o:= .cells true true false 1 (cr (fL (i+1) (du (gR M a) (gR M a) t 0) (gR M a)))) (by omega);have wi:IntKind.wrap .i64 ((i:Int)+1)=((i+1:Nat):Int):=wrap64 (by omega) (by omega);have ln:(M.set a (fL (i+1) (du (gR M a) (gR M a) t 0) (gR M a))).length=n:=by simp [hn]
  unfold aj at e1;cases k
  all_goals
   simp only [oV];simp only [go_sem,ya,yh,Ki,bA 0 0 ha,yg,g0,d0,ga,bA (a+1) 0 hi,show (i:Int)<w by omega,dp,e1,aJ];refine ⟨_,d-1,rfl,by omega,i+1,?_⟩;rw [wi];exact kS fW Bq ln (by omega) (by simp only [go_sem,ya,di]<;>rfl) (fun S q3 q4=>by simp only [go_sem,ya,q3,q4,uj,xo,xz]<;>rfl) (by omega)
 ·right
  rw [acX lc (by omega)] at hM;cases k
  all_goals
   simp only [oV];simp only [go_sem,ya,yh,Ki,bA 0 0 ha,yg,g0,d0,show ¬(i:Int)<w by omega];exact ⟨_,_,rfl,by simp,_,_,_,rfl,rfl,hM,hV,by simp only [go_sem,ya],by simp only [go_sem,ya],by simp only [go_sem,ya],by simp only [go_sem,ya]⟩
def awe (h:Rn P L) {M:Mx} {w c n k a i:Nat} {pvs:List AV} (hw:wid w M) (jb:w<=10000) (hn:M.length=n) (gO:n<=10000) (ha:a<n) (hi:i<n) (kJ:i≠a) {t:Rat} {K J I:Nat} (kr:∀x,x∈gR M i->Hq K x) (kp:∀x,x∈gR M a->Hq I x) (kt:Hq J t) (hK:K+(J+I)+1<=8000000000):
  ∀d st,(∃(j:Nat) (hp:Hp) (ct:Nat),aG [0,4,5,7,10,11,12] st=⟨[(0,.ak 0 0 n),(4,oV (n+1) k),(5,aa c),(7,aa a),(10,aa i),(11,.str (RT t)),(12,aa j)],hp,ct,0⟩/\bE hp w (M.set i (fL j (du (gR M i) (gR M a) 1 (-t)) (gR M i)))/\dV hp n k pvs/\j+d=w)->
   ∃ex s',D P L (.loop [0,4,5,7,10,11,12] Kj) st=some (ex,s')/\∃tm hp ct,s'=⟨tm,hp,ct,0⟩/\ex= .exit 8/\bE hp w (M.set i (du (gR M i) (gR M a) 1 (-t)))/\dV hp n k pvs/\af tm 0= .ak 0 0 n/\af tm 4=oV (n+1) k/\af tm 5=aa c/\af tm 7=aa a/\af tm 10=aa i:=by
 intro dq sq;generalize bh:aG [0,4,5,7,10,11,12] sq=s0;revert bh s0 sq dq;apply dj;rintro d st ⟨j,hp,ct,rfl,hM,hV,hjd⟩;have Bp:a<M.length:=by omega
 have MT:i<M.length:=by omega
 have wa:=hw a Bp;have wi:=hw i MT;have hl:(gR M i).length=(gR M a).length:=by omega
 have lc:(du (gR M i) (gR M a) 1 (-t)).length=(gR M i).length:=Ag hl;obtain ⟨r,d0⟩:=bE.drop (n:=(M.set i (fL j (du (gR M i) (gR M a) 1 (-t)) (gR M i))).length) (p:=i) (w:=w) (by simpa using MT);obtain ⟨ra,da⟩:=bE.drop (n:=(M.set i (fL j (du (gR M i) (gR M a) 1 (-t)) (gR M i))).length) (p:=a) (w:=w) (by simpa using Bp);have g0:=hM.m;have gi:=hM.r i (by simpa using MT);have gA:=hM.r a (by simpa using Bp);rw [ib,yA ⟨rfl,MT⟩] at gi;rw [ib,yo (fun q=>kJ q.1)] at gA;by_cases hj:j<w
 ·left
  have lp:=OK (k:=j) lc (by omega);have dp:=Dy (r:=fL j (du (gR M i) (gR M a) 1 (-t)) (gR M i)) (c:=j) (by omega);rw [acY lc (yq j) (by omega)] at dp;have dA:=Dy (r:=gR M a) (c:=j) (by omega);have kA:=kp _ (Dx (r:=gR M a) (c:=j) (by omega));have e1:=Va h (a:=t) (b:=aW (gR M a) j) kt kA (by omega);have e2:=axT h.toRp (a:=aW (gR M i) j) (b:=t*aW (gR M a) j) (kr _ (Dx (by omega))) (kt.mul kA) hK;rw [<-am0 hl (show j<(gR M i).length by omega)] at e2;have aJ:=fun (ct:Nat)=>Pz (hp:=hp) (ct:=ct) (id:=i+1) (ex:=false) (at_:=j) (r:= .str (RT (aW (du (gR M i) (gR M a) 1 (-t)) j))) (rows:=cr (fL j (du (gR M i) (gR M a) 1 (-t)) (gR M i))) (by rw [qF];omega) rfl rfl
  simp only [O2,acZ lc (show j<(gR M i).length by omega)] at aJ;have fW:=hM.set (i:=i) (by simpa using MT) (fL (j+1) (du (gR M i) (gR M a) 1 (-t)) (gR M i));rw [abM] at fW;have Bq:=hV.set (i:=i+1) (o:= .cells true true false 1 (cr (fL (j+1) (du (gR M i) (gR M a) 1 (-t)) (gR M i)))) (by omega);have wj:IntKind.wrap .i64 ((j:Int)+1)=((j+1:Nat):Int):=wrap64 (by omega) (by omega);have ln:(M.set i (fL (j+1) (du (gR M i) (gR M a) 1 (-t)) (gR M i))).length=n:=by simp [hn]
  unfold aj at e1 e2;cases k
  all_goals
   simp only [oV];simp only [go_sem,ya,yh,Kj,bA 0 0 hi,bA 0 0 ha,yg,g0,d0,da,gi,gA,bA (i+1) 0 hj,bA (a+1) 0 hj,show (j:Int)<w by omega,dp,dA,e1,e2,aJ];refine ⟨_,d-1,rfl,by omega,j+1,?_⟩;rw [wj];exact kS fW Bq ln (by omega) (by simp only [go_sem,ya,di]<;>rfl) (fun S q3 q4=>by simp only [go_sem,ya,q3,q4,uj,xo,xz]<;>rfl) (by omega)
 ·right
  rw [acX lc (by omega)] at hM;cases k
  all_goals
   simp only [oV];simp only [go_sem,ya,yh,Kj,bA 0 0 hi,yg,g0,d0,show ¬(j:Int)<w by omega];exact ⟨_,_,rfl,by simp,_,_,_,rfl,rfl,hM,hV,by simp only [go_sem,ya],by simp only [go_sem,ya],by simp only [go_sem,ya],by simp only [go_sem,ya],by simp only [go_sem,ya]⟩
def awf (h:Rn P L) (mN:Has P L 355 zg) {m:Mx} {w c n k a:Nat} {pvs:List AV} (hw:wid w m) (jb:w<=10000) (hc:c<w) (hn:m.length=n) (gO:n<=10000) (ha:a<n) {K:Nat} (hk:∀i,i<=n->b9 K (cK m a c i)) (hK:3*K+1<=8000000000):
  ∀d st,(∃(i:Nat) (hp:Hp) (ct:Nat),aG [0,4,5,7,10] st=⟨[(0,.ak 0 0 n),(4,oV (n+1) k),(5,aa c),(7,aa a),(10,aa i)],hp,ct,0⟩/\bE hp w (cK m a c i)/\dV hp n k pvs/\i+d=n)->
   ∃ex s',D P L (.loop [0,4,5,7,10] DQ) st=some (ex,s')/\∃tm hp ct,s'=⟨tm,hp,ct,0⟩/\ex= .exit 6/\bE hp w (cK m a c n)/\dV hp n k pvs/\af tm 0= .ak 0 0 n/\af tm 4=oV (n+1) k/\af tm 5=aa c:=by
 intro dq sq;generalize bh:aG [0,4,5,7,10] sq=s0;revert bh s0 sq dq;apply dj;rintro d st ⟨i,hp,ct,rfl,hM,hV,hid⟩;have le:=Ah m a c i;by_cases hi:i<n
 ·left
  have MU:i<(cK m a c i).length:=by omega
  have hae:a<(cK m a c i).length:=by omega
  have hwE:=hw.cK (a:=a) (by omega) c i (by omega);have wi:=hwE i MU;have ki:=hk i (by omega);have E9:cK m a c (i+1)=p0 (cK m a c i) a c i:=rfl;unfold p0 at E9;obtain ⟨r,d0⟩:=bE.drop (n:=(cK m a c i).length) (w:=w) MU;have g0:=hM.m;have gp:=hM.r i MU;have dp:=Dy (r:=gR (cK m a c i) i) (c:=c) (by omega);have e1:=aiW mN (aW (gR (cK m a c i) i) c);have Rx:IntKind.wrap .i64 ((i:Int)+1)=((i+1:Nat):Int):=wrap64 (by omega) (by omega);have hlen:(cK m a c i).length=n:=by omega
  unfold aj at e1;by_cases kJ:i=a
  ·subst kJ;rw [yo (fun q=>q.1 rfl)] at E9;cases k
   all_goals
    simp only [oV];simp only [go_sem,ya,yh,DQ,show (i:Int)<n by omega,bA 0 0 hi,yg,g0,d0,gp,bA (i+1) 0 hc,dp,yu];refine ⟨_,d-1,rfl,by omega,i+1,?_⟩;rw [Rx,E9];exact kS hM hV hlen (by omega) (by simp only [go_sem,ya,di]<;>rfl) (fun S q3 q4=>by simp only [go_sem,ya,q3,q4,uj,xo,xz]<;>rfl) (by omega)
  ·by_cases hz:aW (gR (cK m a c i) i) c=0
   ·rw [yo (fun q=>q.2 hz)] at E9;rw [xq hz] at e1;cases k
    all_goals
     simp only [oV];simp only [go_sem,ya,yh,DQ,show (i:Int)<n by omega,bA 0 0 hi,yg,g0,d0,gp,bA (i+1) 0 hc,dp,show ¬(i:Int)=(a:Nat) by omega,yv,e1];refine ⟨_,d-1,rfl,by omega,i+1,?_⟩;rw [Rx,E9];exact kS hM hV hlen (by omega) (by simp only [go_sem,ya,di]<;>rfl) (fun S q3 q4=>by simp only [go_sem,ya,q3,q4,uj,xo,xz]<;>rfl) (by omega)
   ·rw [yA ⟨kJ,hz⟩] at E9;rw [xb hz] at e1;have kE:=ki i MU;have kA:=ki a hae;have f0:=awe h (c:=c) (k:=k) (pvs:=pvs) hwE jb hlen gO ha hi kJ (t:=aW (gR (cK m a c i) i) c) kE kA (kE _ (Dx (by omega))) (by omega) w;have ahe:((cK m a c i).set i (du (gR (cK m a c i) i) (gR (cK m a c i) a) 1 (-(aW (gR (cK m a c i) i) c)))).length=n:=by rw [xD,hlen]
    have RA:bE hp w ((cK m a c i).set i (fL 0 (du (gR (cK m a c i) i) (gR (cK m a c i) a) 1 (-(aW (gR (cK m a c i) i) c))) (gR (cK m a c i) i))):=by
     rw [abL,To MU];exact hM
    have axX:((cK m a c i).set i (fL 0 (du (gR (cK m a c i) i) (gR (cK m a c i) a) 1 (-(aW (gR (cK m a c i) i) c))) (gR (cK m a c i) i))).length=n:=by rw [xD,hlen]
    generalize (cK m a c i).set i (du (gR (cK m a c i) i) (gR (cK m a c i) a) 1 (-(aW (gR (cK m a c i) i) c)))=M2 at*
    have hk3:∀(tm:Env) (hp:Hp) (ct:Nat),bE hp w M2->dV hp n k pvs->af tm 0= .ak 0 0 n->af tm 4=oV (n+1) k->af tm 5=aa c->af tm 7=aa a->af tm 10=aa i->∃ah,aG [0,4,5,7,10] ⟨tm,hp,ct,0⟩=⟨[(0,.ak 0 0 n),(4,oV (n+1) k),(5,aa c),(7,aa a),(10,aa i)],ah,1+(n+(di n k).length),0⟩/\bE ah w M2/\dV ah n k pvs:=fun tm hp ct hM hV t0 t4 t5 t7 t10=>by
     cases k
     all_goals
      simp only [oV] at t4 ⊢;exact JK hM hV ahe (by omega) (by simp only [go_sem,ya,t0,t4,t5,t7,t10,di]<;>rfl) (fun S q3 q4=>by simp only [go_sem,t0,t4,t5,t7,t10,q3,q4,uj,xo,xz]<;>rfl)
    cases k
    all_goals
     simp only [oV] at f0 hk3 ⊢;simp only [go_sem,ya,yh,DQ,show (i:Int)<n by omega,bA 0 0 hi,yg,g0,d0,gp,bA (i+1) 0 hc,dp,show ¬(i:Int)=(a:Nat) by omega,yv,e1];generalize hq:D P L (.loop [0,4,5,7,10,11,12] Kj) _=q;obtain ⟨ex,st,rfl,tm,fD,nM,rfl,rfl,fW,Bq,t0,t4,t5,t7,t10⟩:=bD hq f0 ⟨0,kS RA hV axX (by omega) (by simp only [go_sem,ya,di]<;>rfl) (fun S q3 q4=>by simp only [go_sem,ya,q3,q4,uj,xo,xz]<;>rfl) (by omega)⟩
     obtain ⟨oM,e3,q1,q2⟩:=hk3 tm fD nM fW Bq t0 t4 t5 t7 t10;simp only [go_sem,ya,e3];refine ⟨_,d-1,rfl,by omega,i+1,?_⟩;rw [Rx,E9];exact kS q1 q2 ahe (by omega) (by simp only [go_sem,ya,di]<;>rfl) (fun S q3 q4=>by simp only [go_sem,ya,q3,q4,uj,xo,xz]<;>rfl) (by omega)
 ·right
  have:i=n:=by omega
  subst this;cases k
  all_goals
   simp only [oV];simp only [go_sem,ya,DQ,show ¬(i:Int)<i by omega];exact ⟨_,_,rfl,by simp,_,_,_,rfl,rfl,hM,hV,by simp only [go_sem,ya],by simp only [go_sem,ya],by simp only [go_sem,ya]⟩
end
structure Rxi (P:aM) (L:Lib):Prop extends Rn P L,Rl P L where
 WB:Has P L 283 P4
def mT (n a p:Nat):List Nat:=(((y5 n).map (·+1)).set p (a+1)).set a (p+1)
def sK (n a p:Nat):(mT n a p).length=n:=by simp [mT]
def FK {n a p i:Nat} (h:i<n):(mT n a p)[i]'(by rw [sK];exact h)=if i=a then p+1 else if i=p then a+1 else i+1:=by
 simp only [mT,uI,yX,vl]
 grind
def as9 {n a p i j:Nat} (ha:a<n) (hp:p<n) (hi:i<n) (hj:j<n) (h:(mT n a p)[i]'(by rw [sK];exact hi)=(mT n a p)[j]'(by rw [sK];exact hj)):i=j:=by
 rw [FK hi,FK hj] at h
 grind
def aoH {n a p k:Nat} (ha:a<n) (hp:p<n):(cL 0 (mT n a p) (di n k)).Nodup:=by
 have Gz:∀x,x∈mT n a p->1<=x/\x<=n:=fun x hx=>by
  obtain ⟨i,hi,rfl⟩:=xG.1 hx;rw [sK] at hi;rw [FK hi]
  grind
 have h1:(mT n a p).Nodup:=by
  unfold tr;rw [wX];intro i j hi hj CM h
  have:=as9 ha hp (by rwa [sK] at hi) (by rwa [sK] at hj) h
  omega
 unfold cL di
 grind
def abN {m:Mx} {a p i:Nat} (ha:a<m.length) (hp:p<m.length) (hi:i<m.length):gR (bN m a p) i=if i=p then gR m a else if i=a then gR m p else gR m i:=by
 unfold bN;rw [ib,ib]
 grind
structure Fa (hp:Hp) (w:Nat) (M:Mx) (a p:Nat):Prop where
 m:ao hp 0=some (.cells true false false 1 ((mT M.length a p).map fun i=> .ak i 0 w))
 r:∀i,i<M.length->ao hp (i+1)=some (.cells true true false 1 (cr (gR M i)))
def Fa.at_ {hp:Hp} {w:Nat} {m:Mx} {a p i:Nat} (h:Fa hp w m a p) (ha:a<m.length) (ah:p<m.length) (hi:i<m.length):ao hp ((mT m.length a p)[i]'(by rw [sK];exact hi))=some (.cells true true false 1 (cr (gR (bN m a p) i))):=by
 rw [FK hi,abN ha ah hi];by_cases h1:i=a
 ·subst h1;rw [yA rfl];by_cases h2:i=p
  ·subst h2;rw [yA rfl];exact h.r i ha
  ·rw [yo h2,yA rfl];exact h.r p ah
 ·rw [yo h1];by_cases h2:i=p
  ·subst h2;rw [yA rfl,yA rfl];exact h.r a ha
  ·rw [yo h2,yo h2,yo h1];exact h.r i hi
def Fa.comp {live:List Nat} {tm:Env} {hp:Hp} {ct w k a p:Nat} {m:Mx} {pvs:List AV} (h:Fa hp w m a p) (ha:a<m.length) (ah:p<m.length) (hv:dV hp m.length k pvs) (hM:m.length<=10000) (hE:et (bP tm live)=0::di m.length k):
  ∃ah aK S,aK=1+(m.length+(di m.length k).length)/\aG live ⟨tm,hp,ct,0⟩=⟨fe (pos S) (bP tm live),ah,aK,0⟩/\bE ah w (bN m a p)/\dV ah m.length k pvs/\dc 0 S 0=some 0/\(k≠0->dc (m.length+1) S 0=some (m.length+1)):=by
 have MV:=z8 m a p;obtain ⟨fD,aK,eZ,e,g1,g2,g3,g4⟩:=OJ (ct:=ct) (M:=bN m a p) hE h.m (by rw [sK,MV]) (fun i hi=>h.at_ ha ah (by rwa [sK] at hi)) (by omega) (aoH ha ah) (fun i hi=>by
   unfold di at hi
   split at hi
   ·grind
   ·rename_i hk;simp only [xu] at hi;subst hi;rcases hv with hv | hv
    ·grind
    ·exact ⟨_,hv,rfl⟩) (by unfold di;split<;>simp)
 rw [MV] at g2 g4 eZ;refine ⟨fD,aK,_,eZ,e,g1,?_,g3,fun hk=>?_⟩
 ·by_cases hk:k=0
  ·exact .inl hk
  ·rcases hv with hv | hv
   ·grind
   ·refine .inr ?_;have eJ:di m.length k=[m.length+1]:=yo hk
    have:=g2 0 (by rw [eJ];exact tO) (.cells true true false 1 pvs) (by simp only [eJ,xy];exact hv)
    exact this
 ·have eJ:di m.length k=[m.length+1]:=yo hk
  simp_all
def ahf {hp:Hp} {ct at_ id w:Nat} {ids:List Nat} (h:at_<ids.length):gP hp ct 0 at_ 1 [.ak id 0 w] (some (.cells true false false 1 (ids.map fun i=> .ak i 0 w)))=some (.az [],aT hp 0 (.cells true false false 1 ((ids.set at_ id).map fun i=> .ak i 0 w)),ct):=by
 rw [od (by rfl) (by simp;omega) (by rfl)]
 have:over at_ [AV.ak id 0 w] (ids.map fun i=> .ak i 0 w)=(ids.set at_ id).map fun i=> .ak i 0 w:=by
  simp only [over,yy,yO,yg];rw [tT,List.set_eq_take_append_cons_drop,yA (by simpa using h)]
  simp
 grind
def TZ {ids:List Nat} {w p:Nat} (h:p<ids.length):vh p (ids.map fun i=>AV.ak i 0 w)= .ak ids[p] 0 w::vh (p+1) (ids.map fun i=>AV.ak i 0 w):=by
 rw [yP (by simpa using h)];simp
def bE.cons {hp:Hp} {w:Nat} {M:Mx} (h:bE hp w M) {id:Nat} (o:Obj) (hi:M.length<id):bE ((id,o)::hp) w M:=⟨by rw [cd _ _ (by omega)];exact h.m,fun i cB=>by rw [cd _ _ (by omega)];exact h.r i cB⟩
def bE.del {hp:Hp} {w:Nat} {M:Mx} (h:bE hp w M) {id:Nat} (hi:M.length<id):bE (dJ hp id) w M:=⟨by rw [nS,yo (by omega)];exact h.m,fun i cB=>by rw [nS,yo (by omega)];exact h.r i cB⟩
def ac0 {live:List Nat} {tm tm':Env} {hp:Hp} {ct w n k p:Nat} {M:Mx} {pvs:List AV} {R:Prop} (h:bE hp w M) (hg:ao hp p=some (.cells true true false 1 pvs)) (hn:M.length=n) (hM:n<=10000) (hp0:n<p) (hE:et (bP tm live)=[0,p])
  (hT:∀S,dc 0 S 0=some 0->dc p S 0=some (n+1)->fe (pos S) (bP tm live)=tm') (hR:R):∃ah aK,aG live ⟨tm,hp,ct,0⟩=⟨tm',ah,aK,0⟩/\bE ah w M/\dV ah n (k+1) pvs/\R:=by
 subst hn;have hm:=h.m;rw [show ((y5 M.length).map fun i=>AV.ak (i+1) 0 w)=((y5 M.length).map (·+1)).map (fun i=> .ak i 0 w) by rw [wu];rfl] at hm
 have jV:(cL 0 ((y5 M.length).map (·+1)) [p]).Nodup:=by
  have h1:=aaE M.length 0;simp only [cL,di,xE,xT] at h1;have h2:=xQ.1 h1;refine xQ.2 ⟨fun q=>?_,yaR.2 ⟨h2.2,by simp,fun a ha b hb e=>?_⟩⟩
  ·grind
  ·grind
 obtain ⟨ah,aK,eZ,e,g1,g2,g3,g4⟩:=OJ (ct:=ct) (pl:=[p]) hE hm (by simp) (fun i hi=>by
  simp only [yX,vl];exact h.r i (by simpa using hi)) hM jV (fun i hi=>by
   simp only [xu] at hi;subst hi
   exact ⟨_,hg,rfl⟩) (by simp)
 have q:=g2 0 (by simp) (.cells true true false 1 pvs) (by simpa using hg);have q4:=g4 0 (by simp);exact ⟨ah,aK,by rw [e,hT _ g3 q4],g1,.inr q,hR⟩
section
variable {P:aM} {L:Lib}
def awg (h:Rxi P L) (mN:Has P L 355 zg) (Vc:Has P L 351 nv) {M:Mx} {W n:Nat} (hw:wid W M) (Db:W<=10000) (hn:M.length=n) (h0:0<n) (gO:n<=1000) {K:Nat} (hk:b9 K M) (nP:1<=K) (hK:4^n*(K+1)<=400000000):
  ∀d st,(∃(c k:Nat) (pvs:List AV) (hp:Hp) (ct:Nat),aG [0,4,5] st=⟨[(0,.ak 0 0 n),(4,oV (n+1) k),(5,aa c)],hp,ct,0⟩/\bE hp W (ay M c).1/\dV hp n k pvs/\(ay M c).2.length=k/\pvs=(ay M c).2.map (fun p:Nat=>aa p)/\c+d=W)->
   ∃ex s',D P L (.loop [0,4,5] DR) st=some (ex,s')/\∃tm hp ct k pvs,s'=⟨tm,hp,ct,0⟩/\ex= .exit 0/\bE hp W (ay M W).1/\dV hp n k pvs/\(ay M W).2.length=k/\pvs=(ay M W).2.map (fun p:Nat=>aa p)/\af tm 0= .ak 0 0 n/\af tm 4=oV (n+1) k:=by
 intro dq sq;generalize bh:aG [0,4,5] sq=s0;revert bh s0 sq dq;apply dj;rintro d st ⟨c,k,pvs,hp,ct,rfl,hM,hV,gY,jY,hcd⟩;have hP:=Gg hw c;have lm:=BS M c;have mU:(ay M c).1.length=n:=by omega
 have eW:=fun (ct:Nat)=>axW (P:=P) (L:=L) Vc (ct:=ct) hM mU h0
 have rY:k<=n:=by have:=hP.pv;omega
 by_cases MW:c<W
 ·by_cases MX:k<n
  ·left
   obtain ⟨J,J0,J1,J2⟩:=ahb hw hk nP c (by omega);have hJ:J+1<=400000000:=by
    have h1:4^(ay M c).2.length<=4^n:=Nat.pow_le_pow_right (by decide) (by omega)
    have:=Nat.mul_le_mul_right (K+1) h1
    omega
   have f0:=awc (P:=P) (L:=L) mN (k:=k) (pvs:=pvs) hP.wid MW Db mU (by omega) (F:=a8 (ay M c) c) (n-k);have hs:ay M (c+1)=ir (ay M c) c:=rfl;have axY:=hP.a8 c;rw [gY] at axY;have wc:IntKind.wrap .i64 ((c:Int)+1)=((c+1:Nat):Int):=wrap64 (by omega) (by omega);have LL:kI (ay M c).1 c (n-k) k=a8 (ay M c) c:=by unfold a8;rw [gY,mU]
   have RJ:∀(M2:Mx) (tm:Env) (hp:Hp) (ct:Nat) (x:Nat),bE hp W M2->M2.length=n->dV hp n k pvs->af tm 0= .ak 0 0 n->af tm 4=oV (n+1) k->af tm 5=aa c->af tm 6=aa x->∃ah,aG [0,4,5,6] ⟨tm,hp,ct,0⟩=⟨[(0,.ak 0 0 n),(4,oV (n+1) k),(5,aa c),(6,aa x)],ah,1+(n+(di n k).length),0⟩/\bE ah W M2/\dV ah n k pvs:=fun M2 tm hp ct x hM hl hV t0 t4 t5 t6=>by
    cases k
    all_goals
     simp only [oV] at t4 ⊢;exact JK hM hV hl (by omega) (by simp only [go_sem,ya,t0,t4,t5,t6,di]<;>rfl) (fun S q3 q4=>by simp only [go_sem,t0,t4,t5,t6,q3,q4,uj,xo,xz]<;>rfl)
   have hkB:∀(M2:Mx) (tm:Env) (hp:Hp) (ct:Nat) (x:Nat),bE hp W M2->M2.length=n->dV hp n k pvs->af tm 0= .ak 0 0 n->af tm 4=oV (n+1) k->af tm 5=aa c->af tm 7=aa x->∃ah,aG [0,4,5,7] ⟨tm,hp,ct,0⟩=⟨[(0,.ak 0 0 n),(4,oV (n+1) k),(5,aa c),(7,aa x)],ah,1+(n+(di n k).length),0⟩/\bE ah W M2/\dV ah n k pvs:=fun M2 tm hp ct x hM hl hV t0 t4 t5 t7=>by
    cases k
    all_goals
     simp only [oV] at t4 ⊢;exact JK hM hV hl (by omega) (by simp only [go_sem,ya,t0,t4,t5,t7,di]<;>rfl) (fun S q3 q4=>by simp only [go_sem,t0,t4,t5,t7,q3,q4,uj,xo,xz]<;>rfl)
   have hkC:∀(M2:Mx) (tm:Env) (hp:Hp) (ct:Nat),bE hp W M2->M2.length=n->dV hp n k pvs->af tm 0= .ak 0 0 n->af tm 4=oV (n+1) k->af tm 5=aa c->∃ah aK,aG [0,4,5] ⟨tm,hp,ct,0⟩=⟨[(0,.ak 0 0 n),(4,oV (n+1) k),(5,aa c)],ah,aK,0⟩/\bE ah W M2/\dV ah n k pvs/\n<aK/\(k≠0->n+1<aK):=fun M2 tm hp ct hM hl hV t0 t4 t5=>by
    rcases k with _ | k1
    ·simp only [oV] at t4 ⊢;obtain ⟨ah,e,q1,q2⟩:=JK (live:=[0,4,5]) (tm:=tm) (ct:=ct) (tm':=[(0,.ak 0 0 n),(4,.ab),(5,aa c)]) hM hV hl (by omega) (by simp only [go_sem,t0,t4,t5,di]<;>rfl) (fun S q3 q4=>by simp only [go_sem,t0,t4,t5,q3]<;>rfl)
     exact ⟨ah,_,e,q1,q2,by omega,fun h=>absurd rfl h⟩
    ·simp only [oV] at t4 ⊢;obtain ⟨ah,e,q1,q2⟩:=JK (live:=[0,4,5]) (tm:=tm) (ct:=ct) (tm':=[(0,.ak 0 0 n),(4,.ak (n+1) 0 (k1+1)),(5,aa c)]) hM hV hl (by omega) (by simp only [go_sem,ya,t0,t4,t5,di]<;>rfl) (fun S q3 q4=>by simp only [go_sem,t0,t4,t5,q3,q4,uj,xo,xz]<;>rfl)
     have:(di n (k1+1)).length=1:=rfl
     exact ⟨ah,_,e,q1,q2,by omega,fun _=>by omega⟩
   by_cases gD:a8 (ay M c) c<(ay M c).1.length
   ·
    have ss:a8 (ay M c) c<n:=by omega
    have LM:ir (ay M c) c=(cK (eL (ay M c) c) k c n,(ay M c).2++[c]):=by
     unfold ir;rw [yA gD,gY,mU]
    have MV:=z8 (ay M c).1 k (a8 (ay M c) c);have MY:(eL (ay M c) c).length=n:=by rw [Ai,mU]
    have w1:=hP.wid.bN (i:=k) (j:=a8 (ay M c) c) (by omega) gD;have J3:=J2.bN (i:=k) (j:=a8 (ay M c) c) (by omega) gD;have wk:=w1 k (by omega);have Jk:=J3 k (by omega);have ck:aW (gR (bN (ay M c).1 k (a8 (ay M c) c)) k) c≠0:=by
     have:=TV (ay M c).1 c (n-k) k (by rw [LL];omega)
     rw [LL] at this;rw [abN (by omega) gD (by omega)]
     split
     ·rename_i q;rw [<-q] at this;exact this
     ·rw [yA rfl];exact this
    obtain ⟨g1,g2⟩:=J2.eL hP MW gD;rw [gY] at g1 g2;have kE:∀i,i<=n->b9 (4*J+1) (cK (eL (ay M c) c) k c i):=fun i hi=>acW (hP.eL gD) MW (by omega) g1 (fun j hj=>g2 j (by omega)) (by omega)
    have kx:=Jk _ (Dx (c:=c) (by omega));have e5:=axU h.toRn h.WB (a:=aW (gR (bN (ay M c).1 k (a8 (ay M c) c)) k) c) kx (by omega) ck;have f1:=awd (P:=P) (L:=L) h.toRn (n:=n) (M:=bN (ay M c).1 k (a8 (ay M c) c)) (c:=c) (k:=k) (a:=k) (pvs:=pvs) w1 Db (by omega) (by omega) (by omega) (t:=(aW (gR (bN (ay M c).1 k (a8 (ay M c) c)) k) c)⁻¹) Jk kx.inv (by omega) W;have aAx:(bN (ay M c).1 k (a8 (ay M c) c)).set k (du (gR (bN (ay M c).1 k (a8 (ay M c) c)) k) (gR (bN (ay M c).1 k (a8 (ay M c) c)) k) (aW (gR (bN (ay M c).1 k (a8 (ay M c) c)) k) c)⁻¹ 0)=eL (ay M c) c:=by
     unfold eL pZ;rw [gY]
    rw [aAx] at f1;have f2:=awf (P:=P) (L:=L) h.toRn mN (k:=k) (pvs:=pvs) (hP.eL gD) Db MW MY (by omega) (a:=k) (by omega) kE (by omega) n;have RL:(cK (eL (ay M c) c) k c n).length=n:=by rw [Ah,MY]
    have swap:∀hp:Hp,bE hp W (ay M c).1->Fa (aT (aT hp 0 (.cells true false false 1 ((((y5 n).map (·+1)).set (a8 (ay M c) c) (k+1)).map fun i=> .ak i 0 W))) 0 (.cells true false false 1 ((mT n k (a8 (ay M c) c)).map fun i=> .ak i 0 W))) W (ay M c).1 k (a8 (ay M c) c)/\ao (aT hp 0 (.cells true false false 1 ((((y5 n).map (·+1)).set (a8 (ay M c) c) (k+1)).map fun i=> .ak i 0 W))) 0=some (.cells true false false 1 ((((y5 n).map (·+1)).set (a8 (ay M c) c) (k+1)).map fun i=> .ak i 0 W))/\ao (aT (aT hp 0 (.cells true false false 1 ((((y5 n).map (·+1)).set (a8 (ay M c) c) (k+1)).map fun i=> .ak i 0 W))) 0 (.cells true false false 1 ((mT n k (a8 (ay M c) c)).map fun i=> .ak i 0 W))) 0=some (.cells true false false 1 ((mT n k (a8 (ay M c) c)).map fun i=> .ak i 0 W)):=fun hp hM=>by
     have e0:=hM.m;have e1:∀o,ao (aT hp 0 o) 0=some o:=fun o=>by rw [BA,yA rfl,e0];rfl
     have e2:∀o u,ao (aT (aT hp 0 o) 0 u) 0=some u:=fun o u=>by rw [BA,yA rfl,e1];rfl
     refine ⟨⟨?_,fun i hi=>?_⟩,e1 _,e2 _ _⟩
     ·rw [e2,mU]
     ·rw [BA,yo (by omega),BA,yo (by omega)];exact hM.r i hi
    have st1:=fun (hp:Hp) (ct:Nat)=>ahf (hp:=hp) (ct:=ct) (at_:=a8 (ay M c) c) (id:=k+1) (w:=W) (ids:=(y5 n).map (·+1)) (by simpa using ss)
    have st2:=fun (hp:Hp) (ct:Nat)=>ahf (hp:=hp) (ct:=ct) (at_:=k) (id:=a8 (ay M c) c+1) (w:=W) (ids:=((y5 n).map (·+1)).set (a8 (ay M c) c) (k+1)) (by simpa using MX)
    have d1:=TZ (ids:=(y5 n).map (·+1)) (w:=W) (p:=k) (by simpa using MX);have d2:=TZ (ids:=(y5 n).map (·+1)) (w:=W) (p:=a8 (ay M c) c) (by simpa using ss);simp only [yX,vl] at d1 d2;have d3:=TZ (ids:=mT n k (a8 (ay M c) c)) (w:=W) (p:=k) (by rw [sK];exact MX)
    rw [FK MX,yA rfl] at d3;have iG:∀hp:Hp,bE hp W (ay M c).1->ao hp 0=some (.cells true false false 1 (((y5 n).map (·+1)).map fun i=> .ak i 0 W)):=fun hp hM=>by
     have:=hM.m
     rw [mU] at this;rw [this,wu];rfl
    have dp:=Dy (r:=gR (bN (ay M c).1 k (a8 (ay M c) c)) k) (c:=c) (by omega);have aiX:pvs.length=k:=by rw [jY,yk,gY]
    have aAy:pvs++[aa c]=((ay M c).2++[c]).map (fun p:Nat=>aa p):=by rw [jY,xg];rfl
    have aAz:(((y5 n).map (·+1)).set (a8 (ay M c) c) (k+1)).set k (a8 (ay M c) c+1)=mT n k (a8 (ay M c) c):=rfl;have aAA:∀hp:Hp,Fa hp W (ay M c).1 k (a8 (ay M c) c)->ao hp (a8 (ay M c) c+1)=some (.cells true true false 1 (cr (gR (bN (ay M c).1 k (a8 (ay M c) c)) k))):=fun hp q=>by
     have:=q.at_ (i:=k) (by omega) gD (by omega)
     rw [FK (by omega),yA rfl] at this;exact this
    have aAB:∀{live:List Nat} {tm tm':Env} {ct:Nat} {hp:Hp} {R:Prop},Fa hp W (ay M c).1 k (a8 (ay M c) c)->dV hp n k pvs->et (bP tm live)=0::di n k->(∀S,dc 0 S 0=some 0->(k≠0->dc (n+1) S 0=some (n+1))->fe (pos S) (bP tm live)=tm')->R->∃ah aK,aG live ⟨tm,hp,ct,0⟩=⟨tm',ah,aK,0⟩/\bE ah W (bN (ay M c).1 k (a8 (ay M c) c))/\dV ah n k pvs/\R:=fun {live tm tm' ct hp R} q hV hE hT hR=>by
     have:=q.comp (ct:=ct) (by omega) gD (by rw [mU];exact hV) (by omega) (by rw [mU];exact hE)
     rw [mU] at this;obtain ⟨ah,aK,S,eZ,e,q1,q2,q3,q4⟩:=this;exact ⟨ah,aK,by rw [e,hT S q3 q4],q1,q2,hR⟩
    have bh:(bN (ay M c).1 k (a8 (ay M c) c)).set k (fL 0 (du (gR (bN (ay M c).1 k (a8 (ay M c) c)) k) (gR (bN (ay M c).1 k (a8 (ay M c) c)) k) (aW (gR (bN (ay M c).1 k (a8 (ay M c) c)) k) c)⁻¹ 0) (gR (bN (ay M c).1 k (a8 (ay M c) c)) k))=bN (ay M c).1 k (a8 (ay M c) c):=by
     rw [abL];exact To (by omega)
    rw [show cK (eL (ay M c) c) k c n=(ay M (c+1)).1 by rw [hs,LM]] at RL f2;have ahg:(ay M (c+1)).2.length=k+1:=by rw [hs,LM,yG,gY];rfl
    have ahh:pvs++[aa c]=(ay M (c+1)).2.map (fun p:Nat=>aa p):=by rw [hs,LM,aAy]
    have aEN:cK (eL (ay M c) c) k c 0=eL (ay M c) c:=rfl;have aEO:((bN (ay M c).1 k (a8 (ay M c) c)).set k (fL 0 (du (gR (bN (ay M c).1 k (a8 (ay M c) c)) k) (gR (bN (ay M c).1 k (a8 (ay M c) c)) k) (aW (gR (bN (ay M c).1 k (a8 (ay M c) c)) k) c)⁻¹ 0) (gR (bN (ay M c).1 k (a8 (ay M c) c)) k))).length=n:=by simp [MV,mU]
    have hS0:∀(hp:Hp),bE hp W (bN (ay M c).1 k (a8 (ay M c) c))->bE hp W ((bN (ay M c).1 k (a8 (ay M c) c)).set k (fL 0 (du (gR (bN (ay M c).1 k (a8 (ay M c) c)) k) (gR (bN (ay M c).1 k (a8 (ay M c) c)) k) (aW (gR (bN (ay M c).1 k (a8 (ay M c) c)) k) c)⁻¹ 0) (gR (bN (ay M c).1 k (a8 (ay M c) c)) k))):=fun hp q=>by rw [bh];exact q
    have hE0:∀(hp:Hp),bE hp W (eL (ay M c) c)->bE hp W (cK (eL (ay M c) c) k c 0):=fun hp q=>q
    have hFn:¬((a8 (ay M c) c:Nat):Int)=(n:Nat):=by omega
    generalize a8 (ay M c) c=F at*
    generalize bN (ay M c).1 k F=S1 at*
    generalize hS2:eL (ay M c) c=S2 at*
    generalize hS3:(ay M (c+1)).1=S3 at*
    unfold aj at e5;have Yk:((k:Nat):Int)<n:=by omega
    have fin:∀(tm:Env) (hp:Hp) (ct:Nat),bE hp W S3->dV hp n k pvs->af tm 0= .ak 0 0 n->af tm 4=oV (n+1) k->af tm 5=aa c->∃s' k',kj P L (oc 1 (D P L (.mh [qm 150 4,qm 151 5,Rq 152 (.nl 1 1 [.int .i64 0] [(0,1,(.t 151))]),Rq 153 (.cX 1 8 (.t 150) (.t 152)),qm 4 153]) (aG [0,4,5] ⟨tm,hp,ct,0⟩))) (.mh [qm 26 5,qa 27 26 1,qm 5 27])=some (.normal,s')/\k'<d/\∃(c k:Nat) (pvs:List AV) (hp:Hp) (ct:Nat),aG [0,4,5] s'=⟨[(0,.ak 0 0 n),(4,oV (n+1) k),(5,aa c)],hp,ct,0⟩/\bE hp W (ay M c).1/\dV hp n k pvs/\(ay M c).2.length=k/\pvs=(ay M c).2.map (fun p:Nat=>aa p)/\c+k'=W:=fun tm hp ct hM hV t0 t4 t5=>by
     obtain ⟨HL,ct4,e4,q1,q2,c1,c2⟩:=hkC S3 tm hp ct hM RL hV t0 t4 t5;rw [e4];rcases k with _ | k1
     ·have:pvs=[]:=yF aiX
      subst this;simp only [go_sem,ya,yd,xj,yJ,yp,yh,oV,fY,wc];refine ⟨_,d-1,rfl,by omega,c+1,1,[aa c],?_⟩;rw [hS3]
      exact ac0 (k:=0) ((q1.cons _ (by omega)).cons _ (by omega)) (ej _ _ _) RL (by omega) (by omega) (by simp only [go_sem,ya]<;>rfl) (fun S q3 q4=>by simp only [go_sem,ya,yd,q3,q4]<;>rfl) ⟨ahg,ahh,by omega⟩
     ·have hv4:ao HL (n+1)=some (.cells true true false 1 pvs):=by
       rcases q2 with q2 | q2
       ·cases q2
       ·exact q2
      have hn4:=c2 (Nat.succ_ne_zero k1);simp only [go_sem,ya,yd,yp,yh,oV]
      rw [fA (ex:=false) (pu:=true) (cs:=pvs) (by rw [cd _ _ (by omega)];exact hv4) (by rw [aiX,yh]) (by omega) (by omega) (by decide) (by simp only [go_sem])]
      simp only [go_sem,ya,wc];refine ⟨_,d-1,rfl,by omega,c+1,k1+1+1,pvs++[aa c],?_⟩;rw [hS3]
      exact ac0 (k:=k1+1) ((bE.del (q1.cons _ (by omega)) (by omega)).cons _ (by omega)) (ej _ _ _) RL (by omega) (by omega) (by simp only [go_sem,ya]<;>rfl) (fun S q3 q4=>by simp only [go_sem,ya,q3,q4]<;>rfl) ⟨ahg,ahh,by omega⟩
    cases k
    all_goals
     simp only [oV] at f0 f1 f2 RJ hkB fin ⊢;simp only [go_sem,ya,DR,eW,show (c:Int)<W by omega,yu,show (0:Int)<n by omega,Yk];generalize hq:D P L (.loop [0,4,5,6] DP) _=q;obtain ⟨ex,st,rfl,tm,fD,nM,rfl,rfl,fW,Bq,t0,t4,t5,t6⟩:=bD hq f0 ⟨_,kS hM hV mU (by omega) (by simp only [go_sem,ya,di]<;>rfl) (fun S q3 q4=>by simp only [go_sem,ya,q3,q4,uj,xo,xz]<;>rfl) ⟨by omega,LL⟩⟩
     obtain ⟨oM,e3,q1,q2⟩:=RJ (ay M c).1 tm fD nM F fW mU Bq t0 t4 t5 t6;obtain ⟨sw,sg1,sg2⟩:=swap oM q1;have gat:=aAA _ sw;have m0:=iG oM q1;simp only [go_sem,ya,yh,e3,hFn,yv,bA 0 0 MX,bA 0 0 ss,yg,m0,d1,d2,st1,sg1,st2,aAz,sg2,d3,bA (F+1) 0 MW,gat,dp,e5];generalize fK:D P L (.loop [0,4,5,7,8,9] Ki) _=q1';obtain ⟨ex,st,rfl,tm,hp5,ct5,rfl,rfl,hM5,hV5,t0,t4,t5,t7⟩:=bD fK f1 ⟨0,by
      rw [bh]
      exact aAB sw ((q2.set (by omega)).set (by omega)) (by simp only [go_sem,ya,di]<;>rfl) (fun S q3 q4=>by simp only [go_sem,ya,q3,q4,uj,xo,xz]<;>rfl) (by omega)⟩
     obtain ⟨hp6,e6,y1,y2⟩:=hkB S2 tm hp5 ct5 _ hM5 MY hV5 t0 t4 t5 t7;simp only [go_sem,e6];generalize ET:D P L (.loop [0,4,5,7,10] DQ) _=q3';obtain ⟨ex,st,rfl,tm,hp7,ct7,rfl,rfl,hM7,hV7,t0,t4,t5⟩:=bD ET f2 ⟨0,kS y1 y2 MY (by omega) (by simp only [go_sem,ya,di]<;>rfl) (fun S q3 q4=>by simp only [go_sem,ya,q3,q4,uj,xo,xz]<;>rfl) (by omega)⟩
     have:=fin tm hp7 ct7 hM7 hV7 t0 t4 t5
     simp only [VV,fN,TF];exact this
   ·
    have LM:ay M (c+1)=ay M c:=by rw [hs,Tk gD]
    have hF:a8 (ay M c) c=n:=by omega
    rw [hF] at f0 LL;have Yk:((k:Nat):Int)<n:=by omega
    have fin:∀(tm:Env) (hp:Hp) (ct:Nat),bE hp W (ay M c).1->dV hp n k pvs->af tm 0= .ak 0 0 n->af tm 4=oV (n+1) k->af tm 5=aa (c+1:Nat)->∃(c k:Nat) (pvs:List AV) (ah:Hp) (aK:Nat),aG [0,4,5] ⟨tm,hp,ct,0⟩=⟨[(0,.ak 0 0 n),(4,oV (n+1) k),(5,aa c)],ah,aK,0⟩/\bE ah W (ay M c).1/\dV ah n k pvs/\(ay M c).2.length=k/\pvs=(ay M c).2.map (fun p:Nat=>aa p)/\c+(d-1)=W:=fun tm hp ct hM hV t0 t4 t5=>by
     refine ⟨c+1,k,pvs,?_⟩;rw [LM];cases k
     all_goals
      simp only [oV] at t4 ⊢;exact kS hM hV mU (by omega) (by simp only [go_sem,ya,t0,t4,t5,di]<;>rfl) (fun S q3 q4=>by simp only [go_sem,t0,t4,t5,q3,q4,uj,xo,xz]<;>rfl) ⟨gY,jY,by omega⟩
    cases k
    all_goals
     simp only [oV] at f0 RJ fin ⊢;simp only [go_sem,ya,DR,eW,show (c:Int)<W by omega,yu,show (0:Int)<n by omega,Yk];generalize hq:D P L (.loop [0,4,5,6] DP) _=q;obtain ⟨ex,st,rfl,tm,fD,nM,rfl,rfl,fW,Bq,t0,t4,t5,t6⟩:=bD hq f0 ⟨_,kS hM hV mU (by omega) (by simp only [go_sem,ya,di]<;>rfl) (fun S q3 q4=>by simp only [go_sem,ya,q3,q4,uj,xo,xz]<;>rfl) ⟨by omega,LL⟩⟩
     obtain ⟨oM,e3,q1,q2⟩:=RJ (ay M c).1 tm fD nM n fW mU Bq t0 t4 t5 t6;simp only [go_sem,ya,e3,yu,wc];exact ⟨_,d-1,rfl,by omega,fin _ _ _ q1 q2 (by simp only [go_sem,ya]) (by simp only [go_sem,ya]) (by simp only [go_sem])⟩
  ·
   right
   have aEP:k=n:=by omega
   obtain ⟨d',hd'⟩:∃d',W=c+d':=⟨W-c,by omega⟩;have axZ:ay M W=ay M c:=by rw [hd'];exact abH (by omega) d'
   rw [axZ];cases k
   ·omega
   ·rename_i k;simp only [oV];simp only [go_sem,ya,DR,eW,show (c:Int)<W by omega,yu,show ¬((k+1:Nat):Int)<n by omega,yv];exact ⟨_,_,rfl,by simp,_,_,_,_,pvs,rfl,rfl,hM,hV,gY,jY,by simp only [go_sem,ya],by simp only [go_sem,ya]<;>rfl⟩
 ·right
  have:c=W:=by omega
  subst this;cases k
  all_goals
   simp only [oV];simp only [go_sem,ya,DR,eW,show ¬(c:Int)<c by omega,yv];exact ⟨_,_,rfl,by simp,_,_,_,_,pvs,rfl,rfl,hM,hV,gY,jY,by simp only [go_sem,ya],by simp only [go_sem,ya]<;>rfl⟩
def aAC (h:Rm P L) (G5:Has P L 261 La) (LO:Has P L 343 GQ) {v:AV} {M:List (List (List Nat))} (hv:cx bm v M) (hr:∀r,r∈M->∀s,s∈r->s.length<9223372036854775808):aj P L 343 [v] (aa (mS M)):=by
 unfold mS;by_cases h0:M.length=0
 ·rw [yA h0];unfold aj;rw [aI LO];simp only [go_sem,ya,GQ,hv.len,show (M.length:Int)=0 by omega,yu]
 rw [yo h0];by_cases C4:64<M.length
 ·rw [yA C4];unfold aj;rw [aI LO];simp only [go_sem,ya,GQ,hv.len,show ¬(M.length:Int)=0 by omega,show (64:Int)<M.length by omega,yu,yv]
 rw [yo C4];obtain ⟨r0,ax0,fF,e0⟩:=hv.bi (i:=0) (by omega);rw [Gw (by omega)];have key:=fk (P:=P) (L:=L) (live:=[0,3]) (a:=Au)
  (I:=fun k st=>∃i:Nat,st=⟨[(0,v),(3,aa i)],[],0,0⟩/\i+k=M.length/\bH ((M.drop i).map (nO M[0].length))=bH (M.map (nO M[0].length)))
  (Q:=fun ex st=>∃tm hp ct,st=⟨tm,hp,ct,0⟩/\((ex= .ret/\af tm 2=aa (bH (M.map (nO M[0].length))))\/(ex= .exit 0/\bH (M.map (nO M[0].length))=0))) ?_
 ·unfold aj;rw [aI LO];simp only [go_sem,ya,GQ,hv.len,show ¬(M.length:Int)=0 by omega,show ¬(64:Int)<M.length by omega,yv];generalize hq:D P L (.loop [0,3] Au) _=q;obtain ⟨ex,st,rfl,tm,hp,ct,rfl,h2⟩:=bD hq (key M.length) ⟨0,by simp only [go_sem,ya,aw,aq hv.pu,au _ hv.pu]<;>rfl,by omega,by simp⟩
  rcases h2 with ⟨rfl,h2⟩ | ⟨rfl,h2⟩
  ·simp only [go_sem,h2]
  ·rw [h2];simp only [go_sem,aw]
 ·rintro k st ⟨i,rfl,hk,hf⟩;by_cases hi:i<M.length
  ·obtain ⟨r,rest,cO,e1⟩:=hv.bi hi;have hm:=hr _ (yE hi);rw [alJ hi] at hf;have w3:IntKind.wrap .i64 ((i:Int)+1)=((i+1:Nat):Int):=wrap64 (by omega) (by omega);by_cases c1:M[i].length=0
   ·right
    have hE:nO M[0].length M[i]=12:=by unfold nO;rw [yA c1];rfl
    rw [hE,yo (by decide)] at hf;simp only [go_sem,ya,Au,hv.len,show (i:Int)<M.length by omega,e1,cO.len,show (M[i].length:Int)=0 by omega,yu];exact ⟨_,_,rfl,by simp,_,_,_,rfl,.inl ⟨rfl,by rw [<-hf];simp only [go_sem]⟩⟩
   by_cases c2:64<M[i].length
   ·right
    have hE:nO M[0].length M[i]=5:=by unfold nO;rw [yo c1,yA c2];rfl
    rw [hE,yo (by decide)] at hf;simp only [go_sem,ya,Au,hv.len,show (i:Int)<M.length by omega,e1,cO.len,show ¬(M[i].length:Int)=0 by omega,show (64:Int)<(M[i].length:Nat) by omega,yu,yv];exact ⟨_,_,rfl,by simp,_,_,_,rfl,.inl ⟨rfl,by rw [<-hf];simp only [go_sem]⟩⟩
   have e2:=ag9 h G5 cO (by omega) hm;unfold aj at e2;by_cases c3:M[i].length=M[0].length
   ·have gW:decide ((M[i].length:Int)=(M[0].length:Nat))=true:=xq (by omega);have hE:nO M[0].length M[i]=bH (M[i].map bJ):=by
     unfold nO;rw [yo c1,yo c2,yA c3];show bH [0,0,0,bH (M[i].map bJ)]=_
     generalize bH (M[i].map bJ)=q;by_cases h:q=0<;>simp [bH,h]
    rw [hE] at hf;by_cases c4:bH (M[i].map bJ)=0
    ·left
     rw [yA c4] at hf;rw [c4] at e2;simp only [go_sem,ya,Au,hv.len,show (i:Int)<M.length by omega,e1,cO.len,cO.an,show ¬(M[i].length:Int)=0 by omega,show ¬(64:Int)<(M[i].length:Nat) by omega,yu,yv,IQ,e0,fF.len,gW,yR,e2];refine ⟨_,k-1,rfl,by omega,i+1,?_,by omega,hf⟩;rw [w3];simp only [go_sem,ya,aw,aq hv.pu,au _ hv.pu]<;>rfl
    ·right
     rw [yo c4] at hf;simp only [go_sem,ya,Au,hv.len,show (i:Int)<M.length by omega,e1,cO.len,cO.an,show ¬(M[i].length:Int)=0 by omega,show ¬(64:Int)<(M[i].length:Nat) by omega,yu,yv,IQ,e0,fF.len,gW,yR,e2,c4,yU];exact ⟨_,_,rfl,by simp,_,_,_,rfl,.inl ⟨rfl,by rw [<-hf];simp only [go_sem]⟩⟩
   ·right
    have hE:nO M[0].length M[i]=2:=by unfold nO;rw [yo c1,yo c2,yo c3];rfl
    rw [hE,yo (by decide)] at hf;simp only [go_sem,ya,Au,hv.len,show (i:Int)<M.length by omega,e1,cO.len,show ¬(M[i].length:Int)=0 by omega,show ¬(64:Int)<(M[i].length:Nat) by omega,yu,yv,IQ,e0,fF.len,show ¬(M[i].length:Int)=(M[0].length:Nat) by omega,yU];exact ⟨_,_,rfl,by simp,_,_,_,rfl,.inl ⟨rfl,by rw [<-hf];simp only [go_sem]⟩⟩
  ·right
   simp only [go_sem,ya,Au,hv.len,show ¬(i:Int)<M.length by omega];refine ⟨_,_,rfl,by simp,_,_,_,rfl,.inr ⟨rfl,?_⟩⟩;rw [<-hf,List.drop_eq_nil_of_le (by omega)];rfl
def aiY (mf:Has P L 351 nv) {v:AV} {M:List (List (List Nat))} (hv:cx bm v M) (h0:0<M.length):aj P L 351 [v] (aa (wd M)):=by
 obtain ⟨r0,ax0,fF,e0⟩:=hv.bi (i:=0) h0;unfold wd;rw [Gw h0];unfold aj;rw [aI mf];simp only [go_sem,ya,nv,hv.len,show ¬(M.length:Int)=0 by omega,yv,IQ,e0,fF.len]
def fI (a b:List Rat):Nat->Rat
 | 0=>0
 | k+1=>fI a b k+aW a k*aW b k
def Aw {a b:List Rat} {K J:Nat} (ha:∀x,x∈a->Hq K x) (hb:∀x,x∈b->Hq J x) (hK:2<=K) (hJ:2<=J):∀k,Hq (2+k*(K+J+1)) (fI a b k)
 | 0=>WE.mono (by omega)
 | k+1=>by
  have:=(Aw ha hb hK hJ k).add ((KQ (c:=k) ha hK).mul (KQ (c:=k) hb hJ))
  refine this.mono ?_
  grind
def aAD (h:Rn P L) (qX:Has P L 352 Cr) {u v:AV} {a b:List Rat} (hu:bm u (a.map RT)) (hv:bm v (b.map RT)) (hl:a.length=b.length) (hn:a.length<=1000) {K J:Nat} (ka:∀x,x∈a->Hq K x) (kb:∀x,x∈b->Hq J x) (cU:2<=K) (Yl:2<=J) (hK:K+J<=4000000):aj P L 352 [u,v] (.str (RT (fI a b a.length))):=by
 have key:=fk (P:=P) (L:=L) (live:=[0,1,5,6]) (a:=Kh)
  (I:=fun k st=>∃i:Nat,st=⟨[(0,u),(1,v),(5,.str (RT (fI a b i))),(6,aa i)],[],0,0⟩/\i+k=a.length)
  (Q:=fun ex st=>∃tm hp ct,st=⟨tm,hp,ct,0⟩/\ex= .exit 0/\af tm 5= .str (RT (fI a b a.length))) ?_
 ·unfold aj;rw [aI qX];simp only [go_sem,Cr];generalize hq:D P L (.loop [0,1,5,6] Kh) _=q;obtain ⟨ex,st,rfl,tm,hp,ct,rfl,rfl,t5⟩:=bD hq (key a.length) ⟨0,by rw [fI,WD];simp only [go_sem,ya,aw,aq hu.pu,au _ hu.pu,aq hv.pu,au _ hv.pu]<;>rfl,by omega⟩
  simp only [go_sem,aw,t5]
 ·rintro k st ⟨i,rfl,hk⟩;have lu:∀hp:Hp,gg hp 1 u=some (aa a.length):=fun hp=>by have:=hu.len (hp:=hp);rwa [yk] at this
  by_cases hi:i<a.length
  ·left
   have e1:=hu.bi (i:=i) (by rw [yk];exact hi)
   have e2:=hv.bi (i:=i) (by rw [yk];omega);rw [yX] at e1 e2;have k1:=ka _ (yE hi);have k2:=kb _ (yE (show i<b.length by omega));have e3:=Va h k1 k2 (by omega);have kp:=Aw ka kb cU Yl i;have hb:i*(K+J+1)<=1000*(4000000+1):=Nat.mul_le_mul (by omega) (by omega);have e4:=Vb h.toRp kp (k1.mul k2) (by omega);have hs:fI a b (i+1)=fI a b i+a[i]*b[i]'(by omega):=by rw [fI,db hi,db (show i<b.length by omega)]
   rw [<-hs] at e4;have w3:IntKind.wrap .i64 ((i:Int)+1)=((i+1:Nat):Int):=wrap64 (by omega) (by omega);simp only [go_sem,ya,Kh,lu,show (i:Int)<a.length by omega,e1,e2,e3,e4];refine ⟨_,k-1,rfl,by omega,i+1,?_,by omega⟩;rw [w3];simp only [go_sem,ya,aw,aq hu.pu,au _ hu.pu,aq hv.pu,au _ hv.pu]<;>rfl
  ·right
   have:i=a.length:=by omega
   subst this;simp only [go_sem,ya,Kh,lu,show ¬(a.length:Int)<a.length by omega];exact ⟨_,_,rfl,by simp,_,_,_,rfl,rfl,by simp only [go_sem,ya]⟩
def mO (M:List (List (List Nat))) (c:Nat):List (List Nat):=M.map fun r=>r.getD c []
def rC (M:List (List (List Nat))) (w:Nat):List (List (List Nat)):=(y5 w).map (mO M)
def awh {v:AV} {M:List (List (List Nat))} (hv:cx bm v M) {w:Nat} (hw:∀r,r∈M->r.length=w) {c:Nat} (hc:c<w) (hl:M.length<=1000) {j:Nat} {out:List AV}:
  ∀d st,(∃(i:Nat),aG [0,3,4,5,6] st=⟨[(0,v),(3,oV 0 j),(4,aa c),(5,oV (oC 0 j) i),(6,aa i)],oH (oC 0 j) 1 (((mO M c).take i).map .str) (oH 0 1 out [] j) i,oC (oC 0 j) i,0⟩/\i+d=M.length)->
   ∃ex s',D P L (.loop [0,3,4,5,6] DO) st=some (ex,s')/\∃tm ct,s'=⟨tm,oH (oC 0 j) 1 ((mO M c).map .str) (oH 0 1 out [] j) M.length,ct,0⟩/\ex= .exit 2/\af tm 0=v/\af tm 3=oV 0 j/\af tm 4=aa c/\af tm 5=oV (oC 0 j) M.length:=by
 intro dq sq;generalize bh:aG [0,3,4,5,6] sq=s0;revert bh s0 sq dq;apply dj;rintro d st ⟨i,rfl,hid⟩;have lc:(mO M c).length=M.length:=by simp [mO]
 by_cases hi:i<M.length
 ·left
  obtain ⟨r,rest,hr,e0⟩:=hv.bi hi;have wr:=hw _ (yE hi);have e1:=hr.bi (i:=c) (by omega);have iL:(i:Int)<M.length:=by omega
  have hs:((mO M c).take (i+1)).map AV.str=((mO M c).take i).map AV.str++[.str (M[i][c]'(by omega))]:=by
   rw [yT (by omega),xg];simp [mO,yM,y9 (show c<M[i].length by omega)]
  have w6:IntKind.wrap .i64 ((i:Int)+1)=((i+1:Nat):Int):=wrap64 (by omega) (by omega)
  cases i with
  | zero=>
   cases j
   all_goals
    simp only [oV,oH,oC];simp only [go_sem,ya,yd,xj,yJ,yp,yh,DO,hv.len,iL,e0,e1,fY,w6];refine ⟨_,d-1,rfl,by omega,1,?_,by omega⟩;rw [hs];simp only [go_sem,ya,yd,aw,aq hv.pu,au _ hv.pu,yat,vN,xp]<;>rfl
  | succ i=>
   cases j
   all_goals
    simp only [oV,oH,oC];simp only [go_sem,ya,yd,yp,yh,DO,hv.len,iL,e0,e1]
    rw [fA (ex:=false) (pu:=true) (cs:=((mO M c).take (i+1)).map .str) (by simp only [go_sem,ya]) (by rw [yk,yI,lc];omega) (by omega) (by omega) (by decide) (by simp only [go_sem])];simp only [go_sem,ya,yd,w6];refine ⟨_,d-1,rfl,by omega,i+1+1,?_,by omega⟩;rw [hs];simp only [go_sem,ya,yd,aw,aq hv.pu,au _ hv.pu]<;>rfl
 ·right
  have:i=M.length:=by omega
  subst this;rw [yC (by omega)];have iL:¬(M.length:Int)<M.length:=by omega
  cases j
  all_goals
   simp only [go_sem,ya,yd,DO,hv.len,iL,oC];exact ⟨_,_,rfl,by simp,_,_,rfl,rfl,by simp only [go_sem,ya],by simp only [go_sem,ya],by simp only [go_sem,ya],by simp only [go_sem,ya]⟩
def aAE (Vc:Has P L 351 nv) (AY:Has P L 347 Eg) {v:AV} {M:List (List (List Nat))} (hv:cx bm v M) (h0:0<M.length) (hl:M.length<=1000) (hw:∀r,r∈M->r.length=wd M) (jb:wd M<=1000):∃r,aj P L 347 [v] r/\cx bm (shut r) (rC M (wd M)):=by
 have ew:=aiY (P:=P) (L:=L) Vc hv h0;unfold aj at ew;have lt:(rC M (wd M)).length=wd M:=by simp [rC]
 have lc:∀c,(mO M c).length=M.length:=fun c=>by simp [mO]
 have key:=fk (P:=P) (L:=L) (live:=[0,3,4]) (a:=F2)
  (I:=fun k st=>∃(c:Nat) (out:List AV),st=⟨[(0,v),(3,oV 0 c),(4,aa c)],oH 0 1 out [] c,oC 0 c,0⟩/\c+k=wd M/\cF bm out ((rC M (wd M)).take c))
  (Q:=fun ex st=>∃tm ct out,st=⟨tm,oH 0 1 out [] (wd M),ct,0⟩/\ex= .exit 0/\af tm 3=oV 0 (wd M)/\cF bm out (rC M (wd M))) ?_
 ·unfold aj;rw [aI AY];simp only [go_sem,Eg];generalize hq:D P L (.loop [0,3,4] F2) _=q;obtain ⟨ex,st,rfl,tm,ct,out,rfl,rfl,t3,hO⟩:=bD hq (key (wd M)) ⟨0,[],by simp only [go_sem,ya,aw,oV,oH,oC,aq hv.pu,au _ hv.pu]<;>rfl,by omega,trivial⟩
  have lo:=hO.len;rw [lt] at lo
  cases hn:wd M with
  | zero=>
   rw [hn] at t3;refine ⟨.ab,by simp only [go_sem,aw,t3,oV,oH],?_⟩
   have:rC M 0=[]:=rfl
   rw [this];exact SM
  | succ n=>
   rw [hn] at t3 lo hO;refine ⟨.bV false 1 (n+1) out,?_,?_⟩
   ·simp only [go_sem,yd,aw,t3,oV,oH];exact p9 (ej _ _ _) (by rw [lo,yh]) (by decide)
   ·have:=BM false hO
    rwa [show (rC M (n+1)).length=n+1 by simp [rC]] at this
 ·rintro k st ⟨c,out,rfl,jU,hO⟩;have lo:=hO.len;rw [yI,lt,xt (by omega)] at lo;by_cases hc:c<wd M
  ·left
   have f0:=awh (P:=P) (L:=L) hv hw hc hl (j:=c) (out:=out) M.length;have oF:(c:Int)<wd M:=by omega
   have w4:IntKind.wrap .i64 ((c:Int)+1)=((c+1:Nat):Int):=wrap64 (by omega) (by omega);obtain ⟨n,hn⟩:∃n,M.length=n+1:=⟨M.length-1,by omega⟩;have hO':cF bm (out++[.aE false (n+1) ((mO M c).map .str)]) ((rC M (wd M)).take (c+1)):=by
    rw [yT (by omega)];refine hO.snoc ?_
    have:=OH false (mO M c)
    rw [lc,hn] at this;simpa [rC] using this
   have jm:=fun hp:Hp=>lP (hp:=hp) (k:=n+1) (sz:=1) (cs:=(mO M c).map AV.str) false (by rw [yk,lc,hn,yh]) (by decide)
   have jW:∀st,aG [0,3,4,5,6] st=⟨[(0,v),(3,oV 0 c),(4,aa c),(5,oV (oC 0 c) 0),(6,aa (0:Nat))],oH (oC 0 c) 1 (((mO M c).take 0).map .str) (oH 0 1 out [] c) 0,oC (oC 0 c) 0,0⟩->_:=fun st aJ=>f0 st ⟨0,aJ,by omega⟩
   rw [hn] at jW
   cases c with
   | zero=>
    have:out=[]:=yF lo
    subst this;simp only [oV,oH,oC] at jW ⊢;simp only [go_sem,ya,yd,F2,ew,oF,hv.an];generalize hq:D P L (.loop [0,3,4,5,6] DO) _=q;obtain ⟨ex,st,rfl,tm,ct,rfl,rfl,t0,t3,t4,t5⟩:=bD hq jW (by simp only [go_sem,ya,aw,aq hv.pu,au _ hv.pu]<;>rfl)
    simp only [go_sem,ya,yd,xj,yJ,yp,yh,aw,t0,t3,t4,t5,aq hv.pu,au _ hv.pu,jm,fY,w4];refine ⟨_,k-1,rfl,by omega,1,_,?_,by omega,hO'⟩;simp only [go_sem,ya,yd,aw,aq hv.pu,au _ hv.pu]<;>rfl
   | succ c=>
    simp only [oV,oH,oC] at jW ⊢;simp only [go_sem,ya,yd,F2,ew,oF,hv.an];generalize hq:D P L (.loop [0,3,4,5,6] DO) _=q;obtain ⟨ex,st,rfl,tm,ct,rfl,rfl,t0,t3,t4,t5⟩:=bD hq jW (by simp only [go_sem,ya,yd,aw,aq hv.pu,au _ hv.pu]<;>rfl)
    simp only [go_sem,ya,yd,yp,yh,aw,t0,t3,t4,t5,aq hv.pu,au _ hv.pu,jm]
    rw [fA (ex:=false) (pu:=true) (cs:=out) (by simp only [go_sem,ya]) (by rw [lo,yh]) (by omega) (by omega) (by decide) (by simp only [go_sem])];simp only [go_sem,ya,yd,w4];refine ⟨_,k-1,rfl,by omega,c+1+1,_,?_,by omega,hO'⟩;simp only [go_sem,ya,yd,aw,aq hv.pu,au _ hv.pu]<;>rfl
  ·right
   have:c=wd M:=by omega
   subst this;rw [yC (by omega)] at hO;have oF:¬(wd M:Int)<wd M:=by omega
   simp only [go_sem,ya,F2,ew,oF,hv.an];exact ⟨_,_,rfl,by simp,_,_,out,rfl,rfl,by simp only [go_sem,ya],hO⟩
def nE (M:Mx) (x:List Rat):List Rat:=M.map fun r=>fI r x r.length
def cC (B:Mx) (w:Nat):Mx:=(y5 w).map fun c=>B.map fun r=>aW r c
def aqO {B:List (List (List Nat))} {w:Nat} (hc:∀r,r∈B->r.length=w/\∀s,s∈r->bJ s=0):rC B w=(cC (dP B) w).map (wH RT):=by
 unfold rC cC;rw [wu];refine vm fun c oF=>?_
 have oF:=yax.1 oF;simp only [uU,mO,dP,wu];refine vm fun r hr=>?_
 obtain ⟨h1,h2⟩:=hc r hr;simp only [uU];rw [db (by rw [yk];omega),yX,yM,y9 (show c<r.length by omega),Option.getD_some];exact (BL (h2 _ (yE _))).1
def ac1 (a:List Rat) (B:Mx) (c:Nat) (hl:a.length=B.length):∀k,k<=B.length->fI (B.map fun r=>aW r c) a k=E8 a B c k
 | 0,_=>rfl
 | k+1,hk=>by
  rw [fI,E8,ac1 a B c hl k (by omega),db (show k<(B.map fun r=>aW r c).length by rw [yk];omega),yX,cm (by omega)]
  grind
def aqP {a:List Rat} {B:Mx} {w:Nat} (hl:a.length=B.length):nE (cC B w) a=mulR a B w:=by
 unfold nE cC mulR;rw [wu];refine vm fun c _=>?_
 simp only [uU];rw [yk,ac1 a B c hl _ (yq _),hl]
end
def oP (w:Nat) (M:Mx):List AV:=M.map fun r=> .aE false w (cr r)
def ac2 {w:Nat}:∀{M:Mx},(∀r,r∈M->r.length=w)->cF bm (oP w M) (M.map (wH RT))
 | [],_=>trivial
 | r::M,h=>⟨by
   have:=O3 false r
   rwa [h r wM] at this,ac2 (fun q hq=>h q (xY _ hq))⟩
def aqQ (w:Nat) (M:Mx) (k:Nat):(oP w M).take k=oP w (M.take k):=by simp [oP,List.map_take]
def bE.an {hp:Hp} {w k:Nat} {M:Mx} (h:bE hp w M) (hw:∀r,r∈M->r.length=w) (hn:M.length<=900) (hk:k<=M.length):∃ah,freeze deep hp (.ak 0 0 k)=some (.aE false k (oP w (M.take k)),ah)/\∀j,j≠0->(∀i,i<M.length->j≠i+1)->ao ah j=ao hp j:=by
 have hm:=h.m;rw [show ((y5 M.length).map fun i=>AV.ak (i+1) 0 w)=((y5 M.length).map (·+1)).map (fun i=> .ak i 0 w) by rw [wu];rfl] at hm
 obtain ⟨a6,e1,g1⟩:=aaC (w:=w) ((y5 M.length).map (·+1)) (M.map cr) hp 998 (by simp;omega) (by simp) (fun i h1 h2=>by
  simp only [yk,tV] at h1;refine ⟨by rw [yX,qF];exact hw _ (yE h1),true,?_⟩
  simp only [yX,vl]
  have:=h.r i h1
  rwa [cm h1] at this)
 have e2:(M.map cr).map (fun r=>AV.aE false w r)=oP w M:=by rw [wu];rfl
 rw [e2] at e1;have e3:nT 999 hp 0=some (false,1,oP w M,aT a6 0 (.cells false false false 1 (((y5 M.length).map (·+1)).map fun i=> .ak i 0 w))):=by
  rw [JE,hm];show (match cD 998 hp _ with | some (dL,ah)=>_ | none=>_)=_
  rw [e1]
 have lr:(oP w M).length=M.length:=by simp [oP]
 refine ⟨aT a6 0 (.cells false false false 1 (((y5 M.length).map (·+1)).map fun i=> .ak i 0 w)),?_,fun j hj jo=>?_⟩
 ·show freeze (999+1) hp (.ak 0 0 k)=_
  rw [JD,e3];show (bif Nat.ble (0+k*1) (oP w M).length then _ else _)=_
  rw [lr,yg,yh,Nat.ble_eq_true_of_le hk];simp only [yD,Bool.false_and,slice,yL,aqQ]
 ·rw [BA,yo hj];refine g1 j (fun hm=>?_);obtain ⟨i,hi,e⟩:=wA.1 hm;exact jo i (yax.1 hi) e.symm
def aoI {hp:Hp} {w k:Nat} {M:Mx} {pvs:List AV} (h:bE hp w M) (hw:∀r,r∈M->r.length=w) (hn:M.length<=900) (hk:k+1<=M.length) (hv:ao hp (M.length+1)=some (.cells true true false 1 pvs)) (hl:pvs.length=k+1):
  result hp (.az [.ak 0 0 (k+1),.ak (M.length+1) 0 (k+1)])=some (.az [.aE false (k+1) (oP w (M.take (k+1))),.bV false 1 (k+1) pvs]):=by
 obtain ⟨ah,e1,g1⟩:=h.an hw hn hk;have h1:FM [.ak 0 0 (k+1),.ak (M.length+1) 0 (k+1)]=some [0,M.length+1]:=rfl;have e0:mZ deep hp (.ak 0 0 (k+1))=freeze deep hp (.ak 0 0 (k+1)):=by
  simp only [mZ,h.m]
 have e2:mZ deep ah (.ak (M.length+1) 0 (k+1))=some (.bV false 1 (k+1) pvs,dJ ah (M.length+1)):=aao (by rw [g1 _ (by omega) (fun i hi=>by omega)];exact hv) (by rw [hl,yh]) (by decide)
 simp only [result,h1,Aa,e0,e1,e2]
def am1 {hp:Hp} {w:Nat} {M:Mx} (h:bE hp w M) (hw:∀r,r∈M->r.length=w) (hn:M.length<=900):result hp (.az [.ak 0 0 0,.ab])=some (.az [.aE false 0 [],.ab]):=by
 obtain ⟨ah,e1,g1⟩:=h.an (k:=0) hw hn (uJ _);have h1:FM [.ak 0 0 0,.ab]=some [0]:=rfl;have e0:mZ deep hp (.ak 0 0 0)=freeze deep hp (.ak 0 0 0):=by
  simp only [mZ,h.m]
 have e2:mZ deep ah .ab=some (.ab,ah):=rfl;have e3:oP w (M.take 0)=[]:=rfl;rw [e3] at e1;simp only [result,h1,Aa,e0,e1,e2]
def abO {live:List Nat} {tm tm':Env} {hp:Hp} {ct a w n:Nat} {ids:List Nat} {M:Mx} (Hh:M.length=n) (hE:et (bP tm live)=[a]) (hm:ao hp a=some (.cells true false false 1 (ids.map fun i=> .ak i 0 w))) (hl:ids.length=M.length) (hr:∀i (h:i<ids.length),ao hp ids[i]=some (.cells true true false 1 (cr (gR M i)))) (hM:M.length<=10000) (hn:(a::ids).Nodup)
  (hT:∀S,dc a S 0=some 0->fe (pos S) (bP tm live)=tm'):∃ah,aG live ⟨tm,hp,ct,0⟩=⟨tm',ah,1+n,0⟩/\bE ah w M:=by
 obtain ⟨ah,aK,eZ,e,q1,_,q3,_⟩:=OJ (ct:=ct) (pl:=[]) hE hm hl hr hM (by simpa [cL] using hn) (fun _ h=>by cases h) (by simp)
 grind
section
variable {P:aM} {L:Lib}
def aAF {v:AV} {M:Mx} {w:Nat} (hv:cx bm v (M.map (wH RT))) (hw:∀r,r∈M->r.length=w) (jq:0<w) (jb:w<=1000) (h0:0<M.length) (hl:M.length<=1000) (AZ:Has P L 354 AQ):∃hp ct,er P L (D P L) [] 0 .heap (.fn (.f 354) [] []) [v]=some (.ak 0 0 M.length,hp,ct)/\bE hp w M:=by
 have lv:∀hp:Hp,gg hp 1 v=some (aa M.length):=fun hp=>by have:=hv.len (hp:=hp);rwa [yk] at this
 have key:=fk (P:=P) (L:=L) (live:=[0,3,4]) (a:=F8)
  (I:=fun d st=>∃(i:Nat),i+d=M.length/\((i=0/\st=⟨[(0,v),(3,.ab),(4,aa i)],[],0,0⟩)\/(0<i/\∃hp,st=⟨[(0,v),(3,.ak 0 0 i),(4,aa i)],hp,1+i,0⟩/\bE hp w (M.take i))))
  (Q:=fun ex st=>∃tm hp ct,st=⟨tm,hp,ct,0⟩/\ex= .exit 0/\af tm 3= .ak 0 0 M.length/\bE hp w M) ?_
 ·have hb:∃tm hp ct,D P L AQ.body ⟨dN 0 [v],[],0,0⟩=some (.ret,⟨tm,hp,ct,0⟩)/\af tm 2= .ak 0 0 M.length/\bE hp w M:=by
   simp only [go_sem,AQ];generalize hq:D P L (.loop [0,3,4] F8) _=q;obtain ⟨ex,st,rfl,tm,hp,ct,rfl,rfl,t3,hM⟩:=bD hq (key M.length) ⟨0,by omega,.inl ⟨rfl,by simp only [go_sem,ya,aw,aq hv.pu,au _ hv.pu]<;>rfl⟩⟩
   obtain ⟨ah,aK,e,q1,_⟩:=kS (live:=[3]) (tm:=tm) (tm':=[(3,.ak 0 0 M.length)]) (ct:=ct) (k:=0) (pvs:=[]) (R:=True) hM (.inl rfl) rfl (by omega) (by simp only [go_sem,t3,di]<;>rfl) (fun S q3 q4=>by simp only [go_sem,t3,q3]) trivial
   simp only [go_sem,e];exact ⟨_,_,_,rfl,by simp only [go_sem],q1⟩
  obtain ⟨tm,hp,ct,hb,t2,hM⟩:=hb;refine ⟨hp,ct,?_,hM⟩;show ix P L (D P L) [] 0 354 [v]=_
  exact JG AZ hb (.inr rfl) (by simp only [go_sem,AQ,t2])
 ·rintro d st ⟨i,hid,aJ⟩;by_cases hi:i<M.length
  ·left
   obtain ⟨r,rest,hr,e0⟩:=hv.bi (i:=i) (by rw [yk];exact hi)
   rw [yX] at hr;have wr:=hw _ (yE hi);have Ym:∀hp:Hp,iN hp 1 r=some (w,cr M[i]):=fun hp=>by
    rcases hr with ⟨rfl,h2⟩ | ⟨e,h2⟩
    ·have:=congrArg tR h2
     rw [yk,yk,yO] at this;omega
    ·have lc:((M[i].map RT).map AV.str).length=w:=by rw [yk,yk,wr]
     rw [lc] at h2;rw [h2];have e2:(M[i].map RT).map AV.str=cr M[i]:=by simp [cr]
     rw [e2] at lc ⊢;simp only [iN,yh,lc,Nat.beq_refl,yD]
   have lk:∀hp:Hp,iP hp 1 r=some (w,cr M[i]):=fun hp=>by
    rcases hr with ⟨rfl,h2⟩ | ⟨e,h2⟩
    ·have:=congrArg tR h2
     rw [yk,yk,yO] at this;omega
    ·have:=Ym hp
     rw [h2] at this ⊢;exact this
   have oC':cw (cr M[i])=true/\aH (cr M[i])=true:=by
    unfold cr
    induction M[i] with
    | nil=>exact ⟨rfl,rfl⟩
    | cons x l ih=>exact ⟨by simp [cw,ih.1,TH],by simp [aH,ih.2,Uq]⟩
   have RM:(cr M[i]).length=w:=by rw [qF,wr]
   have iL:(i:Int)<M.length:=by omega
   have w4:IntKind.wrap .i64 ((i:Int)+1)=((i+1:Nat):Int):=wrap64 (by omega) (by omega);have lt:(M.take (i+1)).length=i+1:=by rw [yI];omega
   have Ba:∀(hp:Hp) (ct id:Nat),ao hp id=some (.cells true true true 1 [])->Cs hp ct 1 16 (.ak id 0 0) (some (w,cr M[i]))=some (.ak ct 0 (0+w),(ct,.cells true true false 1 ([]++cr M[i]))::dJ hp id,ct+1):=fun hp ct id hg=>by
    rw [fA (ex:=true) (pu:=true) (cs:=[]) hg rfl (by omega) (by omega) (by decide) oC'.1,oC'.2];rfl
   have MZ:gR (M.take (i+1)) i=M[i]:=by rw [cm (by omega),vC]
   rcases aJ with ⟨mq,rfl⟩ | ⟨mq,hp,rfl,hM⟩
   ·subst mq;simp only [go_sem,ya,yd,xj,yJ,yp,yh,F8,lv,iL,e0,Dv,lk,Ba,yg,xp,fY,w4];refine ⟨_,d-1,rfl,by omega,1,by omega,.inr ⟨by omega,?_⟩⟩;refine ⟨[(1,.cells true true false 1 (cr M[0])),(0,.cells true false false 1 [.ak 1 0 w])],by simp only [go_sem,ya,yd,aw,aq hv.pu,au _ hv.pu]<;>rfl,⟨?_,fun k hk=>?_⟩⟩
    ·rw [lt];rfl
    ·rw [lt] at hk
     have:k=0:=by omega
     subst this;rw [MZ];rfl
   ·have g0:=hM.m;have M0:(M.take i).length=i:=by rw [yI];omega
    rw [M0] at g0;have gr:=hM.r;rw [M0] at gr;simp only [go_sem,ya,yp,yh,F8,lv,iL,e0,Dv,lk,Ba,yg,xp]
    rw [fA (sz:=1) (ex:=false) (pu:=false) (cs:=(y5 i).map fun j=> .ak (j+1) 0 w) (by rw [cd _ _ (by omega),cd _ _ (by omega),nS,yo (by omega)];exact g0) (by simp) (by omega) (by omega) (by decide) (by simp only [go_sem])]
    simp only [go_sem,ya,w4];refine ⟨_,d-1,rfl,by omega,i+1,by omega,.inr ⟨by omega,?_⟩⟩;have ij:∀j (h:j<((y5 i).map (·+1)++[1+i+1]).length),((y5 i).map (·+1)++[1+i+1])[j]=if j<i then j+1 else i+2:=fun j h=>by
     by_cases hj:j<i
     ·rw [yA hj,xk (by simpa using hj)];simp
     ·rw [yo hj,xA (by simp;omega)];simp;omega
    have li:((y5 i).map (·+1)++[1+i+1]).length=i+1:=by simp
    refine abO (a:=1+i+1+1+1) (ids:=(y5 i).map (·+1)++[1+i+1]) lt (by simp only [go_sem,ya,aq hv.pu]<;>rfl) (by rw [ej,xg,wu];rfl) (by rw [li,lt]) (fun j hj=>by
     rw [ij j hj];rw [li] at hj;by_cases jo:j<i
     ·rw [yA jo,cd _ _ (by omega),cd _ _ (by omega),cd _ _ (by omega),nS,yo (by omega),nS,yo (by omega),gr j jo,cm (by omega),cm (by omega),vC,vC]
     ·have A0:j=i:=by omega
      subst A0;rw [yo (by omega),cd _ _ (by omega),cd _ _ (by omega),show j+2=1+j+1 by omega,ej,MZ]) (by rw [lt];omega) (by
     unfold tr;refine yaN.2 ⟨fun x hx=>?_,?_⟩
     ·obtain ⟨j,hj,rfl⟩:=xG.1 hx;rw [ij j hj];split<;>omega
     ·rw [wX];intro x y hx hy hxy;rw [ij x hx,ij y hy]
      split<;>split<;>omega) (fun S q=>by simp only [go_sem,ya,q,au _ hv.pu]<;>rfl)
  ·right
   have:i=M.length:=by omega
   subst this;rcases aJ with ⟨mq,rfl⟩ | ⟨mq,hp,rfl,hM⟩
   ·omega
   ·rw [List.take_length] at hM;simp only [go_sem,ya,F8,lv,show ¬(M.length:Int)<M.length by omega];exact ⟨_,_,rfl,by simp,_,_,_,rfl,rfl,by simp only [go_sem,ya],hM⟩
def aAG (h:Rxi P L) (mf:Has P L 351 nv) (CE:Has P L 353 AP) (AZ:Has P L 354 AQ) (mN:Has P L 355 zg) {v:AV} {M:Mx} {W:Nat} (hv:cx bm v (M.map (wH RT))) (hw:wid W M) (Xx:0<W) (Db:W<=1000) (h0:0<M.length) (gO:M.length<=900) {K:Nat} (hk:b9 K M) (nP:1<=K) (hK:4^M.length*(K+1)<=400000000):
  ∃r q,aj P L 353 [v] (.az [r,q])/\cx bm (bZ r) (((ay M W).1.take (ay M W).2.length).map (wH RT))/\bq (bZ q) ((ay M W).2.map (fun p:Nat=>(p:Int))):=by
 have Fb:∀r,r∈M->r.length=W:=fun r hr=>mX hw hr
 obtain ⟨hp0,Mh,e1,RA⟩:=aAF (P:=P) (L:=L) hv Fb Xx Db h0 (by omega) AZ;have key:=awg (P:=P) (L:=L) h mN mf hw (by omega) rfl h0 (by omega) hk nP hK W;have hP:=Gg hw W;have lm:=BS M W;have Yn:∀r,r∈(ay M W).1->r.length=W:=fun r hr=>mX hP.wid hr
 have body:∃tm hp ct k pvs,D P L AP.body ⟨dN 0 [v],[],0,0⟩=some (.ret,⟨tm,hp,ct,0⟩)/\af tm 2= .ak 0 0 k/\af tm 3=oV (M.length+1) k/\bE hp W (ay M W).1/\dV hp M.length k pvs/\(ay M W).2.length=k/\pvs=(ay M W).2.map (fun p:Nat=>aa p):=by
  have ec:∀tm,bg P L (D P L) tm [] 0 (.call .heap (.c (.fn (.f 354) [] [])) [.t 13])=er P L (D P L) [] 0 .heap (.fn (.f 354) [] []) [af tm 13]:=fun tm=>rfl
  simp only [go_sem,ya,AP,ec,e1];generalize hq:D P L (.loop [0,4,5] DR) _=q;obtain ⟨ex,st,rfl,tm,hp,ct,k,pvs,rfl,rfl,hM,hV,gY,jY,t0,t4⟩:=bD hq key ⟨0,0,[],kS RA (.inl rfl) rfl (by omega) (by simp only [go_sem,ya,di]<;>rfl) (fun S q3 q4=>by simp only [go_sem,ya,q3]<;>rfl) ⟨rfl,rfl,by omega⟩⟩
  have Yo:k<=M.length:=by have:=hP.pv;omega
  have GW:∃ah aK,aG [0,4] ⟨tm,hp,ct,0⟩=⟨[(0,.ak 0 0 M.length),(4,oV (M.length+1) k)],ah,aK,0⟩/\bE ah W (ay M W).1/\dV ah M.length k pvs/\True:=by
   cases k
   all_goals
    simp only [oV] at t4 ⊢;exact kS hM hV lm (by omega) (by simp only [go_sem,ya,t0,t4,di]<;>rfl) (fun S q3 q4=>by simp only [go_sem,t0,t4,q3,q4,uj,xo,xz]<;>rfl) trivial
  obtain ⟨ah,aK,e2,q1,q2,_⟩:=GW;have g0:=q1.m;rcases k with _ | k1
  all_goals
   simp only [oV] at e2 ⊢;simp only [go_sem,ya,e2];rw [aoF g0 (by simp only [go_sem,oS,aev]) Yo];simp only [go_sem,ya];exact ⟨_,_,_,_,pvs,rfl,by simp only [go_sem,ya],by simp only [go_sem],q1,q2,gY,jY⟩
 obtain ⟨tm,hp,ct,k,pvs,hb,t2,t3,hM,hV,gY,jY⟩:=body;have Yo:k<=M.length:=by have:=hP.pv;omega
 rw [gY];have hA:∀k,k<=M.length->cx bm (.aE false k (oP W ((ay M W).1.take k))) (((ay M W).1.take k).map (wH RT)):=fun k hk=>by
  have:=BM false (ac2 (w:=W) (M:=(ay M W).1.take k) (fun r hr=>Yn r (List.mem_of_mem_take hr)))
  rwa [yk,yI,xt (by omega)] at this
 rcases k with _ | k1
 ·simp only [oV] at t3;refine ⟨.aE false 0 [],.ab,?_,hA 0 (by omega),?_⟩
  ·unfold aj;rw [aI CE,hb];simp only [go_sem,AP,t2,t3];exact am1 hM Yn (by omega)
  ·rw [yF gY];exact rI
 ·simp only [oV] at t3;have eJ:pvs.length=k1+1:=by rw [jY,yk,gY]
  have hg:ao hp ((ay M W).1.length+1)=some (.cells true true false 1 pvs):=by
   rcases hV with hV | hV
   ·cases hV
   ·rw [lm];exact hV
  refine ⟨.aE false (k1+1) (oP W ((ay M W).1.take (k1+1))),.bV false 1 (k1+1) pvs,?_,hA (k1+1) Yo,?_⟩
  ·unfold aj;rw [aI CE,hb]
   have:=aoI hM Yn (by omega) (by omega) hg eJ
   rw [lm] at this;simp only [go_sem,AP,t2,t3];exact this
  ·have:=JC false pvs
   rw [eJ] at this;show cZ _ _
   rw [wu];rw [jY] at this ⊢;exact this
def ata {A:List (List (List Nat))} (h:∀r,r∈A->∀s,s∈r->bJ s=0):(dP A).map (wH RT)=A:=by
 unfold dP;rw [wu]
 have:∀r,r∈A->(wH RT∘wH aZ) r=r:=fun r hr=>by
  simp only [uU,wu]
  have:∀s,s∈r->(RT∘aZ) s=s:=fun s hs=>(BL (h r hr s hs)).1.symm
  rw [vm this];exact ybU r
 rw [vm this];exact ybU A
def ahi (h:Rn P L) (qX:Has P L 352 Cr) (zq:Has P L 349 Eh) {u v:AV} {M:Mx} {x:List Rat} (hu:cx bm u (M.map (wH RT))) (hv:bm v (x.map RT)) (hw:∀r,r∈M->r.length=x.length) (hn:x.length<=1000) (hl:M.length<=1000) (h0:0<M.length) {K J:Nat} (ka:∀r,r∈M->∀z,z∈r->Hq K z) (kb:∀z,z∈x->Hq J z) (cU:2<=K) (Yl:2<=J) (hK:K+J<=4000000):
  aj P L 349 [u,v] (.bV false 1 M.length (cr (nE M x))):=by
 have lA:(nE M x).length=M.length:=by simp [nE]
 have Ym:∀y:List Rat,cr y=(y.map RT).map .str:=fun y=>by simp [cr]
 rw [Ym];have key:=fk (P:=P) (L:=L) (live:=[0,1,5,6]) (a:=F5)
  (I:=fun k st=>∃(i:Nat),st=⟨[(0,u),(1,v),(5,oV 0 i),(6,aa i)],oH 0 1 ((((nE M x).take i).map RT).map .str) [] i,oC 0 i,0⟩/\i+k=M.length)
  (Q:=fun ex st=>∃tm ct,st=⟨tm,oH 0 1 (((nE M x).map RT).map .str) [] M.length,ct,0⟩/\ex= .exit 0/\af tm 5=oV 0 M.length) ?_
 ·unfold aj;rw [aI zq];simp only [go_sem,Eh];generalize hq:D P L (.loop [0,1,5,6] F5) _=q;obtain ⟨ex,st,rfl,tm,ct,rfl,rfl,t5⟩:=bD hq (key M.length) ⟨0,by simp only [go_sem,ya,aw,oV,oH,oC,aq hu.pu,au _ hu.pu,aq hv.pu,au _ hv.pu]<;>rfl,by omega⟩
  obtain ⟨n,gZ⟩:∃n,M.length=n+1:=⟨M.length-1,by omega⟩;rw [gZ] at t5 ⊢;simp only [go_sem,yd,aw,t5,oV,oH];exact p9 (ej _ _ _) (by simp [lA,gZ]) (by decide)
 ·rintro k st ⟨i,rfl,iK⟩;have lu:∀hp:Hp,gg hp 1 u=some (aa M.length):=fun hp=>by have:=hu.len (hp:=hp);rwa [yk] at this
  by_cases hi:i<M.length
  ·left
   obtain ⟨r,rest,hr,e0⟩:=hu.bi (i:=i) (by rw [yk];exact hi)
   rw [yX] at hr;have hm:=yE hi;have e1:=aAD h qX hr hv (hw _ hm) (by rw [hw _ hm];exact hn) (ka _ hm) kb cU Yl hK
   have iL:(i:Int)<M.length:=by omega
   have hs:(((nE M x).take (i+1)).map RT).map AV.str=(((nE M x).take i).map RT).map AV.str++[.str (RT (fI M[i] x M[i].length))]:=by
    rw [yT (by omega),xg,xg];simp [nE]
   have w6:IntKind.wrap .i64 ((i:Int)+1)=((i+1:Nat):Int):=wrap64 (by omega) (by omega);unfold aj at e1
   cases i with
   | zero=>
    simp only [oV,oH,oC];simp only [go_sem,ya,yd,xj,yJ,yp,yh,F5,lu,iL,e0,hr.an,hv.an,e1,fY,w6];refine ⟨_,k-1,rfl,by omega,1,?_,by omega⟩;rw [hs];simp only [go_sem,ya,yd,aw,aq hu.pu,au _ hu.pu,aq hv.pu,au _ hv.pu,yat,vN,xp]<;>rfl
   | succ i=>
    simp only [oV,oH,oC];simp only [go_sem,ya,yd,yp,yh,F5,lu,iL,e0,hr.an,hv.an,e1]
    rw [fA (ex:=false) (pu:=true) (cs:=(((nE M x).take (i+1)).map RT).map .str) (by simp only [go_sem,ya]) (by simp [lA];omega) (by omega) (by omega) (by decide) (by simp only [go_sem])];simp only [go_sem,ya,yd,w6];refine ⟨_,k-1,rfl,by omega,i+1+1,?_,by omega⟩;rw [hs];simp only [go_sem,ya,yd,aw,aq hu.pu,au _ hu.pu,aq hv.pu,au _ hv.pu]<;>rfl
  ·right
   have:i=M.length:=by omega
   subst this;have lu:∀hp:Hp,gg hp 1 u=some (aa M.length):=fun hp=>by have:=hu.len (hp:=hp);rwa [yk] at this
   rw [yC (by omega)];simp only [go_sem,ya,F5,lu,show ¬(M.length:Int)<M.length by omega];exact ⟨_,_,rfl,by simp,_,_,rfl,rfl,by simp only [go_sem,ya]⟩
def ax1 (h:Rn P L) (AY:Has P L 347 Eg) (zq:Has P L 349 Eh) (mf:Has P L 351 nv) (qX:Has P L 352 Cr) {u v:AV} {A B:Mx} {w:Nat} (hu:cx bm u (A.map (wH RT))) {t:AV} (e1:aj P L 347 [v] t) (ht:cx bm (shut t) ((cC B w).map (wH RT))) {Bs:List (List (List Nat))} (hv:cx bm v Bs) (hA:∀r,r∈A->r.length=B.length) (hB:B.length<=1000) (RN:0<A.length) (hA1:A.length<=900) (jq:0<w) (jb:w<=900) {K:Nat} (ka:b9 K A) (kb:b9 K (cC B w)) (cU:2<=K) (hK:K<=1000000):
  ∃tm hp ct,D P L Cq.body ⟨dN 0 [u,v],[],0,0⟩=some (.ret,⟨tm,hp,ct,0⟩)/\af tm 4= .ak 0 0 A.length/\bE hp w (iE A B w):=by
 have lT:(cC B w).length=w:=by simp [cC]
 have lQ:(iE A B w).length=A.length:=by simp [iE]
 have Eu:∀r,r∈cC B w->r.length=B.length:=fun r hr=>by
  obtain ⟨c,_,rfl⟩:=wA.1 hr;rw [yk]
 have lu:∀hp:Hp,gg hp 1 u=some (aa A.length):=fun hp=>by have:=hu.len (hp:=hp);rwa [yk] at this
 unfold aj at e1;have key:=fk (P:=P) (L:=L) (live:=[0,5,6,7]) (a:=F3)
  (I:=fun d st=>∃(i:Nat),i+d=A.length/\((i=0/\st=⟨[(0,u),(5,shut t),(6,.ab),(7,aa i)],[],0,0⟩)\/(0<i/\∃hp,st=⟨[(0,u),(5,shut t),(6,.ak 0 0 i),(7,aa i)],hp,1+i,0⟩/\bE hp w ((iE A B w).take i))))
  (Q:=fun ex st=>∃tm hp ct,st=⟨tm,hp,ct,0⟩/\ex= .exit 0/\af tm 6= .ak 0 0 A.length/\bE hp w (iE A B w)) ?_
 ·have hb:∃tm hp ct,D P L Cq.body ⟨dN 0 [u,v],[],0,0⟩=some (.ret,⟨tm,hp,ct,0⟩)/\af tm 4= .ak 0 0 A.length/\bE hp w (iE A B w):=by
   simp only [go_sem,ya,Cq,hv.an,e1];generalize hq:D P L (.loop [0,5,6,7] F3) _=q;obtain ⟨ex,st,rfl,tm,hp,ct,rfl,rfl,t3,hM⟩:=bD hq (key A.length) ⟨0,by omega,.inl ⟨rfl,by simp only [go_sem,ya,aw,aq hu.pu,au _ hu.pu,aq ht.pu,au _ ht.pu]<;>rfl⟩⟩
   obtain ⟨ah,aK,e,q1,_⟩:=kS (live:=[6]) (tm:=tm) (tm':=[(6,.ak 0 0 A.length)]) (ct:=ct) (k:=0) (pvs:=[]) (R:=True) hM (.inl rfl) lQ (by omega) (by simp only [go_sem,t3,di]<;>rfl) (fun S q3 q4=>by simp only [go_sem,t3,q3]) trivial
   simp only [go_sem,e];exact ⟨_,_,_,rfl,by simp only [go_sem],q1⟩
  exact hb
 ·rintro d st ⟨i,hid,aJ⟩;by_cases hi:i<A.length
  ·left
   obtain ⟨r,rest,hr,e0⟩:=hu.bi (i:=i) (by rw [yk];exact hi)
   rw [yX] at hr;have hm:=yE hi;have lr:=hA _ hm;have e2:=ahi h qX zq (M:=cC B w) (x:=A[i]) ht hr (fun q hq=>by rw [Eu q hq,lr]) (by omega) (by omega) (by omega) (fun r hr=>rN kb hr) (rN ka hm) cU cU (by omega);rw [aqP (by rw [lr]),lT] at e2;have RM:(cr (mulR A[i] B w)).length=w:=by rw [qF,Tm]
   have iL:(i:Int)<A.length:=by omega
   have w4:IntKind.wrap .i64 ((i:Int)+1)=((i+1:Nat):Int):=wrap64 (by omega) (by omega);have lt:((iE A B w).take (i+1)).length=i+1:=by rw [yI];omega
   have MZ:gR ((iE A B w).take (i+1)) i=mulR A[i] B w:=by rw [cm (by omega),vC];simp [iE]
   unfold aj at e2;rcases aJ with ⟨mq,rfl⟩ | ⟨mq,hp,rfl,hM⟩
   ·subst mq;simp only [go_sem,ya,yd,xj,yJ,yp,yh,F3,lu,iL,e0,hr.an,ht.an,e2,Px,Dv,fY,w4];refine ⟨_,d-1,rfl,by omega,1,by omega,.inr ⟨by omega,?_⟩⟩;refine ⟨[(1,.cells true true false 1 (cr (mulR A[0] B w))),(0,.cells true false false 1 [.ak 1 0 w])],by simp only [go_sem,ya,yd,aw,aq hu.pu,au _ hu.pu,aq ht.pu,au _ ht.pu]<;>rfl,⟨?_,fun k hk=>?_⟩⟩
    ·rw [lt];rfl
    ·rw [lt] at hk
     have:k=0:=by omega
     subst this;rw [MZ];rfl
   ·have g0:=hM.m;have M0:((iE A B w).take i).length=i:=by rw [yI];omega
    rw [M0] at g0;have gr:=hM.r;rw [M0] at gr;simp only [go_sem,ya,yd,yp,yh,F3,lu,iL,e0,hr.an,ht.an,e2,Px,Dv]
    rw [fA (sz:=1) (ex:=false) (pu:=false) (cs:=(y5 i).map fun j=> .ak (j+1) 0 w) (by rw [cd _ _ (by omega),cd _ _ (by omega)];exact g0) (by simp) (by omega) (by omega) (by decide) (by simp only [go_sem])]
    simp only [go_sem,ya,w4];refine ⟨_,d-1,rfl,by omega,i+1,by omega,.inr ⟨by omega,?_⟩⟩;have ij:∀j (h:j<((y5 i).map (·+1)++[1+i]).length),((y5 i).map (·+1)++[1+i])[j]=j+1:=fun j h=>by
     by_cases hj:j<i
     ·rw [xk (by simpa using hj)];simp
     ·rw [xA (by simp;omega)];simp only [yG,yk,tV,List.length_singleton] at h
      simp;omega
    have li:((y5 i).map (·+1)++[1+i]).length=i+1:=by simp
    refine abO (a:=1+i+1+1) (ids:=(y5 i).map (·+1)++[1+i]) lt (by simp only [go_sem,ya,aq hu.pu,aq ht.pu]<;>rfl) (by rw [ej,xg,wu];rfl) (by rw [li,lt]) (fun j hj=>by
     rw [ij j hj];rw [li] at hj;by_cases jo:j<i
     ·rw [cd _ _ (by omega),cd _ _ (by omega),nS,yo (by omega),cd _ _ (by omega),gr j jo,cm (by omega),cm (by omega),vC,vC]
     ·have A0:j=i:=by omega
      subst A0;rw [MZ,cd _ _ (by omega),cd _ _ (by omega),nS,yo (by omega),show j+1=1+j by omega,ej]) (by rw [lt];omega) (by
     unfold tr;refine yaN.2 ⟨fun x hx=>?_,?_⟩
     ·obtain ⟨j,hj,rfl⟩:=xG.1 hx;rw [ij j hj];rw [li] at hj;omega
     ·rw [wX];intro x y hx hy hxy
      rw [ij x hx,ij y hy];omega) (fun S q=>by simp only [go_sem,ya,q,au _ hu.pu,au _ ht.pu]<;>rfl)
  ·right
   have:i=A.length:=by omega
   subst this;rcases aJ with ⟨mq,rfl⟩ | ⟨mq,hp,rfl,hM⟩
   ·omega
   ·rw [yC (by omega)] at hM;simp only [go_sem,ya,F3,lu,show ¬(A.length:Int)<A.length by omega];exact ⟨_,_,rfl,by simp,_,_,_,rfl,rfl,by simp only [go_sem,ya],hM⟩
def ax2 (h:Rn P L) (AY:Has P L 347 Eg) (LP:Has P L 348 Cq) (zq:Has P L 349 Eh) (mf:Has P L 351 nv) (qX:Has P L 352 Cr) {u v:AV} {A B:Mx} {w:Nat} (hu:cx bm u (A.map (wH RT))) {t:AV} (e1:aj P L 347 [v] t) (ht:cx bm (shut t) ((cC B w).map (wH RT))) {Bs:List (List (List Nat))} (hv:cx bm v Bs) (hA:∀r,r∈A->r.length=B.length) (hB:B.length<=1000) (RN:0<A.length) (hA1:A.length<=900) (jq:0<w) (jb:w<=900) {K:Nat} (ka:b9 K A) (kb:b9 K (cC B w)) (cU:2<=K) (hK:K<=1000000):
  ∃hp ct,er P L (D P L) [] 0 .heap (.fn (.f 348) [] []) [u,v]=some (.ak 0 0 A.length,hp,ct)/\bE hp w (iE A B w):=by
 obtain ⟨tm,hp,ct,hb,t2,hM⟩:=ax1 h AY zq mf qX hu e1 ht hv hA hB RN hA1 jq jb ka kb cU hK;refine ⟨hp,ct,?_,hM⟩;show ix P L (D P L) [] 0 348 [u,v]=_
 exact JG LP hb (.inr rfl) (by simp only [go_sem,Cq,t2])
end
def qY (n l:Nat):Bool:= !((decide (n<l)&&decide (l<=64))||decide (66<l))
def JL {n l:Nat} (h:qY n l=true):l<=n\/(64<l/\l<=66):=by
 unfold qY at h
 grind
def aqR (n:Nat):(yf n [48]).map AV.str=cr (yf n 0):=by
 simp [cr,WD]
abbrev KS:Ty:= .sl .str
def PA (s:List Nat):Prop:=s.length<9223372036854775808
def aaG:∀{ps:List (List AV)},(∀p,p∈ps->nN .str p)->∃l:List (List Nat),l.length=ps.length/\ps.flatten=l.map AV.str/\∀s,s∈l->PA s
 | [],_=>⟨[],rfl,rfl,fun _ h=>by cases h⟩
 | p::ps,h=>by
  obtain ⟨s,rfl,hs,_⟩:=h p wM;obtain ⟨l,h1,h2,h3⟩:=aaG (ps:=ps) (fun q hq=>h q (xY _ hq))
  exact ⟨s::l,by simp [h1],by simp [h2],fun q hq=>by
   rcases wJ.1 hq with rfl | hq
   ·exact hs
   ·exact h3 q hq⟩
def abP {l:List AV} (h:nN KS l):∃(v:AV) (m:List (List Nat)),l=[v]/\bm v m/\∀s,s∈m->PA s:=by
 rcases h with rfl | ⟨x,ps,rfl,h⟩
 ·exact ⟨_,[],rfl,rI,fun _ h=>by cases h⟩
 ·obtain ⟨m,h1,h2,h3⟩:=aaG h;refine ⟨_,m,rfl,?_,h3⟩;rw [h2,<-h1];exact OH x m
def abQ:∀{ps:List (List AV)},(∀p,p∈ps->nN KS p)->∃M:List (List (List Nat)),M.length=ps.length/\cF bm ps.flatten M/\∀r,r∈M->∀s,s∈r->PA s
 | [],_=>⟨[],rfl,trivial,fun _ h=>by cases h⟩
 | p::ps,h=>by
  obtain ⟨v,m,rfl,hv,hm⟩:=abP (h p wM);obtain ⟨M,h1,h2,h3⟩:=abQ (ps:=ps) (fun q hq=>h q (xY _ hq))
  exact ⟨m::M,by simp [h1],⟨hv,h2⟩,fun q hq=>by
   rcases wJ.1 hq with rfl | hq
   ·exact hm
   ·exact h3 q hq⟩
def atb {l:List AV} (h:nN (.sl KS) l):∃(v:AV) (M:List (List (List Nat))),l=[v]/\cx bm v M/\∀r,r∈M->∀s,s∈r->PA s:=by
 rcases h with rfl | ⟨x,ps,rfl,h⟩
 ·exact ⟨_,[],rfl,SM,fun _ h=>by cases h⟩
 ·obtain ⟨M,h1,h2,h3⟩:=abQ h;refine ⟨_,M,rfl,?_,h3⟩;rw [<-h1];exact BM x h2
def sm (f:Nat->Rat):Nat->Rat
 | 0=>0
 | n+1=>sm f n+f n
def ep {f g:Nat->Rat}:∀{n:Nat},(∀i,i<n->f i=g i)->sm f n=sm g n
 | 0,_=>rfl
 | n+1,h=>by rw [sm,sm,ep (n:=n) (fun i hi=>h i (by omega)),h n (by omega)]
def qC {f:Nat->Rat}:∀{n:Nat},(∀i,i<n->f i=0)->sm f n=0
 | 0,_=>rfl
 | n+1,h=>by rw [sm,qC (n:=n) (fun i hi=>h i (by omega)),h n (by omega)];grind
def sT (f g:Nat->Rat):∀n,sm (fun i=>f i+g i) n=sm f n+sm g n
 | 0=>by simp only [sm];grind
 | n+1=>by simp only [sm];rw [sT f g n];grind
def ju (a:Rat) (f:Nat->Rat):∀n,sm (fun i=>a*f i) n=a*sm f n
 | 0=>by simp only [sm];grind
 | n+1=>by simp only [sm];rw [ju a f n];grind
def Aj (f:Nat->Nat->Rat) (m:Nat):∀n,sm (fun i=>sm (fun j=>f i j) m) n=sm (fun j=>sm (fun i=>f i j) n) m
 | 0=>(qC (f:=fun j=>sm (fun i=>f i j) 0) (n:=m) (fun i _=>rfl)).symm
 | n+1=>by
  simp only [sm];rw [Aj f m n,<-sT]
def rQ {f:Nat->Rat} {n j:Nat} (hj:j<n) (h:∀i,i<n->i≠j->f i=0):sm f n=f j:=by
 induction n with
 | zero=>omega
 | succ n ih=>
  rw [sm];by_cases M1:j=n
  ·subst M1;rw [qC (fun i hi=>h i (by omega) (by omega))];grind
  ·rw [ih (by omega) (fun i hi=>h i (by omega)),h n (by omega) (fun e=>M1 e.symm)];grind
def E (m:Mx) (i c:Nat):Rat:=aW (gR m i) c
def fu (r:Nat) (g:Nat->Nat->Rat) (w:Nat) (v:Nat->Rat):Prop:=∃x:Nat->Rat,∀k,k<w->v k=sm (fun j=>x j*g j k) r
section
variable {r w:Nat} {g:Nat->Nat->Rat} {u v:Nat->Rat}
def fu.congr (h:fu r g w u) (e:∀k,k<w->v k=u k):fu r g w v:=by
 obtain ⟨x,hx⟩:=h;exact ⟨x,fun k hk=>by rw [e k hk,hx k hk]⟩
def fu.zero:fu r g w (fun _=>0):=⟨fun _=>0,fun k _=>by rw [qC (fun i _=>by grind)]⟩
def fu.add (h:fu r g w u) (h2:fu r g w v):fu r g w (fun k=>u k+v k):=by
 obtain ⟨x,hx⟩:=h;obtain ⟨y,hy⟩:=h2;refine ⟨fun j=>x j+y j,fun k hk=>?_⟩;show u k+v k=sm (fun j=>(x j+y j)*g j k) r
 rw [hx k hk,hy k hk,<-sT];exact ep (fun i _=>by grind)
def fu.mul (a:Rat) (h:fu r g w u):fu r g w (fun k=>a*u k):=by
 obtain ⟨x,hx⟩:=h;refine ⟨fun j=>a*x j,fun k hk=>?_⟩;show a*u k=sm (fun j=>(a*x j)*g j k) r
 rw [hx k hk,<-ju];exact ep (fun i _=>by grind)
def fu.row {j:Nat} (hj:j<r):fu r g w (g j):=by
 refine ⟨fun i=>if i=j then 1 else 0,fun k _=>?_⟩;show g j k=sm (fun i=>(if i=j then 1 else 0)*g i k) r
 rw [rQ hj (fun i _ hi=>by rw [yo hi];grind),yA rfl];grind
def fu.sum {s:Nat} {h:Nat->Nat->Rat} {x:Nat->Rat} (hs:∀i,i<s->fu r g w (h i)):fu r g w (fun k=>sm (fun i=>x i*h i k) s):=by
 induction s with
 | zero=>exact fu.zero
 | succ s ih=>
  simp only [sm];exact (ih (fun i hi=>hs i (by omega))).add ((hs s (by omega)).mul (x s))
def fu.trans {s:Nat} {h:Nat->Nat->Rat} (hv:fu s h w v) (hs:∀i,i<s->fu r g w (h i)):fu r g w v:=by
 obtain ⟨x,hx⟩:=hv
 exact (fu.sum (x:=x) hs).congr hx
def fu.dot (h:fu r g w v) {z:Nat->Rat} (hz:∀j,j<r->sm (fun k=>g j k*z k) w=0):sm (fun k=>v k*z k) w=0:=by
 obtain ⟨x,hx⟩:=h;have e:sm (fun k=>v k*z k) w=sm (fun k=>sm (fun j=>x j*(g j k*z k)) r) w:=ep (fun k hk=>by
  rw [hx k hk]
  have:=ju (z k) (fun j=>x j*g j k) r
  rw [show sm (fun j=>x j*g j k) r*z k=z k*sm (fun j=>x j*g j k) r by grind,<-this]
  exact ep (fun i _=>by grind))
 rw [e,Aj];refine qC (fun j hj=>?_);rw [ju,hz j hj];grind
end
def atc {m:Mx} {w c:Nat} {s:Mx×List Nat} (h:Pv m w c s) (hc:c<w) (hp:a8 s c<s.1.length) {i k:Nat} (hi:i<s.1.length) (hk:k<w):
  E (ir s c).1 i k=if i=s.2.length then E (bN s.1 s.2.length (a8 s c)) i k*(E (bN s.1 s.2.length (a8 s c)) s.2.length c)⁻¹ else E (bN s.1 s.2.length (a8 s c)) i k-E (bN s.1 s.2.length (a8 s c)) i c*(E (bN s.1 s.2.length (a8 s c)) s.2.length k*(E (bN s.1 s.2.length (a8 s c)) s.2.length c)⁻¹):=by
 have h1:=(h.a8 c).1;have lJ:=h.wid.bN (i:=s.2.length) (j:=a8 s c) (by omega) hp;have MV:=z8 s.1 s.2.length (a8 s c);have iI:=h.eL hp;have MY:=Ai s c;have wi:=lJ i (by omega);have wa:=lJ s.2.length (by omega);have ea:∀k,k<w->E (eL s c) s.2.length k=E (bN s.1 s.2.length (a8 s c)) s.2.length k*(E (bN s.1 s.2.length (a8 s c)) s.2.length c)⁻¹:=fun k hk=>by
  unfold E eL pZ;rw [ib,yA ⟨rfl,by omega⟩,db (by rw [Ag rfl];omega),JJ (by omega) (by omega),db (show k<_ by omega)]
  grind
 have ei:i≠s.2.length->gR (eL s c) i=gR (bN s.1 s.2.length (a8 s c)) i:=fun ck=>by
  unfold eL pZ;rw [ib,yo (fun q=>ck q.1.symm)]
 unfold ir;rw [yA hp];show aW (gR (cK (eL s c) s.2.length c s.1.length) i) k=_
 rw [TW (by omega)];by_cases kJ:i=s.2.length
 ·rw [yo (fun q=>q.2.1 kJ),yA kJ,kJ];exact ea k hk
 ·rw [yo kJ];have wsi:=iI i (by omega);have wsa:=iI s.2.length (by omega);by_cases hz:aW (gR (eL s c) i) c≠0
  ·rw [yA ⟨hi,kJ,hz⟩,db (by rw [Ag (by omega)];omega),JJ (by omega) (by omega) _];have e2:=ea k hk;unfold E at e2 ⊢;rw [db (show k<(gR (eL s c) s.2.length).length by omega)] at e2;rw [e2];have e3:=ei kJ;simp only [e3];rw [db (show k<(gR (bN s.1 s.2.length (a8 s c)) i).length by omega)]
   grind
  ·rw [yo (fun q=>hz q.2.2)];have eF:aW (gR (eL s c) i) c=0:=by simpa using hz
   rw [ei kJ] at eF ⊢;unfold E;rw [eF];grind
structure zt (m:Mx) (w c:Nat) (s:Mx×List Nat):Prop where
 pv:Pv m w c s
 up:∀i,i<m.length->fu m.length (E m) w (E s.1 i)
 down:∀i,i<m.length->fu m.length (E s.1) w (E m i)
 one:∀i (h:i<s.2.length),∀j,j<m.length->E s.1 j (s.2[i])=if j=i then 1 else 0
 low:∀i,s.2.length<=i->i<m.length->∀k,k<c->E s.1 i k=0
 left:∀i (h:i<s.2.length),∀k,k<s.2[i]->E s.1 i k=0
 inc:∀i j (hi:i<s.2.length) (hj:j<s.2.length),i<j->s.2[i]<s.2[j]
def ax3 {m:Mx} {a p i k:Nat} (ha:a<m.length) (hp:p<m.length) (hi:i<m.length):E (bN m a p) i k=if i=p then E m a k else if i=a then E m p k else E m i k:=by
 unfold E bN;rw [ib,ib];simp only [xD];by_cases h1:i=p
 ·subst h1;simp [hi]
 ·rw [yo (fun q=>h1 q.1.symm),yo h1];by_cases h2:i=a
  ·subst h2;simp [hi]
  ·rw [yo (fun q=>h2 q.1.symm),yo h2]
def zt.step {m:Mx} {w c:Nat} {s:Mx×List Nat} (h:zt m w c s) (hc:c<w):zt m w (c+1) (ir s c):=by
 have hl:=h.pv.len;have gD:=h.pv.a8 c;by_cases hp:a8 s c<s.1.length
 ·have eJ:(ir s c).2=s.2++[c]:=by unfold ir;rw [yA hp]
  have ha:s.2.length<s.1.length:=by omega
  have hS:∀i k,i<m.length->E (bN s.1 s.2.length (a8 s c)) i k=if i=a8 s c then E s.1 s.2.length k else if i=s.2.length then E s.1 (a8 s c) k else E s.1 i k:=fun i k hi=>ax3 ha hp (by omega)
  have ck:E (bN s.1 s.2.length (a8 s c)) s.2.length c≠0:=by
   have:=TV s.1 c (s.1.length-s.2.length) s.2.length (by unfold a8 at hp;omega)
   rw [hS _ _ (by omega)];unfold a8
   split
   ·rename_i q;rw [<-q] at this;exact this
   ·rw [yA rfl];exact this
  have hg:=fun (i k:Nat) (hi:i<m.length) (hk:k<w)=>atc h.pv hc hp (i:=i) (k:=k) (by omega) hk
  have LQ:∀i,s.2.length<=i->i<m.length->∀k,k<c->E (bN s.1 s.2.length (a8 s c)) i k=0:=fun i hi zS k hk=>by
   rw [hS i k zS]
   split
   ·exact h.low _ (yq _) (by omega) k hk
   ·split
    ·exact h.low _ gD.1 (by omega) k hk
    ·exact h.low i hi zS k hk
  have ax4:∀i,i<s.2.length->∀k,E (bN s.1 s.2.length (a8 s c)) i k=E s.1 i k:=fun i hi k=>by
   rw [hS i k (by omega),yo (by omega),yo (by omega)]
  have RO:∀i (hi:i<s.2.length),s.2[i]<c:=fun i hi=>h.pv.lt _ (yE hi)
  refine ⟨h.pv.step,fun i hi=>?_,fun i hi=>?_,fun i hi j hj=>?_,fun i hi zS k hk=>?_,fun i hi k hk=>?_,fun i j hi hj CM=>?_⟩
  ·
   have mc:∀j,j<m.length->fu m.length (E m) w (E (bN s.1 s.2.length (a8 s c)) j):=fun j hj=>by
    by_cases q1:j=a8 s c
    ·exact (h.up _ (show s.2.length<m.length by omega)).congr (fun k _=>by rw [hS j k hj,yA q1])
    ·by_cases q2:j=s.2.length
     ·exact (h.up _ (show a8 s c<m.length by omega)).congr (fun k _=>by rw [hS j k hj,yo q1,yA q2])
     ·exact (h.up j hj).congr (fun k _=>by rw [hS j k hj,yo q1,yo q2])
   by_cases kJ:i=s.2.length
   ·refine ((mc i hi).mul (E (bN s.1 s.2.length (a8 s c)) s.2.length c)⁻¹).congr (fun k hk=>?_);rw [hg i k hi hk,yA kJ];grind
   ·refine ((mc i hi).add ((mc s.2.length (by omega)).mul (-(E (bN s.1 s.2.length (a8 s c)) i c)*(E (bN s.1 s.2.length (a8 s c)) s.2.length c)⁻¹))).congr (fun k hk=>?_);rw [hg i k hi hk,yo kJ];grind
  ·
   have Vd:∀j,j<m.length->fu m.length (E (ir s c).1) w (E (bN s.1 s.2.length (a8 s c)) j):=fun j hj=>by
    have ra:=fu.row (r:=m.length) (g:=E (ir s c).1) (w:=w) (show s.2.length<m.length by omega);have rj:=fu.row (r:=m.length) (g:=E (ir s c).1) (w:=w) hj;by_cases p6:j=s.2.length
    ·refine (ra.mul (E (bN s.1 s.2.length (a8 s c)) s.2.length c)).congr (fun k hk=>?_);rw [hg _ k (by omega) hk,yA rfl,p6]
     have:=tu _ ck
     grind
    ·refine (rj.add (ra.mul (E (bN s.1 s.2.length (a8 s c)) j c))).congr (fun k hk=>?_);rw [hg j k hj hk,yo p6,hg _ k (by omega) hk,yA rfl];grind
   refine (h.down i hi).trans (fun j hj=>?_);by_cases q1:j=s.2.length
   ·refine (Vd (a8 s c) (by omega)).congr (fun k _=>?_);rw [hS _ k (by omega),yA rfl,q1]
   ·by_cases q2:j=a8 s c
    ·refine (Vd s.2.length (by omega)).congr (fun k _=>?_);rw [hS _ k (by omega),yo (fun e=>q1 (by omega)),yA rfl,q2]
    ·refine (Vd j hj).congr (fun k _=>?_);rw [hS j k hj,yo q2,yo q1]
  ·
   have fV:=tu _ ck;simp only [eJ,yG,yy,yO] at hi ⊢;by_cases e9:i<s.2.length
   ·rw [xk e9];have Yp:s.2[i]<w:=by have:=RO i e9;omega
    have ha0:E (bN s.1 s.2.length (a8 s c)) s.2.length (s.2[i])=0:=LQ _ (yq _) (by omega) _ (RO i e9);rw [hg j _ hj Yp];by_cases p6:j=s.2.length
    ·rw [yA p6,p6,ha0,yo (by omega)];grind
    ·rw [yo p6,ha0];have fT:=h.one i e9;rw [hS j _ hj];by_cases q1:j=a8 s c
     ·rw [yA q1,fT _ (by omega),yo (by omega),yo (by omega)];grind
     ·rw [yo q1,yo p6,fT j hj];grind
   ·have:i=s.2.length:=by omega
    subst this;rw [xA (yq _)];simp only [ub,xy];rw [hg j c hj hc];by_cases p6:j=s.2.length
    ·rw [yA p6,yA p6,p6];exact fV
    ·rw [yo p6,yo p6,fV];grind
  ·
   simp only [eJ,yG,yy,yO] at hi;have fV:=tu _ ck;rw [hg i k zS (by omega),yo (by omega)];by_cases jT:k=c
   ·subst jT;rw [fV];grind
   ·rw [LQ i (by omega) zS k (by omega),LQ s.2.length (yq _) (by omega) k (by omega)];grind
  ·
   simp only [eJ,yG,yy,yO] at hi;simp only [eJ] at hk;by_cases e9:i<s.2.length
   ·rw [xk e9] at hk;have jT:k<c:=by have:=RO i e9;omega
    rw [hg i k (by omega) (by omega),yo (by omega),LQ s.2.length (yq _) (by omega) k jT,ax4 i e9 k,h.left i e9 k hk];grind
   ·have:i=s.2.length:=by omega
    subst this;rw [xA (yq _)] at hk;simp only [ub,xy] at hk;rw [hg _ k (by omega) (by omega),yA rfl,LQ _ (yq _) (by omega) k hk];grind
  ·
   simp only [eJ,yG,yy,yO] at hi hj ⊢;rw [xk (show i<s.2.length by omega)];by_cases M1:j<s.2.length
   ·rw [xk M1];exact h.inc i j (by omega) M1 CM
   ·rw [xA (by omega)];simp only [show j-s.2.length=0 by omega,xy];exact RO i (by omega)
 ·rw [Tk hp]
  refine ⟨⟨h.pv.len,h.pv.wid,h.pv.pv,fun p hp=>by have:=h.pv.lt p hp;omega⟩,h.up,h.down,h.one,fun i hi zS k hk=>?_,h.left,h.inc⟩;by_cases jT:k=c
  ·subst jT
   have:∀d p,kI s.1 k d p=p+d->∀i,p<=i->i<p+d->aW (gR s.1 i) k=0:=fun d=>by
    induction d with
    | zero=>intro p _ i h1 h2;omega
    | succ d ih=>
     intro p hf i h1 h2;simp only [kI] at hf
     split at hf
     ·rename_i h0;by_cases hip:i=p
      ·rw [hip];exact h0
      ·exact ih (p+1) (by omega) i (by omega) (by omega)
     ·omega
   have hf:=UD s.1 k (s.1.length-s.2.length) s.2.length;unfold a8 at hp;exact this (s.1.length-s.2.length) s.2.length (by omega) i hi (by omega)
  ·exact h.low i hi zS k (by omega)
def sL {m:Mx} {w:Nat} (hw:wid w m):∀c,c<=w->zt m w c (ay m c)
 | 0,_=>⟨Gg hw 0,fun i hi=>fu.row hi,fun i hi=>fu.row hi,fun i hi=>by simp [ay] at hi,fun i _ _ k hk=>by omega,fun i hi=>by simp [ay] at hi,fun i j hi=>by simp [ay] at hi⟩
 | c+1,hc=>(sL hw c (by omega)).step (by omega)
section
variable {m:Mx} {w:Nat}
def Dc (pv:List Nat) (c:Nat):Nat:=(pv.filter (fun p=>decide (p<c))).length
def aqS {pv:List Nat} (hn:pv.Nodup) (c:Nat):Dc pv (c+1)=Dc pv c+if pv.contains c=true then 1 else 0:=by
 unfold Dc
 induction pv with
 | nil=>rfl
 | cons p r ih=>
  have gZ:=xQ.1 hn;have ih:=ih gZ.2;simp only [List.filter_cons,List.contains_cons];by_cases h1:p=c
  ·subst h1
   have:r.contains p=false:=by simpa using gZ.1
   rw [this] at ih;simp at ih ⊢;omega
  ·have e:(c==p)=false:=by simpa using fun q=>h1 q.symm
   rw [e,Bool.false_or];by_cases h2:p<c
   ·rw [yA (by simp;omega),yA (by simp;omega),yy,yy,ih];omega
   ·rw [yo (by simp;omega),yo (by simp;omega)];exact ih
def atd {pv:List Nat} {w:Nat} (h:∀p,p∈pv->p<w):Dc pv w=pv.length:=by
 unfold Dc;rw [List.filter_eq_self.2 (fun p hp=>by simpa using h p hp)]
def abR {R:Mx} {pv:List Nat} (hn:pv.Nodup) (n:Nat):∀c,(Es R pv n c).length+Dc pv c=c
 | 0=>by
  have:Dc pv 0=0:=by simp [Dc]
  rw [this];rfl
 | c+1=>by
  have ih:=abR (R:=R) hn n c;rw [aqS hn,Es]
  split
  ·omega
  ·rw [yG];simp only [yy,yO];omega
def zt.nodup {c:Nat} {s:Mx×List Nat} (h:zt m w c s):s.2.Nodup:=by
 unfold tr;rw [wX];intro i j hi hj CM e
 have:=h.inc i j hi hj CM;omega
def ate (hw:wid w m):(ahc m w).length+(ay m w).2.length=w:=by
 have h:=sL hw w (yq w)
 have:=abR (R:=(ay m w).1) h.nodup w w
 rwa [atd h.pv.lt] at this
def Ua {R:Mx} {pv:List Nat} {n c:Nat} (hn:pv.Nodup) (aU:∀p,p∈pv->p<n) (hc:c<n) (zT:c∉pv):∀i,i<=pv.length->∀k,k<n->aW (oO R pv n c i) k=(if k=c then 1 else 0)+sm (fun j=>if k=pv.getD j 0 then -(E R j c) else 0) i
 | 0,_,k,hk=>by
  rw [db (by rw [TX];exact hk)]
  simp only [oO,uI,List.getElem_replicate,sm];by_cases h:c=k
  ·rw [yA h,yA h.symm];grind
  ·rw [yo h,yo (fun e=>h e.symm)];grind
 | i+1,hi,k,hk=>by
  have ih:=Ua (R:=R) hn aU hc zT i (by omega) k hk;have hg:pv.getD i 0=pv[i]:=by simp [yM,y9 (show i<pv.length by omega)]
  rw [db (by rw [TX];exact hk)] at ih ⊢
  simp only [oO,uI,sm];by_cases h:pv.getD i 0=k
  ·rw [yA h,yA h.symm];have jT:k≠c:=fun e=>zT (by rw [<-e,<-h,hg];exact yE _)
   have hz:sm (fun j=>if k=pv.getD j 0 then -(E R j c) else 0) i=0:=qC (fun j hj=>by
    rw [yo];intro e;have ME:pv.getD j 0=pv[j]:=by simp [yM,y9 (show j<pv.length by omega)]
    rw [<-h,hg,ME] at e
    exact (wX.1 hn) j i (by omega) (by omega) hj e.symm)
   rw [yo jT,hz];show -(aW (gR R i) c)=_
   unfold E;grind
  ·rw [yo h,yo (show ¬k=pv.getD i 0 from fun e=>h e.symm),ih];grind
def zt.ker {s:Mx×List Nat} (h:zt m w w s) {c:Nat} (hc:c<w) (zT:c∉s.2):∀i,i<m.length->sm (fun k=>E m i k*aW (oO s.1 s.2 w c s.2.length) k) w=0:=by
 have hg:=fun k (hk:k<w)=>Ua (R:=s.1) h.nodup h.pv.lt hc zT s.2.length (yq _) k hk
 have rows:∀j,j<m.length->sm (fun k=>E s.1 j k*aW (oO s.1 s.2 w c s.2.length) k) w=0:=fun j hj=>by
  have e:sm (fun k=>E s.1 j k*aW (oO s.1 s.2 w c s.2.length) k) w=sm (fun k=>E s.1 j k*(if k=c then 1 else 0)) w+sm (fun i=>E s.1 j (s.2.getD i 0)* -(E s.1 i c)) s.2.length:=by
   rw [ep (g:=fun k=>E s.1 j k*(if k=c then 1 else 0)+sm (fun i=>E s.1 j k*(if k=s.2.getD i 0 then -(E s.1 i c) else 0)) s.2.length) (fun k hk=>by
    rw [hg k hk,ju];grind),sT,Aj]
   congr 1
   refine ep (fun i hi=>?_);have Fc:s.2.getD i 0=s.2[i]:=by simp [yM,y9 hi]
   rw [rQ (j:=s.2.getD i 0) (by rw [Fc];exact h.pv.lt _ (yE hi)) (fun k _ ck=>by rw [yo ck];grind),yA rfl]
  rw [e,rQ hc (fun k _ ck=>by rw [yo ck];grind),yA rfl]
  by_cases Yq:j<s.2.length
  ·rw [rQ Yq (fun i hi ck=>by
    have Fc:s.2.getD i 0=s.2[i]:=by simp [yM,y9 hi]
    rw [Fc,h.one i hi j hj,yo (fun e=>ck e.symm)];grind)]
   have ME:s.2.getD j 0=s.2[j]:=by simp [yM,y9 Yq]
   rw [ME,h.one j Yq j hj,yA rfl];grind
  ·rw [h.low j (by omega) hj c hc,qC (fun i hi=>by
    have Fc:s.2.getD i 0=s.2[i]:=by simp [yM,y9 hi]
    rw [Fc,h.one i hi j hj,yo (by omega)];grind)];grind
 intro i hi;exact (h.down i hi).dot rows
end
def under {r s:Nat} (QK:r<s) (A:Nat->Nat->Rat):∃u:Nat->Rat,(∃i,i<s/\u i≠0)/\∀j,j<r->sm (fun i=>A j i*u i) s=0:=by
 let m:Mx:=(y5 r).map fun j=>(y5 s).map fun i=>A j i
 have lm:m.length=r:=by simp [m]
 have hw:wid s m:=fun i hi=>by rw [cm hi];simp [m]
 have hE:∀j i,j<r->i<s->E m j i=A j i:=fun j i hj hi=>by
  unfold E;rw [cm (by omega),db (by simp [m];omega)];simp [m]
 have h:=sL hw s (yq s);have hk:=ate hw;have jY:=h.pv.pv;have zp:0<(ahc m s).length:=by omega
 obtain ⟨c,hc,aAH,_⟩:=Tl (yE zp);have zT:c∉(ay m s).2:=by simpa using aAH
 refine ⟨fun k=>aW (oO (ay m s).1 (ay m s).2 s c (ay m s).2.length) k,⟨c,hc,?_⟩,fun j hj=>?_⟩
 ·have:=Ua (R:=(ay m s).1) h.nodup h.pv.lt hc zT (ay m s).2.length (yq _) c hc
  simp only [this]
  rw [qC (fun i hi=>by
   rw [yo];intro e;have Fc:(ay m s).2.getD i 0=(ay m s).2[i]:=by simp [yM,y9 hi]
   exact zT (by rw [e,Fc];exact yE _))]
  simp only [xE];intro e
  have:(1:Rat)+0=1:=by grind
  rw [this] at e;exact absurd e (by decide)
 ·have:=h.ker hc zT j (by omega)
  rw [ep (g:=fun k=>A j k*aW (oO (ay m s).1 (ay m s).2 s c (ay m s).2.length) k) (fun k hk=>by rw [hE j k hj hk])] at this;exact this
section
variable {m:Mx} {w:Nat}
def zt.pvm {s:Mx×List Nat} (h:zt m w w s) {k:Nat} (hk:k∈s.2):∃i,∃hi:i<s.2.length,s.2[i]=k/\i<m.length:=by
 obtain ⟨i,hi,e⟩:=xG.1 hk
 exact ⟨i,hi,e,by have:=h.pv.pv;omega⟩
end
def eR (ids W:List Nat):List AV:=xW (fun i w=>AV.ak i 0 w) ids W
def cQ (ids W:List Nat) (r:Nat):List AV:=eR ids W++yf r .ab
def Dz {ids W:List Nat} (h:ids.length=W.length):(eR ids W).length=W.length:=by simp [eR,h]
def Jq {ids W:List Nat} {i w:Nat} (h:ids.length=W.length):eR (ids++[i]) (W++[w])=eR ids W++[.ak i 0 w]:=by
 unfold eR;rw [List.zipWith_append h];rfl
def ac3 (w:Nat):∀ids:List Nat,eR ids (yf ids.length w)=ids.map fun i=>AV.ak i 0 w
 | []=>rfl
 | i::ids=>by
  have:=ac3 w ids
  unfold eR at this ⊢;rw [yy,xP,yan,this,xd]
def atf {ids W:List Nat} {i:Nat} (h1:i<ids.length) (h2:i<W.length):(eR ids W)[i]'(by simp [eR];omega)= .ak ids[i] 0 W[i]:=by simp [eR]
def ZK:∀r:Nat,gG (yf r AV.ab)=[]
 | 0=>rfl
 | r+1=>by rw [xP,gG,ZK r];rfl
def SN (r:Nat):∀{ids W:List Nat},ids.length=W.length->gG (cQ ids W r)=ids
 | [],[],_=>ZK r
 | i::ids,w::W,h=>by
  have ih:=SN r (ids:=ids) (W:=W) (by simpa using h);have e:cQ (i::ids) (w::W) r= .ak i 0 w::cQ ids W r:=rfl;rw [e,gG,ih];rfl
 | [],_::_,h=>by simp at h
 | _::_,[],h=>by simp at h
def aaH (f:Nat->Option Nat):∀r:Nat,eH f (yf r AV.ab)=yf r .ab
 | 0=>rfl
 | r+1=>by rw [xP,eH,aaH f r];rfl
def Tp {f:Nat->Option Nat} (r:Nat):∀{ids W:List Nat} (k:Nat),ids.length=W.length->(∀i (h:i<ids.length),f ids[i]=some (k+i))->eH f (cQ ids W r)=cQ (wo k ids.length) W r
 | [],[],_,_,_=>aaH f r
 | i::ids,w::W,k,h,hf=>by
  have h0:=hf 0 (by simp);simp only [xy,y7] at h0;have ih:=Tp (f:=f) r (ids:=ids) (W:=W) (k+1) (by simpa using h) (fun j hj=>by
   have:=hf (j+1) (by simpa using hj)
   simp only [wB] at this
   rw [this];congr 1;omega)
  have e:cQ (i::ids) (w::W) r= .ak i 0 w::cQ ids W r:=rfl;rw [e,eH,ih,yy,vT];simp only [b8,h0];rfl
 | [],_::_,_,h,_=>by simp at h
 | _::_,[],_,h,_=>by simp at h
def aaI {sz:Nat} {y:Bool} (hs:0<sz):∀(ids W:List Nat) (T:List (List AV)) (hp:Hp) (n:Nat),ids.length+4<=n->ids.length=T.length->W.length=T.length->(∀i (h1:i<ids.length) (h2:i<T.length) (h3:i<W.length),T[i].length=W[i]*sz/\∃rw,ao hp ids[i]=some (.cells rw true y sz T[i]))->
  ∃ah,cD n hp (eR ids W)=some (xW (fun w r=> .aE y w r) W T,ah)/\∀j,j∉ids->ao ah j=ao hp j
 | [],[],[],hp,n+1,_,_,_,_=>⟨hp,rfl,fun _ _=>rfl⟩
 | [],_,[],hp,0,h,_,_,_=>by simp at h
 | [],_,_::_,_,_,_,h,_,_=>by simp at h
 | [],_::_,[],_,_,_,_,h,_=>by simp at h
 | _::_,_,[],_,_,_,h,_,_=>by simp at h
 | _::_,[],_::_,_,_,_,_,h,_=>by simp at h
 | i::ids,w::W,r::T,hp,n+1,hn,hl,hW,h=>by
  obtain ⟨l0,bS,g0⟩:=h 0 (by simp) (by simp) (by simp);simp only [xy] at l0 g0;simp only [yy] at hn hl hW;obtain ⟨m,rfl⟩:∃m,n=m+1+1:=⟨n-2,by omega⟩;have hz:nT (m+1) hp i=some (y,sz,r,if bS=true then aT hp i (.cells false true y sz r) else hp):=by
   rw [JE,g0];cases bS<;>rfl
  have KR:∃a6,(if bS=true then aT hp i (.cells false true y sz r) else hp)=a6/\∀j,ao a6 j=if j=i then some (.cells (if bS=true then false else bS) true y sz r) else ao hp j:=by
   refine ⟨_,rfl,fun j=>?_⟩
   cases bS with
   | true=>simp only [xE];rw [fM g0]
   | false=>
    simp only [yN,xn]
    split
    ·rename_i e;rw [e,g0]
    ·rfl
  obtain ⟨a6,e1,g1⟩:=KR;rw [e1] at hz;obtain ⟨ah,e2,g2⟩:=aaI hs ids W T a6 (m+1+1) (by omega) (by omega) (by omega) (fun k h1 h2 h3=>by
   obtain ⟨a,E6,b⟩:=h (k+1) (by simpa using h1) (by simpa using h2) (by simpa using h3);simp only [wB] at a b;refine ⟨a,?_⟩;rw [g1]
   split
   ·rename_i e;rw [e,g0] at b;simp only [ye,Obj.cells.injEq] at b;exact ⟨_,by rw [b.2.2.2.2]⟩
   ·exact ⟨E6,b⟩)
  refine ⟨ah,?_,fun j hj=>?_⟩
  ·have e:eR (i::ids) (w::W)= .ak i 0 w::eR ids W:=rfl;rw [e,NS,JD,hz,lP y l0 hs,OV,e2,OW];rfl
  ·simp only [wJ,not_or] at hj;rw [g2 j hj.2,g1,yo hj.1]
def gT (T:List (List AV)) (i:Nat):List AV:=T.getD i []
def mG {T:List (List AV)} {i:Nat} (h:i<T.length):gT T i=T[i]:=by
 simp [gT,yM,y9 h]
def awi (T:List (List AV)) (i j:Nat) (c:List AV):gT (T.set i c) j=if i=j/\j<T.length then c else gT T j:=by
 simp only [gT,yM,List.getElem?_set];by_cases h:i=j
 ·subst h;by_cases h2:i<T.length
  ·simp [h2]
  ·simp [h2]
 ·simp [h]
def dT (n:Nat):List Nat:=(y5 n).map (·+1)
def jM (n:Nat):(dT n).length=n:=by simp [dT]
def So (n:Nat):dT n=wo 1 n:=by
 unfold dT;rw [uC];exact vm (fun a _=>yaP a 1)
def FC {n i:Nat} (h:i<(dT n).length):(dT n)[i]=i+1:=by simp [dT]
def Tq {n i:Nat}:i∈dT n↔0<i/\i<=n:=by
 rw [So,List.mem_range'_1];omega
structure fj (hp:Hp) (x y:Bool) (sz:Nat) (W:List Nat) (T:List (List AV)) (r:Nat):Prop where
 l:W.length=T.length
 m:ao hp 0=some (.cells true false x 1 (cQ (dT T.length) W r))
 r:∀i,i<T.length->ao hp (i+1)=some (.cells true true y sz (gT T i))
section
variable {hp:Hp} {x y:Bool} {sz:Nat} {W:List Nat} {T:List (List AV)} {r:Nat}
def Jr {n p:Nat} (hp:p<n) (hW:W.length=n):∃q,vh p (cQ (dT n) W r)= .ak (p+1) 0 (W.getD p 0)::q:=by
 have hl:(eR (dT n) W).length=n:=by rw [Dz (by rw [jM,hW]),hW]
 have h2:p<(cQ (dT n) W r).length:=by unfold cQ;rw [yG,hl];omega
 refine ⟨vh (p+1) (cQ (dT n) W r),?_⟩;rw [yP h2]
 congr 1
 have e:(cQ (dT n) W r)[p]? =some (.ak (p+1) 0 (W.getD p 0)):=by
  unfold cQ;rw [List.getElem?_append_left (by omega),y9 (by omega),atf (by rw [jM];exact hp) (by omega),FC]
  simp [yM,y9 (show p<W.length by omega)]
 rw [y9 h2] at e;exact th e
def fj.set (h:fj hp x y sz W T r) {i:Nat} (hi:i<T.length) (c:List AV):fj (aT hp (i+1) (.cells true true y sz c)) x y sz W (T.set i c) r:=by
 refine ⟨by rw [xD];exact h.l,?_,fun j hj=>?_⟩
 ·rw [fM (h.r i hi),yo (by omega),xD];exact h.m
 ·rw [xD] at hj;rw [fM (h.r i hi),awi];by_cases e:i=j
  ·subst e;rw [yA rfl,yA ⟨rfl,hj⟩]
  ·rw [yo (by omega),yo (fun q=>e q.1)];exact h.r j hj
def fj.an (h:fj hp x y sz W T 0) (hs:0<sz) (hw:∀i (h1:i<T.length) (h2:i<W.length),T[i].length=W[i]*sz) {n:Nat} (hn:T.length+4<=n):
  ∃ah,cD n hp (cQ (dT T.length) W 0)=some (xW (fun w r=> .aE y w r) W T,ah)/\∀j,(∀i,i<T.length->j≠i+1)->ao ah j=ao hp j:=by
 have e0:cQ (dT T.length) W 0=eR (dT T.length) W:=by unfold cQ;simp
 rw [e0];obtain ⟨a6,e1,g1⟩:=aaI hs (dT T.length) W T hp n (by rw [jM];exact hn) (jM _) h.l (fun i h1 h2 h3=>by
  refine ⟨hw i h2 h3,true,?_⟩;rw [FC]
  have:=h.r i h2
  rwa [mG h2] at this)
 refine ⟨a6,e1,fun j hj=>g1 j fun hm=>?_⟩
 have:=Tq.1 hm
 exact hj (j-1) (by omega) (by omega)
def aeP {hp ah:Hp} {n id s:Nat} {bS ex:Bool} {cs dL:List AV} (h:cD n hp cs=some (dL,ah)):zh n id hp (some (.cells bS false ex s cs))=some (ex,s,dL,aT ah id (.cells false false ex s cs)):=by
 simp [zh,h]
def fj.zh (h:fj hp x y sz W T 0) (hs:0<sz) (hw:∀i (h1:i<T.length) (h2:i<W.length),T[i].length=W[i]*sz) {n:Nat} (hn:T.length+4<=n):
  ∃ah,VE.zh n 0 hp (some (.cells true false x 1 (cQ (dT T.length) W 0)))=some (x,1,xW (fun w r=> .aE y w r) W T,ah):=by
 obtain ⟨a6,e,_⟩:=h.an hs hw hn;exact ⟨_,aeP e⟩
def SO (h:W.length=T.length):(xW (fun w r=>AV.aE y w r) W T).length=T.length:=by rw [tj];omega
def ax5 {a:Nat} {ids pl:List Nat} {bS ex:Bool} {cells:List AV} (hm:ao hp a=some (.cells bS false ex 1 cells)) (hc:gG cells=ids) (hr:∀i,i∈ids->∃o,ao hp i=some o/\iR o=[]) (a6:∀i,i∈pl->∃o,ao hp i=some o/\iR o=[]) (hn:(cL a ids pl).Nodup) (hl:ids.length+pl.length<90000):mo hp 100000 (a::pl) []=cL a ids pl:=by
 have gZ:=xQ.1 hn;have ck:∀i,i∈ids++pl->i∉[a]:=fun i hi hm=>by
  simp only [xu] at hm;subst hm;exact gZ.1 hi
 rw [show (100000:Nat)=99999+1 from rfl,FA,Jh,Gc,hm,Gd,Oy,hc,xp]
 have:ids++pl=(ids++pl)++[]:=by simp
 rw [this,OI hp (ids++pl) [a] [] 99999 (by rw [yG];omega) (fun i hi=>by
  rcases xL.1 hi with h | h
  ·exact hr i h
  ·exact a6 i h) gZ.2 ck,TY hp (by rw [yG];omega)]
 rfl
def O4 {live:List Nat} {tm tm':Env} {ct a:Nat} {ids pl:List Nat} (hE:et (bP tm live)=a::pl) (hm:ao hp a=some (.cells true false x 1 (cQ ids W r))) (hl:ids.length=T.length) (hW:W.length=T.length) (hr:∀i (h:i<ids.length),ao hp ids[i]=some (.cells true true y sz (gT T i))) (hM:T.length<=10000) (hn:(cL a ids pl).Nodup)
  (a6:∀i,i∈pl->∃o,ao hp i=some o/\iR o=[]) (eJ:pl.length<=1000)
  (hT:∀S,dc a S 0=some 0->(∀j (h:j<pl.length),dc pl[j] S 0=some (T.length+1+j))->fe (pos S) (bP tm live)=tm'):
  ∃ah,aG live ⟨tm,hp,ct,0⟩=⟨tm',ah,1+(T.length+pl.length),0⟩/\fj ah x y sz W T r/\∀j (h:j<pl.length) rw ex z cs,ao hp pl[j]=some (.cells rw true ex z cs)->ao ah (T.length+1+j)=some (.cells rw true ex z cs):=by
 have ij:∀i,i∈ids->∃o,ao hp i=some o/\iR o=[]:=fun i hi=>by
  obtain ⟨k,hk,rfl⟩:=xG.1 hi;exact ⟨_,hr k hk,rfl⟩
 have hR:=ax5 (pl:=pl) hm (SN r (by omega)) ij a6 hn (by omega);rw [<-hE] at hR;obtain ⟨ah,e,g⟩:=R3 (ct:=ct) hR;have ls:(cL a ids pl).length=1+(ids.length+pl.length):=by simp [cL];omega
 have s0:∀h:0<(cL a ids pl).length,(cL a ids pl)[0]=a:=fun _=>rfl
 have sI:∀i (h:i<ids.length) (h2:i+1<(cL a ids pl).length),(cL a ids pl)[i+1]=ids[i]:=fun i h h2=>by
  simp [cL,xk h]
 have sP:∀j (h:j<pl.length) (h2:T.length+1+j<(cL a ids pl).length),(cL a ids pl)[T.length+1+j]=pl[j]:=fun j h h2=>by
  have:T.length+1+j=(ids.length+j)+1:=by omega
  simp only [cL,this,wB];rw [xA (by omega)]
  simp
 have pI:∀i (h:i<ids.length),pos (cL a ids pl) ids[i]=some (1+i):=fun i h=>by
  have:=sJ (cL a ids pl) 0 (i+1) (by omega) hn
  rw [sI i h (by omega)] at this;rw [pos_eq,this];congr 1;omega
 have q3:dc a (cL a ids pl) 0=some 0:=by
  have:=sJ (cL a ids pl) 0 0 (by omega) hn
  rw [s0] at this;exact this
 have q4:∀j (h:j<pl.length),dc pl[j] (cL a ids pl) 0=some (T.length+1+j):=fun j hj=>by
  have:=sJ (cL a ids pl) 0 (T.length+1+j) (by omega) hn
  rw [sP j hj (by omega),yg] at this;exact this
 refine ⟨ah,by rw [e,hT _ q3 q4,ls,hl],⟨hW,?_,fun i hi=>?_⟩,fun j hj bS ex z cs ho=>?_⟩
 ·have:=g 0 (by omega) _ (by rw [s0];exact hm)
  rw [this];have e2:iT (pos (cL a ids pl)) (.cells true false x 1 (cQ ids W r))= .cells true false x 1 (eH (pos (cL a ids pl)) (cQ ids W r)):=rfl;rw [e2,Tp r 1 (by omega) pI,hl,<-So]
 ·have:=g (i+1) (by omega) _ (by rw [sI i (by omega)];exact hr i (by omega))
  rw [this];rfl
 ·have:=g (T.length+1+j) (by omega) _ (by rw [sP j hj (by omega)];exact ho)
  rw [this];rfl
def ZL {n:Nat} {pl:List Nat} (hp:pl.Nodup) (h:∀i,i∈pl->n<i):(cL 0 (dT n) pl).Nodup:=by
 unfold cL;refine xQ.2 ⟨fun q=>?_,?_⟩
 ·rcases xL.1 q with q | q
  ·have:=Tq.1 q;omega
  ·have:=h 0 q;omega
 ·refine yaR.2 ⟨by rw [So];exact List.nodup_range',hp,fun a ha b hb e=>?_⟩
  have h1:=Tq.1 ha;have h2:=h b hb;omega
def fj.comp {live:List Nat} {tm tm':Env} {ct:Nat} (h:fj hp x y sz W T r) (hE:et (bP tm live)=[0]) (hM:T.length<=10000)
  (hT:∀S,dc 0 S 0=some 0->fe (pos S) (bP tm live)=tm'):∃ah,aG live ⟨tm,hp,ct,0⟩=⟨tm',ah,1+T.length,0⟩/\fj ah x y sz W T r:=by
 obtain ⟨ah,e,g,_⟩:=O4 (ct:=ct) (pl:=[]) hE h.m (jM _) h.l (fun i hi=>by
  rw [FC];rw [jM] at hi;exact h.r i hi) hM (ZL List.nodup_nil (fun _ q=>by cases q)) (fun _ q=>by cases q) (by simp) (fun S q _=>hT S q)
 exact ⟨ah,e,g⟩
def fj.PB {live:List Nat} {tm tm':Env} {ct p:Nat} {bS ex:Bool} {z:Nat} {cs:List AV} (h:fj hp x y sz W T r) (fD:T.length<p) (hg:ao hp p=some (.cells bS true ex z cs)) (hE:et (bP tm live)=[0,p]) (hM:T.length<=10000)
  (hT:∀S,dc 0 S 0=some 0->dc p S 0=some (T.length+1)->fe (pos S) (bP tm live)=tm'):∃ah,aG live ⟨tm,hp,ct,0⟩=⟨tm',ah,1+(T.length+1),0⟩/\fj ah x y sz W T r/\ao ah (T.length+1)=some (.cells bS true ex z cs):=by
 obtain ⟨ah,e,g,k⟩:=O4 (ct:=ct) (pl:=[p]) hE h.m (jM _) h.l (fun i hi=>by
  rw [FC];rw [jM] at hi;exact h.r i hi) hM (ZL (by simp) (fun i q=>by simp only [xu] at q;omega)) (fun i q=>by
   simp only [xu] at q
   subst q;exact ⟨_,hg,rfl⟩) (by simp) (fun S q q2=>hT S q (by have:=q2 0 (by simp);simpa using this))
 exact ⟨ah,e,g,by have:=k 0 (by simp) bS ex z cs hg;simpa using this⟩
def atg {live:List Nat} {tm tm':Env} {hp0:Hp} {x0:Bool} {ct a b w i r0:Nat} {cs:List AV} (h:fj hp0 x0 y sz W T r0) (hi:T.length=i) (hE:et (bP tm live)=[a]) (hb:i<b) (Bo:a≠b) (ha:a=0\/i<a)
  (hm:ao hp a=some (.cells true false x 1 (eR (dT i) W++ .ak b 0 w::yf r .ab))) (hr:∀j,j<i->ao hp (j+1)=ao hp0 (j+1)) (hc:ao hp b=some (.cells true true y sz cs)) (hM:i<=1000)
  (hT:∀S,dc a S 0=some 0->fe (pos S) (bP tm live)=tm'):∃ah,aG live ⟨tm,hp,ct,0⟩=⟨tm',ah,1+(i+1),0⟩/\fj ah x y sz (W++[w]) (T++[cs]) r:=by
 have ij:∀j (h:j<(dT i++[b]).length),(dT i++[b])[j]=if j<i then j+1 else b:=fun j h=>by
  by_cases hj:j<i
  ·rw [yA hj,xk (by rw [jM];exact hj),FC]
  ·rw [yo hj,xA (by rw [jM];omega)];simp
 have li:(dT i++[b]).length=i+1:=by simp [jM]
 have lW:W.length=i:=by rw [h.l,hi]
 obtain ⟨ah,e,g,_⟩:=O4 (hp:=hp) (x:=x) (y:=y) (sz:=sz) (r:=r) (T:=T++[cs]) (W:=W++[w]) (ct:=ct) (pl:=[]) (ids:=dT i++[b]) hE (by
  rw [hm];unfold cQ;rw [Jq (by rw [jM,lW]),xm];rfl) (by rw [li];simp [hi]) (by simp [lW,hi]) (fun j hj=>by
  rw [ij j hj];rw [li] at hj;by_cases jo:j<i
  ·rw [yA jo,hr j jo,h.r j (by omega),mG (by omega),mG (by simp;omega),xk]
  ·have A0:j=i:=by omega
   subst A0;rw [yo (by omega),hc,mG (by simp;omega),xA (by omega)];simp [hi]) (by simp;omega) (by
  unfold cL;rw [xT];refine xQ.2 ⟨fun hx=>?_,?_⟩
  ·obtain ⟨j,hj,e⟩:=xG.1 hx;rw [ij j hj] at e;rw [li] at hj;split at e<;>omega
  ·unfold tr;rw [wX];intro u v hu hv huv;rw [ij u hu,ij v hv];rw [li] at hu hv
   split<;>split<;>omega) (fun _ q=>by cases q) (by simp) (fun S q _=>hT S q)
 exact ⟨ah,by rw [e];simp [hi],g⟩
end
def gK (w:Nat) (m:Mx):Mx:=m.map (List.take w)
def Of (w:Nat) (m:Mx):(gK w m).length=m.length:=yk _
def B3 (w:Nat) (m:Mx) (i:Nat):gR (gK w m) i=(gR m i).take w:=by
 unfold gR gK;simp only [yM,List.getElem?_map];cases m[i]?<;>simp
def Og {r:List Rat} {w c:Nat} (h:c<w):aW (r.take w) c=aW r c:=by
 unfold aW;simp only [yM,List.getElem?_take,h,xE]
def ac4 {m:Mx} {w c:Nat} (h:c<w):∀d p,kI (gK w m) c d p=kI m c d p
 | 0,_=>rfl
 | d+1,p=>by
  simp only [kI,B3,Og h];rw [ac4 h d (p+1)]
def OL (w:Nat) (m:Mx) (i:Nat) (r:List Rat):gK w (m.set i r)=(gK w m).set i (r.take w):=by
 unfold gK;rw [tT]
def ac5 (w:Nat) (a b:List Rat) (x y:Rat):(du a b x y).take w=du (a.take w) (b.take w) x y:=by
 unfold du;rw [List.take_zipWith]
def ath (w:Nat) (m:Mx) (i j:Nat):gK w (bN m i j)=bN (gK w m) i j:=by
 unfold bN;rw [OL,OL,B3,B3]
def ati {w c:Nat} (h:c<w) (m:Mx) (a:Nat):gK w (pZ m a c)=pZ (gK w m) a c:=by
 unfold pZ;rw [OL,ac5,B3,Og h]
def atj {w c:Nat} (h:c<w) (m:Mx) (a i:Nat):gK w (p0 m a c i)=p0 (gK w m) a c i:=by
 unfold p0;rw [B3,B3,Og h]
 split
 ·rw [OL,ac5]
 ·rfl
def ac6 {w c:Nat} (h:c<w) (m:Mx) (a:Nat):∀i,gK w (cK m a c i)=cK (gK w m) a c i
 | 0=>rfl
 | i+1=>by rw [cK,cK,atj h,ac6 h m a i]
def ac7 (w:Nat) (m:Mx):∀c,c<=w->ay (gK w m) c=(gK w (ay m c).1,(ay m c).2)
 | 0,_=>rfl
 | c+1,hc=>by
  have ih:=ac7 w m c (by omega);have oF:c<w:=by omega
  have hp:a8 (gK w (ay m c).1,(ay m c).2) c=a8 (ay m c) c:=by
   unfold a8;simp only [Of,ac4 oF]
  rw [ay,ay,ih];unfold ir;rw [hp];simp only [Of]
  split
  ·simp only [eL,hp,ac6 oF,ati oF,ath]
  ·rfl
def abS {m:Mx} {w:Nat}:(ay m (w+1)).2=(ay (gK w m) w).2\/(ay m (w+1)).2=(ay (gK w m) w).2++[w]:=by
 rw [ac7 w m w (yq w),ay];unfold ir
 split
 ·exact .inr rfl
 ·exact .inl rfl
def atk {l:List Nat} {w:Nat} (hl:l.length=w) (hi:∀i j (hi:i<l.length) (hj:j<l.length),i<j->l[i]<l[j]) (hw:∀p,p∈l->p<w):∀i (h:i<l.length),l[i]=i:=fun i h=>by
 have lo:∀i (h:i<l.length),i<=l[i]:=fun i=>by
  induction i with
  | zero=>intro h;exact uJ _
  | succ i ih=>
   intro h
   have:=ih (by omega)
   have:=hi i (i+1) (by omega) h (by omega)
   omega
 have up:∀d i (h:i<l.length),i+d+1=l.length->l[i]<=i:=fun d=>by
  induction d with
  | zero=>
   intro i h e
   have:=hw _ (yE h)
   omega
  | succ d ih=>
   intro i h e;have h1:=ih (i+1) (by omega) (by omega);have h2:=hi i (i+1) h (by omega) (by omega);omega
 have h1:=lo i h;have h2:=up (l.length-i-1) i h (by omega);omega
def Ub {w:Nat} {m:Mx} (h:wid (w+1) m):wid w (gK w m):=fun i hi=>by
 rw [Of] at hi;rw [B3,yI,h i hi];omega
def Uc {m:Mx} {w:Nat} (hw:wid (w+1) m) (hm:w∉(ay m (w+1)).2) (hl:(ay (gK w m) w).2.length=w):(ay m (w+1)).2.length=w/\∀i (hi:i<(ay m (w+1)).2.length),(ay m (w+1)).2[i]=i:=by
 have h:=sL (Ub hw) w (yq w)
 rcases abS (m:=m) (w:=w) with e | e
 ·simp only [e];exact ⟨hl,fun i hi=>atk hl h.inc h.pv.lt i hi⟩
 ·exact absurd (by rw [e];exact List.mem_append_right _ (xu.2 rfl)) hm
def bQ (R:Mx) (b:List Rat):Mx:=xW (fun r x=>r++[x]) R b
def nY {R:Mx} {b:List Rat} (h:b.length=R.length):(bQ R b).length=R.length:=by unfold bQ;rw [tj];omega
def JM {R:Mx} {b:List Rat} {i:Nat} (h:i<R.length) (hb:i<b.length):(bQ R b)[i]'(by unfold bQ;rw [tj];omega)=R[i]++[b[i]]:=by simp [bQ]
def DA {R:Mx} {b:List Rat} {w:Nat} (hw:wid w R) (h:b.length=R.length):wid (w+1) (bQ R b):=fun i hi=>by
 rw [nY h] at hi
 have:=hw i hi
 rw [cm hi] at this;rw [cm (by rw [nY h];exact hi),JM hi (by omega),yG,this];rfl
def KT {R:Mx} {b:List Rat} {K:Nat} (hk:b9 K R) (hb:∀x,x∈b->Hq K x) (h:b.length=R.length):b9 K (bQ R b):=fun i hi x hx=>by
 rw [nY h] at hi;rw [cm (by rw [nY h];exact hi),JM hi (by omega)] at hx
 rcases xL.1 hx with hx | hx
 ·have:=hk i hi
  rw [cm hi] at this;exact this x hx
 ·simp only [xu] at hx;rw [hx];exact hb _ (yE _)
def awj (W:Mx) (w:Nat):Prop:=(ay W (w+1)).2.length=w/\(ay W (w+1)).2.getD (w-1) 0=w-1
instance (W:Mx) (w:Nat):Decidable (awj W w):=inferInstanceAs (Decidable (_/\_))
def ZM {k:Nat} (y:Bool):∀{T:List (List AV)} {W:Mx},cF QL T W->(∀r,r∈W->r.length=k)->cF cS (xW (fun w r=>AV.aE y w r) (yf T.length k) T) W
 | [],[],_,_=>trivial
 | c::T,r::W,h,hw=>by
  rw [yy,xP,yan]
  have:=Jn y h.1
  rw [hw r wM] at this;exact ⟨this,ZM y h.2 (fun q hq=>hw q (xY _ hq))⟩
def ac8 {k:Nat}:∀{T:List (List AV)} {W:Mx},cF QL T W->(∀r,r∈W->r.length=k)->∀c,c∈T->c.length=k*4
 | [],[],_,_,c,hc=>by cases hc
 | c::T,r::W,h,hw,x,hx=>by
  rcases wJ.1 hx with rfl | hx
  ·rw [QL.len h.1,hw r wM]
  ·exact ac8 h.2 (fun q hq=>hw q (xY _ hq)) x hx
section
variable {W:Mx} {w:Nat} {x:Nat->Rat}
def ac9 (hx:∀i,i<W.length->sm (fun k=>E W i k*x k) w=E W i w):∀i,i<W.length->sm (fun k=>E W i k*(if k=w then -1 else x k)) (w+1)=0:=fun i hi=>by
 rw [sm,ep (g:=fun k=>E W i k*x k) (fun k hk=>by rw [yo (by omega)]),hx i hi,yA rfl];grind
def aqT (hw:wid (w+1) W) (hx:∀i,i<W.length->sm (fun k=>E W i k*x k) w=E W i w):w∉(ay W (w+1)).2:=fun hm=>by
 have h:=sL hw (w+1) (yq _);obtain ⟨i,hi,e,zS⟩:=h.pvm hm;have e1:=(h.up i zS).dot (ac9 hx);rw [sm,qC (fun k hk=>by rw [h.left i hi k (by omega)];grind),yA rfl] at e1
 have e2:=h.one i hi i zS;rw [e,yA rfl] at e2;rw [e2,show (0:Rat)+1* -1= -1 by grind] at e1;exact absurd e1 (by decide)
def atl (hw:wid (w+1) W) (hx:∀i,i<W.length->sm (fun k=>E W i k*x k) w=E W i w) (hl:(ay (gK w W) w).2.length=w):∀i,i<w->E (ay W (w+1)).1 i w=x i:=fun i hi=>by
 have h:=sL hw (w+1) (yq _);obtain ⟨p1,p2⟩:=Uc hw (aqT hw hx) hl;have jY:=h.pv.pv;have e1:=(h.up i (by omega)).dot (ac9 hx)
 rw [sm,rQ hi (fun k hk ck=>by
  have:=h.one k (by omega) i (by omega)
  rw [p2 k (by omega),yo (fun q=>ck q.symm)] at this
  rw [this];grind),yo (by omega),yA rfl] at e1
 have e2:=h.one i (by omega) i (by omega);rw [p2 i (by omega),yA rfl] at e2;rw [e2] at e1
 grind
end
def aeQ (a:List Rat) (B:Mx) (c:Nat):∀k,E8 a B c k=sm (fun j=>aW a j*E B j c) k
 | 0=>rfl
 | k+1=>by rw [E8,sm,aeQ a B c k];rfl
def awk {A B:Mx} {w i c:Nat} (hi:i<A.length) (hc:c<w):E (iE A B w) i c=sm (fun j=>E A i j*E B j c) (gR A i).length:=by
 unfold E;rw [cm (by simp [iE,hi]),cm hi];simp only [iE,yX];rw [db (by rw [Tm];exact hc)]
 simp only [mulR,yX,vl];rw [aeQ];rfl
def Tt (A B:Mx) (w:Nat):wid w (iE A B w):=fun i hi=>by
 rw [cm hi];simp [iE,Tm]
def Tu (A B:Mx) (w:Nat):(iE A B w).length=A.length:=by simp [iE]
def O5 (a b:List Rat):∀k,fI a b k=sm (fun j=>aW a j*aW b j) k
 | 0=>rfl
 | k+1=>by rw [fI,sm,O5 a b k]
def atm {A B:Mx} {w a K:Nat} (hA:wid a A) (ka:b9 K A) (kb:b9 K B) (cU:2<=K):b9 (2+a*(2*K+1)) (iE A B w):=fun i hi x hx=>by
 rw [cm hi] at hx;have cB:i<A.length:=by simpa [iE] using hi
 have h2:(iE A B w)[i]=mulR A[i] B w:=by simp [iE]
 rw [h2] at hx
 have:=av9 (rN ka (yE cB)) kb cU x hx
 rwa [mX hA (yE cB)] at this
end VE
