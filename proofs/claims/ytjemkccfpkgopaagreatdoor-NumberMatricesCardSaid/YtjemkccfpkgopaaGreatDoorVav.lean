import Derived.Test.YtjemkccfpkgopaaGreatDoorVau
import Derived.Test.YtjemkccfpkgopaaGreatDoorVas
import Derived.Test.YtjemkccfpkgopaaGreatDoorVao
import Derived.Test.YtjemkccfpkgopaaGreatDoorVar
set_option linter.all false
set_option maxRecDepth 100000
open Bool renaming not_false→yM,not_true→yO
open Int renaming reduceEq→vP
open List renaming Nodup→ybR,any_append→uU,any_cons→yay,drop→vT,eq_nil_of_length_eq_zero→yo,getElem_map→xo,getElem_mem→yE,getElem_range→uh,getElem_take→vU,length→tD,length_append→yN,length_map→yj,length_nil→yP,length_take→yy,map→xv,map_append→xg,map_map→wh,mem_cons→wR,mem_cons_of_mem→wS,mem_cons_self→vD,mem_iff_getElem→ug,mem_map→wQ,mem_singleton→wV,nil_append→xC,nodup_cons→uT,pairwise_iff_getElem→tK,range→xe,replicate→yk,take_length→xB,take_succ_eq_append_getElem→yW
open Nat renaming add_one_ne_zero→xu,le_refl→yv,le_trans→xj,min_eq_left→xm,mul_le_mul→wu,mul_le_mul_right→yQ,mul_one→yf,pow_le_pow_right→yY,reduceAdd→yb,reduceEqDiff→ya,reduceLT→yF,reduceLeDiff→yp,reduceMul→xn,zero_add→ye
namespace VE
section
open Go (IntKind)
def lV (n a p:Nat):List Nat:=(((xe n).map (·+1)).set p (a+1)).set a (p+1)
def rZ (n a p:Nat):(lV n a p).length=n:=by simp [lV]
def E0 {n a p i:Nat} (h:i<n):(lV n a p)[i]'(by rw [rZ];exact h)=if i=a then p+1 else if i=p then a+1 else i+1:=by
 simp only [lV,List.getElem_set,xo,uh]
 grind
def avK {n a p i j:Nat} (ha:a<n) (hp:p<n) (hi:i<n) (hj:j<n) (h:(lV n a p)[i]'(by rw [rZ];exact hi)=(lV n a p)[j]'(by rw [rZ];exact hj)):i=j:=by
 rw [E0 hi,E0 hj] at h
 grind
def aro {n a p k:Nat} (ha:a<n) (hp:p<n):(fF 0 (lV n a p) (dl n k)).Nodup:=by
 have FH:∀x,x∈lV n a p->1<=x/\x<=n:=fun x hx=>by
  obtain ⟨i,hi,rfl⟩:=ug.1 hx;rw [rZ] at hi;rw [E0 hi]
  grind
 have h1:(lV n a p).Nodup:=by
  unfold ybR;rw [tK];intro i j hi hj Qb h
  have:=avK ha hp (by rwa [rZ] at hi) (by rwa [rZ] at hj) h
  omega
 unfold fF dl
 grind
def aeu {m:Mx} {a p i:Nat} (ha:a<m.length) (hp:p<m.length) (hi:i<m.length):gR (cz m a p) i=if i=p then gR m a else if i=a then gR m p else gR m i:=by
 unfold cz;rw [nV,nV]
 grind
structure Ev (hp:Hp) (w:Nat) (M:Mx) (a p:Nat):Prop where
 m:ay hp 0=some (.cells true false false 1 ((lV M.length a p).map fun i=> .aw i 0 w))
 r:∀i,i<M.length->ay hp (i+1)=some (.cells true true false 1 (cr (gR M i)))
def Ev.at_ {hp:Hp} {w:Nat} {m:Mx} {a p i:Nat} (h:Ev hp w m a p) (ha:a<m.length) (ak:p<m.length) (hi:i<m.length):ay hp ((lV m.length a p)[i]'(by rw [rZ];exact hi))=some (.cells true true false 1 (cr (gR (cz m a p) i))):=by
 rw [E0 hi,aeu ha ak hi];by_cases h1:i=a
 ·subst h1;rw [yT rfl];by_cases h2:i=p
  ·subst h2;rw [yT rfl];exact h.r i ha
  ·rw [yD h2,yT rfl];exact h.r p ak
 ·rw [yD h1];by_cases h2:i=p
  ·subst h2;rw [yT rfl,yT rfl];exact h.r a ha
  ·rw [yD h2,yD h2,yD h1];exact h.r i hi
def Ev.comp {live:List Nat} {tm:Env} {hp:Hp} {ct w k a p:Nat} {m:Mx} {pvs:List AV} (h:Ev hp w m a p) (ha:a<m.length) (ak:p<m.length) (hv:eA hp m.length k pvs) (hM:m.length<=10000) (hE:fL (cC tm live)=0::dl m.length k):
  ∃ak aP S,aP=1+(m.length+(dl m.length k).length)/\aJ live ⟨tm,hp,ct,0⟩=⟨gm (pos S) (cC tm live),ak,aP,0⟩/\bZ ak w (cz m a p)/\eA ak m.length k pvs/\fh 0 S 0=some 0/\(k≠0->fh (m.length+1) S 0=some (m.length+1)):=by
 have Q5:=zA m a p;obtain ⟨gU,aP,eX,e,g1,g2,g3,g4⟩:=NA (ct:=ct) (M:=cz m a p) hE h.m (by rw [rZ,Q5]) (fun i hi=>h.at_ ha ak (by rwa [rZ] at hi)) (by omega) (aro ha ak) (fun i hi=>by
   unfold dl at hi
   split at hi
   ·grind
   ·rename_i hk;simp only [wV] at hi;subst hi;rcases hv with hv | hv
    ·grind
    ·exact ⟨_,hv,rfl⟩) (by unfold dl;split<;>simp)
 rw [Q5] at g2 g4 eX;refine ⟨gU,aP,_,eX,e,g1,?_,g3,fun hk=>?_⟩
 ·by_cases hk:k=0
  ·exact .inl hk
  ·rcases hv with hv | hv
   ·grind
   ·refine .inr ?_;have ep:dl m.length k=[m.length+1]:=yD hk
    have:=g2 0 (by rw [ep];exact Nat.zero_lt_one) (.cells true true false 1 pvs) (by simp only [ep,List.getElem_cons_zero];exact hv)
    exact this
 ·have ep:dl m.length k=[m.length+1]:=yD hk
  simp_all
def ajO {hp:Hp} {ct at_ id w:Nat} {ids:List Nat} (h:at_<ids.length):im hp ct 0 at_ 1 [.aw id 0 w] (some (.cells true false false 1 (ids.map fun i=> .aw i 0 w)))=some (.ae [],a6 hp 0 (.cells true false false 1 ((ids.set at_ id).map fun i=> .aw i 0 w)),ct):=by
 rw [qW (by rfl) (by simp;omega) (by rfl)]
 have:over at_ [AV.aw id 0 w] (ids.map fun i=> .aw i 0 w)=(ids.set at_ id).map fun i=> .aw i 0 w:=by
  simp only [over,List.length_cons,yP,ye];rw [List.map_set,List.set_eq_take_append_cons_drop,yT (by simpa using h)]
  simp
 grind
def S7 {ids:List Nat} {w p:Nat} (h:p<ids.length):vT p (ids.map fun i=>AV.aw i 0 w)= .aw ids[p] 0 w::vT (p+1) (ids.map fun i=>AV.aw i 0 w):=by
 rw [List.drop_eq_getElem_cons (by simpa using h)];simp
def bZ.cons {hp:Hp} {w:Nat} {M:Mx} (h:bZ hp w M) {id:Nat} (o:Obj) (hi:M.length<id):bZ ((id,o)::hp) w M:=⟨by rw [jo _ _ (by omega)];exact h.m,fun i dS=>by rw [jo _ _ (by omega)];exact h.r i dS⟩
def bZ.del {hp:Hp} {w:Nat} {M:Mx} (h:bZ hp w M) {id:Nat} (hi:M.length<id):bZ (dK hp id) w M:=⟨by rw [EH,yD (by omega)];exact h.m,fun i dS=>by rw [EH,yD (by omega)];exact h.r i dS⟩
def ahL {live:List Nat} {tm tm':Env} {hp:Hp} {ct w n k p:Nat} {M:Mx} {pvs:List AV} {R:Prop} (h:bZ hp w M) (hg:ay hp p=some (.cells true true false 1 pvs)) (hn:M.length=n) (hM:n<=10000) (hp0:n<p) (hE:fL (cC tm live)=[0,p])
  (hT:∀S,fh 0 S 0=some 0->fh p S 0=some (n+1)->gm (pos S) (cC tm live)=tm') (hR:R):∃ak aP,aJ live ⟨tm,hp,ct,0⟩=⟨tm',ak,aP,0⟩/\bZ ak w M/\eA ak n (k+1) pvs/\R:=by
 subst hn;have hm:=h.m;rw [show ((xe M.length).map fun i=>AV.aw (i+1) 0 w)=((xe M.length).map (·+1)).map (fun i=> .aw i 0 w) by rw [wh];rfl] at hm
 have ko:(fF 0 ((xe M.length).map (·+1)) [p]).Nodup:=by
  have h1:=adn M.length 0;simp only [fF,dl,xD,List.append_nil] at h1;have h2:=uT.1 h1;refine uT.2 ⟨fun q=>?_,List.nodup_append.2 ⟨h2.2,by simp,fun a ha b hb e=>?_⟩⟩
  ·grind
  ·grind
 obtain ⟨ak,aP,eX,e,g1,g2,g3,g4⟩:=NA (ct:=ct) (pl:=[p]) hE hm (by simp) (fun i hi=>by
  simp only [xo,uh];exact h.r i (by simpa using hi)) hM ko (fun i hi=>by
   simp only [wV] at hi;subst hi
   exact ⟨_,hg,rfl⟩) (by simp)
 have q:=g2 0 (by simp) (.cells true true false 1 pvs) (by simpa using hg);have q4:=g4 0 (by simp);exact ⟨ak,aP,by rw [e,hT _ g3 q4],g1,.inr q,hR⟩
section
variable {P:aM} {L:Lib}
def azD (h:Rxi P L) (jz:Has P L 355 re) (JW:Has P L 351 iM) {M:Mx} {W n:Nat} (hw:wid W M) (nG:W<=10000) (hn:M.length=n) (h0:0<n) (e9:n<=1000) {K:Nat} (hk:cx K M) (gX:1<=K) (hK:4^n*(K+1)<=400000000):
  ∀d st,(∃(c k:Nat) (pvs:List AV) (hp:Hp) (ct:Nat),aJ [0,4,5] st=⟨[(0,.aw 0 0 n),(4,oV (n+1) k),(5,ab c)],hp,ct,0⟩/\bZ hp W (ax M c).1/\eA hp n k pvs/\(ax M c).2.length=k/\pvs=(ax M c).2.map (fun p:Nat=>ab p)/\c+d=W)->
   ∃ex s',D P L (.loop [0,4,5] sd) st=some (ex,s')/\∃tm hp ct k pvs,s'=⟨tm,hp,ct,0⟩/\ex= .exit 0/\bZ hp W (ax M W).1/\eA hp n k pvs/\(ax M W).2.length=k/\pvs=(ax M W).2.map (fun p:Nat=>ab p)/\af tm 0= .aw 0 0 n/\af tm 4=oV (n+1) k:=by
 intro dq sq;generalize a8:aJ [0,4,5] sq=s0;revert a8 s0 sq dq;apply cY;rintro d st ⟨c,k,pvs,hp,ct,rfl,hM,hV,dj,ir,QW⟩;have hP:=pq hw c;have lm:=qP M c;have lW:(ax M c).1.length=n:=by omega
 have eW:=fun (ct:Nat)=>fV (P:=P) (L:=L) JW (ct:=ct) hM lW h0
 have rq:k<=n:=by have:=hP.pv;omega
 by_cases L9:c<W
 ·by_cases Ma:k<n
  ·left
   obtain ⟨J,J0,J1,J2⟩:=Bv hw hk gX c (by omega);have hJ:J+1<=400000000:=by
    have h1:4^(ax M c).2.length<=4^n:=yY (by decide) (by omega)
    have:=yQ (K+1) h1
    omega
   have f0:=azz (P:=P) (L:=L) jz (k:=k) (pvs:=pvs) hP.wid L9 nG lW (by omega) (F:=bg (ax M c) c) (n-k);have hs:ax M (c+1)=kG (ax M c) c:=rfl;have Ub:=hP.bg c;rw [dj] at Ub;have wc:IntKind.wrap .i64 ((c:Int)+1)=((c+1:Nat):Int):=wrap64 (by omega) (by omega);have rm:kF (ax M c).1 c (n-k) k=bg (ax M c) c:=by unfold bg;rw [dj,lW]
   have Q6:∀(M2:Mx) (tm:Env) (hp:Hp) (ct:Nat) (x:Nat),bZ hp W M2->M2.length=n->eA hp n k pvs->af tm 0= .aw 0 0 n->af tm 4=oV (n+1) k->af tm 5=ab c->af tm 6=ab x->∃ak,aJ [0,4,5,6] ⟨tm,hp,ct,0⟩=⟨[(0,.aw 0 0 n),(4,oV (n+1) k),(5,ab c),(6,ab x)],ak,1+(n+(dl n k).length),0⟩/\bZ ak W M2/\eA ak n k pvs:=fun M2 tm hp ct x hM hl hV t0 t4 t5 t6=>by
    cases k
    all_goals
     simp only [oV] at t4 ⊢;exact IY hM hV hl (by omega) (by simp only [go_sem,ya,t0,t4,t5,t6,dl]<;>rfl) (fun S q3 q4=>by simp only [go_sem,t0,t4,t5,t6,q3,q4,ub,xu,xt]<;>rfl)
   have qB:∀(M2:Mx) (tm:Env) (hp:Hp) (ct:Nat) (x:Nat),bZ hp W M2->M2.length=n->eA hp n k pvs->af tm 0= .aw 0 0 n->af tm 4=oV (n+1) k->af tm 5=ab c->af tm 7=ab x->∃ak,aJ [0,4,5,7] ⟨tm,hp,ct,0⟩=⟨[(0,.aw 0 0 n),(4,oV (n+1) k),(5,ab c),(7,ab x)],ak,1+(n+(dl n k).length),0⟩/\bZ ak W M2/\eA ak n k pvs:=fun M2 tm hp ct x hM hl hV t0 t4 t5 t7=>by
    cases k
    all_goals
     simp only [oV] at t4 ⊢;exact IY hM hV hl (by omega) (by simp only [go_sem,ya,t0,t4,t5,t7,dl]<;>rfl) (fun S q3 q4=>by simp only [go_sem,t0,t4,t5,t7,q3,q4,ub,xu,xt]<;>rfl)
   have hkC:∀(M2:Mx) (tm:Env) (hp:Hp) (ct:Nat),bZ hp W M2->M2.length=n->eA hp n k pvs->af tm 0= .aw 0 0 n->af tm 4=oV (n+1) k->af tm 5=ab c->∃ak aP,aJ [0,4,5] ⟨tm,hp,ct,0⟩=⟨[(0,.aw 0 0 n),(4,oV (n+1) k),(5,ab c)],ak,aP,0⟩/\bZ ak W M2/\eA ak n k pvs/\n<aP/\(k≠0->n+1<aP):=fun M2 tm hp ct hM hl hV t0 t4 t5=>by
    rcases k with _ | k1
    ·simp only [oV] at t4 ⊢;obtain ⟨ak,e,q1,q2⟩:=IY (live:=[0,4,5]) (tm:=tm) (ct:=ct) (tm':=[(0,.aw 0 0 n),(4,.aa),(5,ab c)]) hM hV hl (by omega) (by simp only [go_sem,t0,t4,t5,dl]<;>rfl) (fun S q3 q4=>by simp only [go_sem,t0,t4,t5,q3]<;>rfl)
     exact ⟨ak,_,e,q1,q2,by omega,fun h=>absurd rfl h⟩
    ·simp only [oV] at t4 ⊢;obtain ⟨ak,e,q1,q2⟩:=IY (live:=[0,4,5]) (tm:=tm) (ct:=ct) (tm':=[(0,.aw 0 0 n),(4,.aw (n+1) 0 (k1+1)),(5,ab c)]) hM hV hl (by omega) (by simp only [go_sem,ya,t0,t4,t5,dl]<;>rfl) (fun S q3 q4=>by simp only [go_sem,t0,t4,t5,q3,q4,ub,xu,xt]<;>rfl)
     have:(dl n (k1+1)).length=1:=rfl
     exact ⟨ak,_,e,q1,q2,by omega,fun _=>by omega⟩
   by_cases fk:bg (ax M c) c<(ax M c).1.length
   ·
    have kD:bg (ax M c) c<n:=by omega
    have nn:kG (ax M c) c=(b8 (et (ax M c) c) k c n,(ax M c).2++[c]):=by
     unfold kG;rw [yT fk,dj,lW]
    have Q5:=zA (ax M c).1 k (bg (ax M c) c);have H8:(et (ax M c) c).length=n:=by rw [zF,lW]
    have w1:=hP.wid.cz (i:=k) (j:=bg (ax M c) c) (by omega) fk;have J3:=J2.cz (i:=k) (j:=bg (ax M c) c) (by omega) fk;have wk:=w1 k (by omega);have Jk:=J3 k (by omega);have dH:cE (gR (cz (ax M c).1 k (bg (ax M c) c)) k) c≠0:=by
     have:=S4 (ax M c).1 c (n-k) k (by rw [rm];omega)
     rw [rm] at this;rw [aeu (by omega) fk (by omega)]
     split
     ·rename_i q;rw [<-q] at this;exact this
     ·rw [yT rfl];exact this
    obtain ⟨g1,g2⟩:=J2.et hP L9 fk;rw [dj] at g1 g2;have kE:∀i,i<=n->cx (4*J+1) (b8 (et (ax M c) c) k c i):=fun i hi=>S5 (hP.et fk) L9 (by omega) g1 (fun j hj=>g2 j (by omega)) (by omega)
    have kx:=Jk _ (CS (c:=c) (by omega));have e5:=aA0 h.toRn h.Zq (a:=cE (gR (cz (ax M c).1 k (bg (ax M c) c)) k) c) kx (by omega) dH;have f1:=azA (P:=P) (L:=L) h.toRn (n:=n) (M:=cz (ax M c).1 k (bg (ax M c) c)) (c:=c) (k:=k) (a:=k) (pvs:=pvs) w1 nG (by omega) (by omega) (by omega) (t:=(cE (gR (cz (ax M c).1 k (bg (ax M c) c)) k) c)⁻¹) Jk kx.inv (by omega) W;have aDp:(cz (ax M c).1 k (bg (ax M c) c)).set k (de (gR (cz (ax M c).1 k (bg (ax M c) c)) k) (gR (cz (ax M c).1 k (bg (ax M c) c)) k) (cE (gR (cz (ax M c).1 k (bg (ax M c) c)) k) c)⁻¹ 0)=et (ax M c) c:=by
     unfold et AL;rw [dj]
    rw [aDp] at f1;have f2:=azC (P:=P) (L:=L) h.toRn jz (k:=k) (pvs:=pvs) (hP.et fk) nG L9 H8 (by omega) (a:=k) (by omega) kE (by omega) n;have Q7:(b8 (et (ax M c) c) k c n).length=n:=by rw [rY,H8]
    have swap:∀hp:Hp,bZ hp W (ax M c).1->Ev (a6 (a6 hp 0 (.cells true false false 1 ((((xe n).map (·+1)).set (bg (ax M c) c) (k+1)).map fun i=> .aw i 0 W))) 0 (.cells true false false 1 ((lV n k (bg (ax M c) c)).map fun i=> .aw i 0 W))) W (ax M c).1 k (bg (ax M c) c)/\ay (a6 hp 0 (.cells true false false 1 ((((xe n).map (·+1)).set (bg (ax M c) c) (k+1)).map fun i=> .aw i 0 W))) 0=some (.cells true false false 1 ((((xe n).map (·+1)).set (bg (ax M c) c) (k+1)).map fun i=> .aw i 0 W))/\ay (a6 (a6 hp 0 (.cells true false false 1 ((((xe n).map (·+1)).set (bg (ax M c) c) (k+1)).map fun i=> .aw i 0 W))) 0 (.cells true false false 1 ((lV n k (bg (ax M c) c)).map fun i=> .aw i 0 W))) 0=some (.cells true false false 1 ((lV n k (bg (ax M c) c)).map fun i=> .aw i 0 W)):=fun hp hM=>by
     have e0:=hM.m;have e1:∀o,ay (a6 hp 0 o) 0=some o:=fun o=>by rw [AT,yT rfl,e0];rfl
     have e2:∀o u,ay (a6 (a6 hp 0 o) 0 u) 0=some u:=fun o u=>by rw [AT,yT rfl,e1];rfl
     refine ⟨⟨?_,fun i hi=>?_⟩,e1 _,e2 _ _⟩
     ·rw [e2,lW]
     ·rw [AT,yD (by omega),AT,yD (by omega)];exact hM.r i hi
    have st1:=fun (hp:Hp) (ct:Nat)=>ajO (hp:=hp) (ct:=ct) (at_:=bg (ax M c) c) (id:=k+1) (w:=W) (ids:=(xe n).map (·+1)) (by simpa using kD)
    have st2:=fun (hp:Hp) (ct:Nat)=>ajO (hp:=hp) (ct:=ct) (at_:=k) (id:=bg (ax M c) c+1) (w:=W) (ids:=((xe n).map (·+1)).set (bg (ax M c) c) (k+1)) (by simpa using Ma)
    have d1:=S7 (ids:=(xe n).map (·+1)) (w:=W) (p:=k) (by simpa using Ma);have d2:=S7 (ids:=(xe n).map (·+1)) (w:=W) (p:=bg (ax M c) c) (by simpa using kD);simp only [xo,uh] at d1 d2;have d3:=S7 (ids:=lV n k (bg (ax M c) c)) (w:=W) (p:=k) (by rw [rZ];exact Ma)
    rw [E0 Ma,yT rfl] at d3;have gG:∀hp:Hp,bZ hp W (ax M c).1->ay hp 0=some (.cells true false false 1 (((xe n).map (·+1)).map fun i=> .aw i 0 W)):=fun hp hM=>by
     have:=hM.m
     rw [lW] at this;rw [this,wh];rfl
    have dp:=EZ (r:=gR (cz (ax M c).1 k (bg (ax M c) c)) k) (c:=c) (by omega);have KZ:pvs.length=k:=by rw [ir,yj,dj]
    have PX:pvs++[ab c]=((ax M c).2++[c]).map (fun p:Nat=>ab p):=by rw [ir,xg];rfl
    have aDq:(((xe n).map (·+1)).set (bg (ax M c) c) (k+1)).set k (bg (ax M c) c+1)=lV n k (bg (ax M c) c):=rfl;have aDr:∀hp:Hp,Ev hp W (ax M c).1 k (bg (ax M c) c)->ay hp (bg (ax M c) c+1)=some (.cells true true false 1 (cr (gR (cz (ax M c).1 k (bg (ax M c) c)) k))):=fun hp q=>by
     have:=q.at_ (i:=k) (by omega) fk (by omega)
     rw [E0 (by omega),yT rfl] at this;exact this
    have aDs:∀{live:List Nat} {tm tm':Env} {ct:Nat} {hp:Hp} {R:Prop},Ev hp W (ax M c).1 k (bg (ax M c) c)->eA hp n k pvs->fL (cC tm live)=0::dl n k->(∀S,fh 0 S 0=some 0->(k≠0->fh (n+1) S 0=some (n+1))->gm (pos S) (cC tm live)=tm')->R->∃ak aP,aJ live ⟨tm,hp,ct,0⟩=⟨tm',ak,aP,0⟩/\bZ ak W (cz (ax M c).1 k (bg (ax M c) c))/\eA ak n k pvs/\R:=fun {live tm tm' ct hp R} q hV hE hT hR=>by
     have:=q.comp (ct:=ct) (by omega) fk (by rw [lW];exact hV) (by omega) (by rw [lW];exact hE)
     rw [lW] at this;obtain ⟨ak,aP,S,eX,e,q1,q2,q3,q4⟩:=this;exact ⟨ak,aP,by rw [e,hT S q3 q4],q1,q2,hR⟩
    have a8:(cz (ax M c).1 k (bg (ax M c) c)).set k (fA 0 (de (gR (cz (ax M c).1 k (bg (ax M c) c)) k) (gR (cz (ax M c).1 k (bg (ax M c) c)) k) (cE (gR (cz (ax M c).1 k (bg (ax M c) c)) k) c)⁻¹ 0) (gR (cz (ax M c).1 k (bg (ax M c) c)) k))=cz (ax M c).1 k (bg (ax M c) c):=by
     rw [aer];exact aes (by omega)
    rw [show b8 (et (ax M c) c) k c n=(ax M (c+1)).1 by rw [hs,nn]] at Q7 f2;have ajP:(ax M (c+1)).2.length=k+1:=by rw [hs,nn,yN,dj];rfl
    have ajQ:pvs++[ab c]=(ax M (c+1)).2.map (fun p:Nat=>ab p):=by rw [hs,nn,PX]
    have aJa:b8 (et (ax M c) c) k c 0=et (ax M c) c:=rfl;have aJb:((cz (ax M c).1 k (bg (ax M c) c)).set k (fA 0 (de (gR (cz (ax M c).1 k (bg (ax M c) c)) k) (gR (cz (ax M c).1 k (bg (ax M c) c)) k) (cE (gR (cz (ax M c).1 k (bg (ax M c) c)) k) c)⁻¹ 0) (gR (cz (ax M c).1 k (bg (ax M c) c)) k))).length=n:=by simp [Q5,lW]
    have hS0:∀(hp:Hp),bZ hp W (cz (ax M c).1 k (bg (ax M c) c))->bZ hp W ((cz (ax M c).1 k (bg (ax M c) c)).set k (fA 0 (de (gR (cz (ax M c).1 k (bg (ax M c) c)) k) (gR (cz (ax M c).1 k (bg (ax M c) c)) k) (cE (gR (cz (ax M c).1 k (bg (ax M c) c)) k) c)⁻¹ 0) (gR (cz (ax M c).1 k (bg (ax M c) c)) k))):=fun hp q=>by rw [a8];exact q
    have hE0:∀(hp:Hp),bZ hp W (et (ax M c) c)->bZ hp W (b8 (et (ax M c) c) k c 0):=fun hp q=>q
    have hFn:¬((bg (ax M c) c:Nat):Int)=(n:Nat):=by omega
    generalize bg (ax M c) c=F at*
    generalize cz (ax M c).1 k F=S1 at*
    generalize hS2:et (ax M c) c=S2 at*
    generalize hS3:(ax M (c+1)).1=S3 at*
    unfold aj at e5;have hkz:((k:Nat):Int)<n:=by omega
    have fin:∀(tm:Env) (hp:Hp) (ct:Nat),bZ hp W S3->eA hp n k pvs->af tm 0= .aw 0 0 n->af tm 4=oV (n+1) k->af tm 5=ab c->∃s' k',jL P L (mX 1 (D P L (.aH [qm 150 4,qm 151 5,Rq 152 (.dd 1 1 [.int .i64 0] [(0,1,(.t 151))]),Rq 153 (.aR 1 8 (.t 150) (.t 152)),qm 4 153]) (aJ [0,4,5] ⟨tm,hp,ct,0⟩))) (.aH [qm 26 5,qa 27 26 1,qm 5 27])=some (.normal,s')/\k'<d/\∃(c k:Nat) (pvs:List AV) (hp:Hp) (ct:Nat),aJ [0,4,5] s'=⟨[(0,.aw 0 0 n),(4,oV (n+1) k),(5,ab c)],hp,ct,0⟩/\bZ hp W (ax M c).1/\eA hp n k pvs/\(ax M c).2.length=k/\pvs=(ax M c).2.map (fun p:Nat=>ab p)/\c+k'=W:=fun tm hp ct hM hV t0 t4 t5=>by
     obtain ⟨QK,ct4,e4,q1,q2,c1,c2⟩:=hkC S3 tm hp ct hM Q7 hV t0 t4 t5;rw [e4];rcases k with _ | k1
     ·have:pvs=[]:=yo KZ
      subst this;simp only [go_sem,ya,yb,xn,yF,yp,yf,oV,fQ,wc];refine ⟨_,d-1,rfl,by omega,c+1,1,[ab c],?_⟩;rw [hS3]
      exact ahL (k:=0) ((q1.cons _ (by omega)).cons _ (by omega)) (gZ _ _ _) Q7 (by omega) (by omega) (by simp only [go_sem,ya]<;>rfl) (fun S q3 q4=>by simp only [go_sem,ya,yb,q3,q4]<;>rfl) ⟨ajP,ajQ,by omega⟩
     ·have hv4:ay QK (n+1)=some (.cells true true false 1 pvs):=by
       rcases q2 with q2 | q2
       ·cases q2
       ·exact q2
      have hn4:=c2 (Nat.succ_ne_zero k1);simp only [go_sem,ya,yb,yp,yf,oV]
      rw [fC (ex:=false) (pu:=true) (cs:=pvs) (by rw [jo _ _ (by omega)];exact hv4) (by rw [KZ,yf]) (by omega) (by omega) (by decide) (by simp only [go_sem])]
      simp only [go_sem,ya,wc];refine ⟨_,d-1,rfl,by omega,c+1,k1+1+1,pvs++[ab c],?_⟩;rw [hS3]
      exact ahL (k:=k1+1) ((bZ.del (q1.cons _ (by omega)) (by omega)).cons _ (by omega)) (gZ _ _ _) Q7 (by omega) (by omega) (by simp only [go_sem,ya]<;>rfl) (fun S q3 q4=>by simp only [go_sem,ya,q3,q4]<;>rfl) ⟨ajP,ajQ,by omega⟩
    cases k
    all_goals
     simp only [oV] at f0 f1 f2 Q6 qB fin ⊢;simp only [go_sem,ya,sd,eW,show (c:Int)<W by omega,yr,show (0:Int)<n by omega,hkz];generalize hq:D P L (.loop [0,4,5,6] C9) _=q;obtain ⟨ex,st,rfl,tm,gU,GW,rfl,rfl,rL,AO,t0,t4,t5,t6⟩:=bq hq f0 ⟨_,mS hM hV lW (by omega) (by simp only [go_sem,ya,dl]<;>rfl) (fun S q3 q4=>by simp only [go_sem,ya,q3,q4,ub,xu,xt]<;>rfl) ⟨by omega,rm⟩⟩
     obtain ⟨Eg,e3,q1,q2⟩:=Q6 (ax M c).1 tm gU GW F rL lW AO t0 t4 t5 t6;obtain ⟨sw,sg1,sg2⟩:=swap Eg q1;have gat:=aDr _ sw;have m0:=gG Eg q1;simp only [go_sem,ya,yf,e3,hFn,ym,bN 0 0 Ma,bN 0 0 kD,ye,m0,d1,d2,st1,sg1,st2,aDq,sg2,d3,bN (F+1) 0 L9,gat,dp,e5];generalize fy:D P L (.loop [0,4,5,7,8,9] Jr) _=q1';obtain ⟨ex,st,rfl,tm,hp5,ct5,rfl,rfl,hM5,hV5,t0,t4,t5,t7⟩:=bq fy f1 ⟨0,by
      rw [a8]
      exact aDs sw ((q2.set (by omega)).set (by omega)) (by simp only [go_sem,ya,dl]<;>rfl) (fun S q3 q4=>by simp only [go_sem,ya,q3,q4,ub,xu,xt]<;>rfl) (by omega)⟩
     obtain ⟨hp6,e6,y1,y2⟩:=qB S2 tm hp5 ct5 _ hM5 H8 hV5 t0 t4 t5 t7;simp only [go_sem,e6];generalize oK:D P L (.loop [0,4,5,7,10] Da) _=q3';obtain ⟨ex,st,rfl,tm,hp7,ct7,rfl,rfl,hM7,hV7,t0,t4,t5⟩:=bq oK f2 ⟨0,mS y1 y2 H8 (by omega) (by simp only [go_sem,ya,dl]<;>rfl) (fun S q3 q4=>by simp only [go_sem,ya,q3,q4,ub,xu,xt]<;>rfl) (by omega)⟩
     have:=fin tm hp7 ct7 hM7 hV7 t0 t4 t5
     simp only [YN,fK,SJ];exact this
   ·
    have nn:ax M (c+1)=ax M c:=by rw [hs,Sx fk]
    have hF:bg (ax M c) c=n:=by omega
    rw [hF] at f0 rm;have hkz:((k:Nat):Int)<n:=by omega
    have fin:∀(tm:Env) (hp:Hp) (ct:Nat),bZ hp W (ax M c).1->eA hp n k pvs->af tm 0= .aw 0 0 n->af tm 4=oV (n+1) k->af tm 5=ab (c+1:Nat)->∃(c k:Nat) (pvs:List AV) (ak:Hp) (aP:Nat),aJ [0,4,5] ⟨tm,hp,ct,0⟩=⟨[(0,.aw 0 0 n),(4,oV (n+1) k),(5,ab c)],ak,aP,0⟩/\bZ ak W (ax M c).1/\eA ak n k pvs/\(ax M c).2.length=k/\pvs=(ax M c).2.map (fun p:Nat=>ab p)/\c+(d-1)=W:=fun tm hp ct hM hV t0 t4 t5=>by
     refine ⟨c+1,k,pvs,?_⟩;rw [nn];cases k
     all_goals
      simp only [oV] at t4 ⊢;exact mS hM hV lW (by omega) (by simp only [go_sem,ya,t0,t4,t5,dl]<;>rfl) (fun S q3 q4=>by simp only [go_sem,t0,t4,t5,q3,q4,ub,xu,xt]<;>rfl) ⟨dj,ir,by omega⟩
    cases k
    all_goals
     simp only [oV] at f0 Q6 fin ⊢;simp only [go_sem,ya,sd,eW,show (c:Int)<W by omega,yr,show (0:Int)<n by omega,hkz];generalize hq:D P L (.loop [0,4,5,6] C9) _=q;obtain ⟨ex,st,rfl,tm,gU,GW,rfl,rfl,rL,AO,t0,t4,t5,t6⟩:=bq hq f0 ⟨_,mS hM hV lW (by omega) (by simp only [go_sem,ya,dl]<;>rfl) (fun S q3 q4=>by simp only [go_sem,ya,q3,q4,ub,xu,xt]<;>rfl) ⟨by omega,rm⟩⟩
     obtain ⟨Eg,e3,q1,q2⟩:=Q6 (ax M c).1 tm gU GW n rL lW AO t0 t4 t5 t6;simp only [go_sem,ya,e3,yr,wc];exact ⟨_,d-1,rfl,by omega,fin _ _ _ q1 q2 (by simp only [go_sem,ya]) (by simp only [go_sem,ya]) (by simp only [go_sem])⟩
  ·
   right
   have aJc:k=n:=by omega
   obtain ⟨d',hd'⟩:∃d',W=c+d':=⟨W-c,by omega⟩;have aA9:ax M W=ax M c:=by rw [hd'];exact aeo (by omega) d'
   rw [aA9];cases k
   ·omega
   ·rename_i k;simp only [oV];simp only [go_sem,ya,sd,eW,show (c:Int)<W by omega,yr,show ¬((k+1:Nat):Int)<n by omega,ym];exact ⟨_,_,rfl,by simp,_,_,_,_,pvs,rfl,rfl,hM,hV,dj,ir,by simp only [go_sem,ya],by simp only [go_sem,ya]<;>rfl⟩
 ·right
  have:c=W:=by omega
  subst this;cases k
  all_goals
   simp only [oV];simp only [go_sem,ya,sd,eW,show ¬(c:Int)<c by omega,ym];exact ⟨_,_,rfl,by simp,_,_,_,_,pvs,rfl,rfl,hM,hV,dj,ir,by simp only [go_sem,ya],by simp only [go_sem,ya]<;>rfl⟩
end
end
section
open Go (IntKind)
def nI (w:Nat) (M:Mx):List AV:=M.map fun r=> .aB false w (cr r)
def ahM {w:Nat}:∀{M:Mx},(∀r,r∈M->r.length=w)->b7 bm (nI w M) (M.map (xv RT))
 | [],_=>trivial
 | r::M,h=>⟨by
   have:=ai1 false r
   rwa [h r vD] at this,ahM (fun q hq=>h q (wS _ hq))⟩
def ats (w:Nat) (M:Mx) (k:Nat):(nI w M).take k=nI w (M.take k):=by simp [nI,List.map_take]
def bZ.an {hp:Hp} {w k:Nat} {M:Mx} (h:bZ hp w M) (hw:∀r,r∈M->r.length=w) (hn:M.length<=900) (hk:k<=M.length):∃ak,freeze deep hp (.aw 0 0 k)=some (.aB false k (nI w (M.take k)),ak)/\∀j,j≠0->(∀i,i<M.length->j≠i+1)->ay ak j=ay hp j:=by
 have hm:=h.m;rw [show ((xe M.length).map fun i=>AV.aw (i+1) 0 w)=((xe M.length).map (·+1)).map (fun i=> .aw i 0 w) by rw [wh];rfl] at hm
 obtain ⟨bl,e1,g1⟩:=adl (w:=w) ((xe M.length).map (·+1)) (M.map cr) hp 998 (by simp;omega) (by simp) (fun i h1 h2=>by
  simp only [yj,List.length_range] at h1;refine ⟨by rw [xo,Bk];exact hw _ (yE h1),true,?_⟩
  simp only [xo,uh]
  have:=h.r i h1
  rwa [eS h1] at this)
 have e2:(M.map cr).map (fun r=>AV.aB false w r)=nI w M:=by rw [wh];rfl
 rw [e2] at e1;have e3:oT 999 hp 0=some (false,1,nI w M,a6 bl 0 (.cells false false false 1 (((xe M.length).map (·+1)).map fun i=> .aw i 0 w))):=by
  rw [SO,hm];show (match cO 998 hp _ with | some (dX,ak)=>_ | none=>_)=_
  rw [e1]
 have lr:(nI w M).length=M.length:=by simp [nI]
 refine ⟨a6 bl 0 (.cells false false false 1 (((xe M.length).map (·+1)).map fun i=> .aw i 0 w)),?_,fun j hj Lg=>?_⟩
 ·show freeze (999+1) hp (.aw 0 0 k)=_
  rw [SN,e3];show (bif Nat.ble (0+k*1) (nI w M).length then _ else _)=_
  rw [lr,ye,yf,Nat.ble_eq_true_of_le hk];simp only [yA,Bool.false_and,slice,List.drop_zero,ats]
 ·rw [AT,yD hj];refine g1 j (fun hm=>?_);obtain ⟨i,hi,e⟩:=wQ.1 hm;exact Lg i (List.mem_range.1 hi) e.symm
def arp {hp:Hp} {w k:Nat} {M:Mx} {pvs:List AV} (h:bZ hp w M) (hw:∀r,r∈M->r.length=w) (hn:M.length<=900) (hk:k+1<=M.length) (hv:ay hp (M.length+1)=some (.cells true true false 1 pvs)) (hl:pvs.length=k+1):
  result hp (.ae [.aw 0 0 (k+1),.aw (M.length+1) 0 (k+1)])=some (.ae [.aB false (k+1) (nI w (M.take (k+1))),.bw false 1 (k+1) pvs]):=by
 obtain ⟨ak,e1,g1⟩:=h.an hw hn hk;have h1:A9 [.aw 0 0 (k+1),.aw (M.length+1) 0 (k+1)]=some [0,M.length+1]:=rfl;have e0:jY deep hp (.aw 0 0 (k+1))=freeze deep hp (.aw 0 0 (k+1)):=by
  simp only [jY,h.m]
 have e2:jY deep ak (.aw (M.length+1) 0 (k+1))=some (.bw false 1 (k+1) pvs,dK ak (M.length+1)):=ac2 (by rw [g1 _ (by omega) (fun i hi=>by omega)];exact hv) (by rw [hl,yf]) (by decide)
 simp only [result,h1,qM,e0,e1,e2]
def apJ {hp:Hp} {w:Nat} {M:Mx} (h:bZ hp w M) (hw:∀r,r∈M->r.length=w) (hn:M.length<=900):result hp (.ae [.aw 0 0 0,.aa])=some (.ae [.aB false 0 [],.aa]):=by
 obtain ⟨ak,e1,g1⟩:=h.an (k:=0) hw hn (Nat.zero_le _);have h1:A9 [.aw 0 0 0,.aa]=some [0]:=rfl;have e0:jY deep hp (.aw 0 0 0)=freeze deep hp (.aw 0 0 0):=by
  simp only [jY,h.m]
 have e2:jY deep ak .aa=some (.aa,ak):=rfl;have e3:nI w (M.take 0)=[]:=rfl;rw [e3] at e1;simp only [result,h1,qM,e0,e1,e2]
def att {live:List Nat} {tm tm':Env} {hp:Hp} {ct a w n:Nat} {ids:List Nat} {M:Mx} (Ld:M.length=n) (hE:fL (cC tm live)=[a]) (hm:ay hp a=some (.cells true false false 1 (ids.map fun i=> .aw i 0 w))) (hl:ids.length=M.length) (hr:∀i (h:i<ids.length),ay hp ids[i]=some (.cells true true false 1 (cr (gR M i)))) (hM:M.length<=10000) (hn:(a::ids).Nodup)
  (hT:∀S,fh a S 0=some 0->gm (pos S) (cC tm live)=tm'):∃ak,aJ live ⟨tm,hp,ct,0⟩=⟨tm',ak,1+n,0⟩/\bZ ak w M:=by
 obtain ⟨ak,aP,eX,e,q1,_,q3,_⟩:=NA (ct:=ct) (pl:=[]) hE hm hl hr hM (by simpa [fF] using hn) (fun _ h=>by cases h) (by simp)
 grind
section
variable {P:aM} {L:Lib}
def aDt {v:AV} {M:Mx} {w:Nat} (hv:bB bm v (M.map (xv RT))) (hw:∀r,r∈M->r.length=w) (rE:0<w) (mF:w<=1000) (h0:0<M.length) (hl:M.length<=1000) (jA:Has P L 354 lJ):∃hp ct,dO P L (D P L) [] 0 .heap (.fn (.f 354) [] []) [v]=some (.aw 0 0 M.length,hp,ct)/\bZ hp w M:=by
 have lv:∀hp:Hp,fE hp 1 v=some (ab M.length):=fun hp=>by have:=hv.len (hp:=hp);rwa [yj] at this
 have key:=eP (P:=P) (L:=L) (live:=[0,3,4]) (a:=zN)
  (I:=fun d st=>∃(i:Nat),i+d=M.length/\((i=0/\st=⟨[(0,v),(3,.aa),(4,ab i)],[],0,0⟩)\/(0<i/\∃hp,st=⟨[(0,v),(3,.aw 0 0 i),(4,ab i)],hp,1+i,0⟩/\bZ hp w (M.take i))))
  (Q:=fun ex st=>∃tm hp ct,st=⟨tm,hp,ct,0⟩/\ex= .exit 0/\af tm 3= .aw 0 0 M.length/\bZ hp w M) ?_
 ·have hb:∃tm hp ct,D P L lJ.body ⟨dM 0 [v],[],0,0⟩=some (.ret,⟨tm,hp,ct,0⟩)/\af tm 2= .aw 0 0 M.length/\bZ hp w M:=by
   simp only [go_sem,lJ];generalize hq:D P L (.loop [0,3,4] zN) _=q;obtain ⟨ex,st,rfl,tm,hp,ct,rfl,rfl,t3,hM⟩:=bq hq (key M.length) ⟨0,by omega,.inl ⟨rfl,by simp only [go_sem,ya,av,aq hv.pu,au _ hv.pu]<;>rfl⟩⟩
   obtain ⟨ak,aP,e,q1,_⟩:=mS (live:=[3]) (tm:=tm) (tm':=[(3,.aw 0 0 M.length)]) (ct:=ct) (k:=0) (pvs:=[]) (R:=True) hM (.inl rfl) rfl (by omega) (by simp only [go_sem,t3,dl]<;>rfl) (fun S q3 q4=>by simp only [go_sem,t3,q3]) trivial
   simp only [go_sem,e];exact ⟨_,_,_,rfl,by simp only [go_sem],q1⟩
  obtain ⟨tm,hp,ct,hb,t2,hM⟩:=hb;refine ⟨hp,ct,?_,hM⟩;show hZ P L (D P L) [] 0 354 [v]=_
  exact EU jA hb (.inr rfl) (by simp only [go_sem,lJ,t2])
 ·rintro d st ⟨i,hid,aO⟩;by_cases hi:i<M.length
  ·left
   obtain ⟨r,rest,hr,e0⟩:=hv.aU (i:=i) (by rw [yj];exact hi)
   rw [xo] at hr;have wr:=hw _ (yE hi);have hcr:∀hp:Hp,kJ hp 1 r=some (w,cr M[i]):=fun hp=>by
    rcases hr with ⟨rfl,h2⟩ | ⟨e,h2⟩
    ·have:=congrArg tD h2
     rw [yj,yj,yP] at this;omega
    ·have lc:((M[i].map RT).map AV.str).length=w:=by rw [yj,yj,wr]
     rw [lc] at h2;rw [h2];have e2:(M[i].map RT).map AV.str=cr M[i]:=by simp [cr]
     rw [e2] at lc ⊢;simp only [kJ,yf,lc,Nat.beq_refl,yA]
   have sA:∀hp:Hp,r5 hp 1 r=some (w,cr M[i]):=fun hp=>by
    rcases hr with ⟨rfl,h2⟩ | ⟨e,h2⟩
    ·have:=congrArg tD h2
     rw [yj,yj,yP] at this;omega
    ·have:=hcr hp
     rw [h2] at this ⊢;exact this
   have oC':cu (cr M[i])=true/\aK (cr M[i])=true:=by
    unfold cr
    induction M[i] with
    | nil=>exact ⟨rfl,rfl⟩
    | cons x l ih=>exact ⟨by simp [cu,ih.1,aht],by simp [aK,ih.2,aiF]⟩
   have lcr:(cr M[i]).length=w:=by rw [Bk,wr]
   have gj:(i:Int)<M.length:=by omega
   have w4:IntKind.wrap .i64 ((i:Int)+1)=((i+1:Nat):Int):=wrap64 (by omega) (by omega);have lt:(M.take (i+1)).length=i+1:=by rw [yy];omega
   have hap:∀(hp:Hp) (ct id:Nat),ay hp id=some (.cells true true true 1 [])->BM hp ct 1 16 (.aw id 0 0) (some (w,cr M[i]))=some (.aw ct 0 (0+w),(ct,.cells true true false 1 ([]++cr M[i]))::dK hp id,ct+1):=fun hp ct id hg=>by
    rw [fC (ex:=true) (pu:=true) (cs:=[]) hg rfl (by omega) (by omega) (by decide) oC'.1,oC'.2];rfl
   have gTi:gR (M.take (i+1)) i=M[i]:=by rw [eS (by omega),vU]
   rcases aO with ⟨H6,rfl⟩ | ⟨H6,hp,rfl,hM⟩
   ·subst H6;simp only [go_sem,ya,yb,xn,yF,yp,yf,zN,lv,gj,e0,SL,sA,hap,ye,xC,fQ,w4];refine ⟨_,d-1,rfl,by omega,1,by omega,.inr ⟨by omega,?_⟩⟩;refine ⟨[(1,.cells true true false 1 (cr M[0])),(0,.cells true false false 1 [.aw 1 0 w])],by simp only [go_sem,ya,yb,av,aq hv.pu,au _ hv.pu]<;>rfl,⟨?_,fun k hk=>?_⟩⟩
    ·rw [lt];rfl
    ·rw [lt] at hk
     have:k=0:=by omega
     subst this;rw [gTi];rfl
   ·have g0:=hM.m;have lti:(M.take i).length=i:=by rw [yy];omega
    rw [lti] at g0;have gr:=hM.r;rw [lti] at gr;simp only [go_sem,ya,yp,yf,zN,lv,gj,e0,SL,sA,hap,ye,xC]
    rw [fC (sz:=1) (ex:=false) (pu:=false) (cs:=(xe i).map fun j=> .aw (j+1) 0 w) (by rw [jo _ _ (by omega),jo _ _ (by omega),EH,yD (by omega)];exact g0) (by simp) (by omega) (by omega) (by decide) (by simp only [go_sem])]
    simp only [go_sem,ya,w4];refine ⟨_,d-1,rfl,by omega,i+1,by omega,.inr ⟨by omega,?_⟩⟩;have Gx:∀j (h:j<((xe i).map (·+1)++[1+i+1]).length),((xe i).map (·+1)++[1+i+1])[j]=if j<i then j+1 else i+2:=fun j h=>by
     by_cases hj:j<i
     ·rw [yT hj,List.getElem_append_left (by simpa using hj)];simp
     ·rw [yD hj,List.getElem_append_right (by simp;omega)];simp;omega
    have li:((xe i).map (·+1)++[1+i+1]).length=i+1:=by simp
    refine att (a:=1+i+1+1+1) (ids:=(xe i).map (·+1)++[1+i+1]) lt (by simp only [go_sem,ya,aq hv.pu]<;>rfl) (by rw [gZ,xg,wh];rfl) (by rw [li,lt]) (fun j hj=>by
     rw [Gx j hj];rw [li] at hj;by_cases Lg:j<i
     ·rw [yT Lg,jo _ _ (by omega),jo _ _ (by omega),jo _ _ (by omega),EH,yD (by omega),EH,yD (by omega),gr j Lg,eS (by omega),eS (by omega),vU,vU]
     ·have aDu:j=i:=by omega
      subst aDu;rw [yD (by omega),jo _ _ (by omega),jo _ _ (by omega),show j+2=1+j+1 by omega,gZ,gTi]) (by rw [lt];omega) (by
     unfold ybR;refine List.pairwise_cons.2 ⟨fun x hx=>?_,?_⟩
     ·obtain ⟨j,hj,rfl⟩:=ug.1 hx;rw [Gx j hj];split<;>omega
     ·rw [tK];intro x y hx hy hxy;rw [Gx x hx,Gx y hy]
      split<;>split<;>omega) (fun S q=>by simp only [go_sem,ya,q,au _ hv.pu]<;>rfl)
  ·right
   have:i=M.length:=by omega
   subst this;rcases aO with ⟨H6,rfl⟩ | ⟨H6,hp,rfl,hM⟩
   ·omega
   ·rw [xB] at hM;simp only [go_sem,ya,zN,lv,show ¬(M.length:Int)<M.length by omega];exact ⟨_,_,rfl,by simp,_,_,_,rfl,rfl,by simp only [go_sem,ya],hM⟩
def al8 (h:Rxi P L) (fV:Has P L 351 iM) (kV:Has P L 353 nZ) (jA:Has P L 354 lJ) (jz:Has P L 355 re) {v:AV} {M:Mx} {W:Nat} (hv:bB bm v (M.map (xv RT))) (hw:wid W M) (jU:0<W) (nG:W<=1000) (h0:0<M.length) (e9:M.length<=900) {K:Nat} (hk:cx K M) (gX:1<=K) (hK:4^M.length*(K+1)<=400000000):
  ∃r q,aj P L 353 [v] (.ae [r,q])/\bB bm (bQ r) (((ax M W).1.take (ax M W).2.length).map (xv RT))/\bC (bQ q) ((ax M W).2.map (fun p:Nat=>(p:Int))):=by
 have hwm:∀r,r∈M->r.length=W:=fun r hr=>CT hw hr
 obtain ⟨hp0,Ln,e1,QO⟩:=aDt (P:=P) (L:=L) hv hwm jU nG h0 (by omega) jA;have key:=azD (P:=P) (L:=L) h jz fV hw (by omega) rfl h0 (by omega) hk gX hK W;have hP:=pq hw W;have lm:=qP M W;have hRw:∀r,r∈(ax M W).1->r.length=W:=fun r hr=>CT hP.wid hr
 have body:∃tm hp ct k pvs,D P L nZ.body ⟨dM 0 [v],[],0,0⟩=some (.ret,⟨tm,hp,ct,0⟩)/\af tm 2= .aw 0 0 k/\af tm 3=oV (M.length+1) k/\bZ hp W (ax M W).1/\eA hp M.length k pvs/\(ax M W).2.length=k/\pvs=(ax M W).2.map (fun p:Nat=>ab p):=by
  have ec:∀tm,bf P L (D P L) tm [] 0 (.call .heap (.c (.fn (.f 354) [] [])) [.t 13])=dO P L (D P L) [] 0 .heap (.fn (.f 354) [] []) [af tm 13]:=fun tm=>rfl
  simp only [go_sem,ya,nZ,ec,e1];generalize hq:D P L (.loop [0,4,5] sd) _=q;obtain ⟨ex,st,rfl,tm,hp,ct,k,pvs,rfl,rfl,hM,hV,dj,ir,t0,t4⟩:=bq hq key ⟨0,0,[],mS QO (.inl rfl) rfl (by omega) (by simp only [go_sem,ya,dl]<;>rfl) (fun S q3 q4=>by simp only [go_sem,ya,q3]<;>rfl) ⟨rfl,rfl,by omega⟩⟩
  have AM:k<=M.length:=by have:=hP.pv;omega
  have BR:∃ak aP,aJ [0,4] ⟨tm,hp,ct,0⟩=⟨[(0,.aw 0 0 M.length),(4,oV (M.length+1) k)],ak,aP,0⟩/\bZ ak W (ax M W).1/\eA ak M.length k pvs/\True:=by
   cases k
   all_goals
    simp only [oV] at t4 ⊢;exact mS hM hV lm (by omega) (by simp only [go_sem,ya,t0,t4,dl]<;>rfl) (fun S q3 q4=>by simp only [go_sem,t0,t4,q3,q4,ub,xu,xt]<;>rfl) trivial
  obtain ⟨ak,aP,e2,q1,q2,_⟩:=BR;have g0:=q1.m;rcases k with _ | k1
  all_goals
   simp only [oV] at e2 ⊢;simp only [go_sem,ya,e2];rw [adj g0 (by simp only [go_sem,rN,Tl]) AM];simp only [go_sem,ya];exact ⟨_,_,_,_,pvs,rfl,by simp only [go_sem,ya],by simp only [go_sem],q1,q2,dj,ir⟩
 obtain ⟨tm,hp,ct,k,pvs,hb,t2,t3,hM,hV,dj,ir⟩:=body;have AM:k<=M.length:=by have:=hP.pv;omega
 rw [dj];have hA:∀k,k<=M.length->bB bm (.aB false k (nI W ((ax M W).1.take k))) (((ax M W).1.take k).map (xv RT)):=fun k hk=>by
  have:=rV false (ahM (w:=W) (M:=(ax M W).1.take k) (fun r hr=>hRw r (List.mem_of_mem_take hr)))
  rwa [yj,yy,xm (by omega)] at this
 rcases k with _ | k1
 ·simp only [oV] at t3;refine ⟨.aB false 0 [],.aa,?_,hA 0 (by omega),?_⟩
  ·unfold aj;rw [aI kV,hb];simp only [go_sem,nZ,t2,t3];exact apJ hM hRw (by omega)
  ·rw [yo dj];exact oW
 ·simp only [oV] at t3;have ep:pvs.length=k1+1:=by rw [ir,yj,dj]
  have hg:ay hp ((ax M W).1.length+1)=some (.cells true true false 1 pvs):=by
   rcases hV with hV | hV
   ·cases hV
   ·rw [lm];exact hV
  refine ⟨.aB false (k1+1) (nI W ((ax M W).1.take (k1+1))),.bw false 1 (k1+1) pvs,?_,hA (k1+1) AM,?_⟩
  ·unfold aj;rw [aI kV,hb]
   have:=arp hM hRw (by omega) (by omega) hg ep
   rw [lm] at this;simp only [go_sem,nZ,t2,t3];exact this
  ·have:=ET false pvs
   rw [ep] at this;show cW _ _
   rw [wh];rw [ir] at this ⊢;exact this
def al9 (h:Rxi P L) (fV:Has P L 351 iM) (kV:Has P L 353 nZ) (jA:Has P L 354 lJ) (jz:Has P L 355 re) (rn:Has P L 413 BH) {v:AV} {M:Mx} {W:Nat} (hv:bB bm v (M.map (xv RT))) (hw:wid W M) (jU:0<W) (nG:W<=1000) (h0:0<M.length) (e9:M.length<=900) {K:Nat} (hk:cx K M) (gX:1<=K) (hK:4^M.length*(K+1)<=400000000):
  ∃r,aj P L 413 [v] r/\shut r=r/\bB bm r (((ax M W).1.take (ax M W).2.length).map (xv RT)):=by
 obtain ⟨r,q,e1,hr,hq⟩:=al8 h fV kV jA jz hv hw jU nG h0 e9 hk gX hK;refine ⟨bQ r,?_,hr.shut,hr⟩;unfold aj at e1 ⊢;rw [aI rn];simp only [go_sem,ya,BH,hv.an,e1,mO,mL,mN,hr.fO]
def aDv (h:Rxi P L) (fV:Has P L 351 iM) (kV:Has P L 353 nZ) (jA:Has P L 354 lJ) (jz:Has P L 355 re) (rn:Has P L 413 BH) (Zw:Has P L 412 OJ) {v:AV} {M:Mx} {W:Nat} (hv:bB bm v (M.map (xv RT))) (hw:wid W M) (jU:0<W) (nG:W<=1000) (h0:0<M.length) (e9:M.length<=900) {K:Nat} (hk:cx K M) (gX:1<=K) (hK:4^M.length*(K+1)<=400000000):
  aj P L 412 [v] (ab ((ax M W).2.length:Nat)):=by
 obtain ⟨r,e1,e2,hr⟩:=al9 h fV kV jA jz rn hv hw jU nG h0 e9 hk gX hK;have hP:=pq hw W;have lr:∀hp:Hp,fE hp 1 r=some (ab ((ax M W).2.length:Nat)):=fun hp=>by
  have:=hr.len (hp:=hp)
  rw [yj,yy,qP,xm hP.pv] at this;exact this
 unfold aj at e1 ⊢;rw [aI Zw];simp only [go_sem,ya,OJ,hv.an,e1,e2,lr]
end
end
section
open Go (IntKind)
def atu (n:Nat):(yk n [48]).map AV.str=cr (yk n 0):=by
 simp [cr,Zs]
section
variable {P:aM} {L:Lib}
def azE {v rv qv:AV} (Ew:a7 v=true) (pr:a7 rv=true) {pv:List Nat} (hq:bC qv (pv.map (fun p:Nat=>(p:Int)))) {c j:Nat} (hl:pv.length<=1000) {out:List AV}:
  ∀(d:Nat) (st:St),(∃i:Nat,aJ [0,3,4,5,6,7,8] st=⟨[(0,v),(3,rv),(4,qv),(5,oV 0 j),(6,ab c),(7,.bool (!(pv.take i).contains c)),(8,ab i)],oH 0 1 out [] j,oC 0 j,0⟩/\i+d=pv.length)->
   ∃ex s',D P L (.loop [0,3,4,5,6,7,8] Dc) st=some (ex,s')/\∃tm ct,s'=⟨tm,oH 0 1 out [] j,ct,0⟩/\ex= .exit 2/\af tm 0=v/\af tm 3=rv/\af tm 4=qv/\af tm 5=oV 0 j/\af tm 6=ab c/\af tm 7= .bool (!pv.contains c):=by
 intro dq sq;generalize a8:aJ [0,3,4,5,6,7,8] sq=s0;revert a8 s0 sq dq;apply cY;rintro d st ⟨i,rfl,hid⟩;have zm:∀hp:Hp,fE hp 1 qv=some (ab pv.length):=fun hp=>by
  have:=hq.len (hp:=hp);rwa [yj] at this
 by_cases hi:i<pv.length
 ·left
  have ev:=hq.aU (i:=i) (by rw [yj];exact hi)
  rw [xo] at ev;have hb:(!(pv.take (i+1)).contains c)=(!(pv.take i).contains c&& !decide ((pv[i]:Int)=(c:Int))):=by
   rw [yW hi]
   have:decide ((pv[i]:Int)=(c:Int))=(c==pv[i]):=by
    by_cases q:pv[i]=c
    ·rw [q];simp
    ·rw [xa (by omega)];symm;simpa using fun e=>q e.symm
   rw [this];simp only [List.contains_eq_any_beq,uU,yay,List.any_nil,Bool.or_false,Bool.not_or]
  have w8:IntKind.wrap .i64 ((i:Int)+1)=((i+1:Nat):Int):=wrap64 (by omega) (by omega);have gj:(i:Int)<pv.length:=by omega
  cases hc:decide ((pv[i]:Int)=(c:Int))
  ·rw [hc,yM,Bool.and_true] at hb;cases j
   all_goals
    simp only [oV,oH,oC];simp only [go_sem,ya,yb,Dc,zm,gj,yr,ev,hc];refine ⟨_,d-1,rfl,by omega,i+1,?_,by omega⟩;rw [w8,hb];simp only [go_sem,ya,yb,av,aq Ew,au _ Ew,aq pr,au _ pr,aq hq.pu,au _ hq.pu]<;>rfl
  ·rw [hc,yO,Bool.and_false] at hb;cases j
   all_goals
    simp only [oV,oH,oC];simp only [go_sem,ya,yb,Dc,zm,gj,yr,ev,hc];refine ⟨_,d-1,rfl,by omega,i+1,?_,by omega⟩;rw [w8,hb];simp only [go_sem,ya,yb,av,aq Ew,au _ Ew,aq pr,au _ pr,aq hq.pu,au _ hq.pu]<;>rfl
 ·right
  have:i=pv.length:=by omega
  subst this;rw [xB];cases j
  all_goals
   simp only [oV,oH,oC];simp only [go_sem,ya,yb,Dc,zm,show ¬(pv.length:Int)<pv.length by omega,ym];exact ⟨_,_,rfl,by simp,_,_,rfl,rfl,by simp only [go_sem,ya],by simp only [go_sem,ya],by simp only [go_sem,ya],by simp only [go_sem,ya],by simp only [go_sem,ya],by simp only [go_sem,ya]⟩
def azF (h:Rp P L) {v rv qv:AV} (Ew:a7 v=true) {R:Mx} {pv:List Nat} (hr:bB bm rv (R.map (xv RT))) (hq:bC qv (pv.map (fun p:Nat=>(p:Int)))) {n c j:Nat} (hn:n<=1000) (hw:wid n R) (ep:pv.length<=R.length) (hl:R.length<=1000) (aZ:∀p,p∈pv->p<n) (hc:c<n) {K:Nat} (hk:cx K R) (hK:K<=8000000000) {out:List AV}:
  ∀(d:Nat) (st:St),(∃i:Nat,aJ [0,3,4,5,6,9,10] st=⟨[(0,v),(3,rv),(4,qv),(5,oV 0 j),(6,ab c),(9,.aw (oC 0 j) 0 n),(10,ab i)],(oC 0 j,.cells true true false 1 (cr (eO R pv n c i)))::oH 0 1 out [] j,oC 0 j+1,0⟩/\i+d=pv.length)->
   ∃ex s',D P L (.loop [0,3,4,5,6,9,10] Jt) st=some (ex,s')/\∃tm ct,s'=⟨tm,(oC 0 j,.cells true true false 1 (cr (eO R pv n c pv.length)))::oH 0 1 out [] j,ct,0⟩/\ex= .exit 4/\af tm 0=v/\af tm 3=rv/\af tm 4=qv/\af tm 5=oV 0 j/\af tm 6=ab c/\af tm 9= .aw (oC 0 j) 0 n:=by
 intro dq sq;generalize a8:aJ [0,3,4,5,6,9,10] sq=s0;revert a8 s0 sq dq;apply cY;rintro d st ⟨i,rfl,hid⟩;have zm:∀hp:Hp,fE hp 1 qv=some (ab pv.length):=fun hp=>by
  have:=hq.len (hp:=hp);rwa [yj] at this
 by_cases hi:i<pv.length
 ·left
  have oQ:i<R.length:=by omega
  obtain ⟨r0,rest,eN,e0⟩:=hr.aU (i:=i) (by rw [yj];exact oQ)
  rw [xo] at eN;have wr:=hw i oQ;have kr:=hk i oQ;rw [eS oQ] at wr kr;have e1:=eN.aU (i:=c) (by rw [yj];omega);rw [xo] at e1;have e2:=ajH h (kr _ (yE (show c<R[i].length by omega))) hK;have ev:=hq.aU (i:=i) (by rw [yj];exact hi)
  rw [xo] at ev;have kD:pv[i]<n:=aZ _ (yE hi);have hkv:eO R pv n c (i+1)=(eO R pv n c i).set pv[i] (-(R[i][c]'(by omega))):=by
   rw [eO,show pv.getD i 0=pv[i] by simp [List.getD_eq_getElem?_getD,List.getElem?_eq_getElem hi],eS oQ,jH (show c<R[i].length by omega)]
  have aO:=fun (hp:Hp) (ct id:Nat)=>Bx (hp:=hp) (ct:=ct) (id:=id) (ex:=false) (at_:=pv[i]) (r:= .str (RT (-(R[i][c]'(by omega))))) (rows:=cr (eO R pv n c i)) (by rw [Bk,zG];exact kD) rfl rfl
  simp only [NP,<-hkv] at aO;have G2:IntKind.wrap .i64 ((i:Int)+1)=((i+1:Nat):Int):=wrap64 (by omega) (by omega);have gj:(i:Int)<pv.length:=by omega
  unfold aj at e2;cases j
  all_goals
   simp only [oV,oH,oC];simp only [go_sem,ya,yb,yf,Jt,zm,gj,yr,ev,e0,e1,e2,rN,bN _ _ kD,ye,aO];refine ⟨_,d-1,rfl,by omega,i+1,?_,by omega⟩;rw [G2];simp only [go_sem,ya,yb,av,aq Ew,au _ Ew,aq hr.pu,au _ hr.pu,aq hq.pu,au _ hq.pu]<;>rfl
 ·right
  have:i=pv.length:=by omega
  subst this;cases j
  all_goals
   simp only [oV,oH,oC];simp only [go_sem,ya,yb,Jt,zm,show ¬(pv.length:Int)<pv.length by omega,ym];exact ⟨_,_,rfl,by simp,_,_,rfl,rfl,by simp only [go_sem,ya],by simp only [go_sem,ya],by simp only [go_sem,ya],by simp only [go_sem,ya],by simp only [go_sem,ya],by simp only [go_sem,ya]⟩
def azG (h:Rp P L) (JW:Has P L 351 iM) (DR:Has P L 332 FU) {v rv qv:AV} {M:List (List (List Nat))} (hv:bB bm v M) (h0:0<M.length) {R:Mx} {pv:List Nat} (hr:bB bm rv (R.map (xv RT))) (hq:bC qv (pv.map (fun p:Nat=>(p:Int)))) {n:Nat} (QU:wd M=n) (hn:n<=1000) (hw:wid n R) (ep:pv.length<=R.length) (hl:R.length<=1000) (aZ:∀p,p∈pv->p<n) {K:Nat} (hk:cx K R) (hK:K<=8000000000):
  ∀(d:Nat) (st:St),(∃(c j:Nat) (out:List AV),aJ [0,3,4,5,6] st=⟨[(0,v),(3,rv),(4,qv),(5,oV 0 j),(6,ab c)],oH 0 1 out [] j,oC 0 j,0⟩/\c+d=n/\j=(dL R pv n c).length/\b7 bm out ((dL R pv n c).map (xv RT)))->
   ∃ex s',D P L (.loop [0,3,4,5,6] Fs) st=some (ex,s')/\∃tm ct j out,s'=⟨tm,oH 0 1 out [] j,ct,0⟩/\ex= .exit 0/\af tm 5=oV 0 j/\j=(dL R pv n n).length/\b7 bm out ((dL R pv n n).map (xv RT)):=by
 intro dq sq;generalize a8:aJ [0,3,4,5,6] sq=s0;revert a8 s0 sq dq;apply cY;rintro d st ⟨c,j,out,rfl,QW,hj,hO⟩;have ew:=al4 (P:=P) (L:=L) JW hv h0;rw [QU] at ew;unfold aj at ew;by_cases hc:c<n
 ·left
  have hjc:j<=c:=by rw [hj];exact EO R pv n c
  have lo:=hO.len;rw [yj,<-hj] at lo;have f0:=azE (P:=P) (L:=L) hv.pu hr.pu hq (c:=c) (j:=j) (by omega) (out:=out) pv.length;have f1:=azF (P:=P) (L:=L) h hv.pu hr hq (j:=j) hn hw ep hl aZ hc hk hK (out:=out) pv.length;have ez:=aDk (P:=P) (L:=L) DR (n:=n) (by omega) (by omega);rw [atu] at ez;have sU:eO R pv n c 0=(yk n 0).set c 1:=rfl;have aO:=fun (hp:Hp) (ct id:Nat)=>Bx (hp:=hp) (ct:=ct) (id:=id) (ex:=false) (at_:=c) (r:= .str (RT 1)) (rows:=cr (yk n 0)) (by rw [Bk,List.length_replicate];exact hc) rfl rfl
  have jQ:(cr (yk n 0)).set c (.str (RT 1))=cr (eO R pv n c 0):=by rw [sU,NP]
  simp only [jQ] at aO;simp only [aC9] at aO;have wc:IntKind.wrap .i64 ((c:Int)+1)=((c+1:Nat):Int):=wrap64 (by omega) (by omega);have mK:(c:Int)<n:=by omega
  have fm:=fun hp:Hp=>kI (hp:=hp) (k:=n) (sz:=1) (cs:=cr (eO R pv n c pv.length)) false (by rw [Bk,zG,yf]) (by decide)
  unfold aj at ez;cases Ao:pv.contains c
  ·
   have eZ:dL R pv n (c+1)=dL R pv n c++[eO R pv n c pv.length]:=by
    rw [dL,Ao,yD (by decide)]
   have rK:b7 bm (out++[.aB false n (cr (eO R pv n c pv.length))]) ((dL R pv n (c+1)).map (xv RT)):=by
    rw [eZ,xg];refine hO.snoc ?_
    have:=ai1 false (eO R pv n c pv.length)
    rwa [zG] at this
   rcases j with _ | j1
   all_goals
    simp only [oV,oH,oC] at f0 f1 ⊢;simp only [go_sem,ya,yb,Fs,hv.an,ew,mK];generalize bI:D P L (.loop [0,3,4,5,6,7,8] Dc) _=q;obtain ⟨ex,st,rfl,tm,ct,rfl,rfl,t0,t3,t4,t5,t6,t7⟩:=bq bI f0 ⟨0,by simp only [go_sem,ya,yb,av,aq hv.pu,au _ hv.pu,aq hr.pu,au _ hr.pu,aq hq.pu,au _ hq.pu]<;>rfl,by omega⟩
    rw [Ao] at t7;simp only [go_sem,ya,yb,yf,av,t0,t3,t4,t5,t6,t7,aq hv.pu,au _ hv.pu,aq hr.pu,au _ hr.pu,aq hq.pu,au _ hq.pu,yM,yO,hv.an,ew,ez,ajv,bN _ _ hc,ye,aO];generalize qt:D P L (.loop [0,3,4,5,6,9,10] Jt) _=q2;obtain ⟨ex,st,rfl,tm,ct,rfl,rfl,t0,t3,t4,t5,t6,t9⟩:=bq qt f1 ⟨0,by simp only [go_sem,ya,yb,av,aq hv.pu,au _ hv.pu,aq hr.pu,au _ hr.pu,aq hq.pu,au _ hq.pu]<;>rfl,by omega⟩
    simp only [go_sem,ya,yb,yp,yf,av,t0,t3,t4,t5,t6,t9,aq hv.pu,au _ hv.pu,aq hr.pu,au _ hr.pu,aq hq.pu,au _ hq.pu,fm]
   ·rw [fQ (by decide) (by decide) (by decide) (by decide)];simp only [go_sem,ya,yb,wc];refine ⟨_,d-1,rfl,by omega,c+1,1,[.aB false n (cr (eO R pv n c pv.length))],?_,by omega,?_,?_⟩
    ·simp only [go_sem,ya,yb,av,aq hv.pu,au _ hv.pu,aq hr.pu,au _ hr.pu,aq hq.pu,au _ hq.pu]<;>rfl
    ·rw [eZ,yN,<-hj];rfl
    ·have:out=[]:=yo lo
     subst this;exact rK
   ·rw [fC (ex:=false) (pu:=true) (cs:=out) (by simp only [go_sem,ya]) (by rw [lo,yf]) (by omega) (by omega) (by decide) (by simp only [go_sem])];simp only [go_sem,ya,yb,wc];refine ⟨_,d-1,rfl,by omega,c+1,j1+1+1,out++[.aB false n (cr (eO R pv n c pv.length))],?_,by omega,?_,rK⟩
    ·simp only [go_sem,ya,yb,av,aq hv.pu,au _ hv.pu,aq hr.pu,au _ hr.pu,aq hq.pu,au _ hq.pu]<;>rfl
    ·rw [eZ,yN,<-hj];rfl
  ·
   have eZ:dL R pv n (c+1)=dL R pv n c:=by
    rw [dL,Ao,yT rfl]
   rcases j with _ | j1
   all_goals
    simp only [oV,oH,oC] at f0 ⊢;simp only [go_sem,ya,yb,Fs,hv.an,ew,mK];generalize bI:D P L (.loop [0,3,4,5,6,7,8] Dc) _=q;obtain ⟨ex,st,rfl,tm,ct,rfl,rfl,t0,t3,t4,t5,t6,t7⟩:=bq bI f0 ⟨0,by simp only [go_sem,ya,yb,av,aq hv.pu,au _ hv.pu,aq hr.pu,au _ hr.pu,aq hq.pu,au _ hq.pu]<;>rfl,by omega⟩
    rw [Ao] at t7;simp only [go_sem,ya,yb,av,t0,t3,t4,t5,t6,t7,aq hv.pu,au _ hv.pu,aq hr.pu,au _ hr.pu,aq hq.pu,au _ hq.pu,yO,yM,wc]
   ·refine ⟨_,d-1,rfl,by omega,c+1,0,out,?_,by omega,by rw [eZ];exact hj,by rw [eZ];exact hO⟩
    simp only [go_sem,ya,av,aq hv.pu,au _ hv.pu,aq hr.pu,au _ hr.pu,aq hq.pu,au _ hq.pu]<;>rfl
   ·refine ⟨_,d-1,rfl,by omega,c+1,j1+1,out,?_,by omega,by rw [eZ];exact hj,by rw [eZ];exact hO⟩
    simp only [go_sem,ya,yb,av,aq hv.pu,au _ hv.pu,aq hr.pu,au _ hr.pu,aq hq.pu,au _ hq.pu]<;>rfl
 ·right
  have:c=n:=by omega
  subst this;rcases j with _ | j1
  all_goals
   simp only [oV,oH,oC];simp only [go_sem,ya,yb,Fs,hv.an,ew,show ¬(c:Int)<c by omega,ym]
  ·exact ⟨_,_,rfl,by simp,_,_,0,out,rfl,rfl,by simp only [go_sem,ya]<;>rfl,hj,hO⟩
  ·exact ⟨_,_,rfl,by simp,_,_,j1+1,out,rfl,rfl,by simp only [go_sem,ya]<;>rfl,hj,hO⟩
end
end
section
open Go (IntKind)
section
variable {P:aM} {L:Lib}
def aBa (fV:Has P L 351 iM):dO P L (D P L) [] 0 .heap (.fn (.f 351) [] []) [.aa]=some (ab 0,[],0):=by
 have hb:∃tm,D P L iM.body ⟨dM 0 [.aa],[],0,0⟩=some (.ret,⟨tm,[],0,0⟩)/\af tm 2=ab 0:=by
  simp only [go_sem,ya,iM];exact ⟨_,rfl,by simp only [go_sem]⟩
 obtain ⟨tm,hb,t2⟩:=hb;show hZ P L (D P L) [] 0 351 [.aa]=_
 exact EU fV hb (.inr rfl) (by simp only [go_sem,iM,t2])
def aBb (jA:Has P L 354 lJ):dO P L (D P L) [] 0 .heap (.fn (.f 354) [] []) [.aa]=some (.aa,[],0):=by
 have key:=eP (P:=P) (L:=L) (live:=[0,3,4]) (a:=zN)
  (I:=fun d st=>st=⟨[(0,.aa),(3,.aa),(4,ab 0)],[],0,0⟩)
  (Q:=fun ex st=>∃tm ct,st=⟨tm,[],ct,0⟩/\ex= .exit 0/\af tm 3= .aa) ?_
 ·have hb:∃tm,D P L lJ.body ⟨dM 0 [.aa],[],0,0⟩=some (.ret,⟨tm,[],0,0⟩)/\af tm 2= .aa:=by
   simp only [go_sem,lJ];generalize hq:D P L (.loop [0,3,4] zN) _=q;obtain ⟨ex,st,rfl,tm,ct,rfl,rfl,t3⟩:=bq hq (key 0) (by simp only [go_sem,ya,av]<;>rfl)
   simp only [go_sem,av,t3];exact ⟨_,rfl,by simp only [go_sem]⟩
  obtain ⟨tm,hb,t2⟩:=hb;show hZ P L (D P L) [] 0 354 [.aa]=_
  exact EU jA hb (.inr rfl) (by simp only [go_sem,lJ,t2])
 ·rintro d st rfl;right
  simp only [go_sem,ya,zN,show decide ((0:Int)<0)=false by decide];exact ⟨_,_,rfl,by simp,_,_,rfl,rfl,by simp only [go_sem,ya]⟩
def aBc (fV:Has P L 351 iM) (kV:Has P L 353 nZ) (jA:Has P L 354 lJ):aj P L 353 [.aa] (.ae [.aa,.aa]):=by
 have e1:=aBb (P:=P) (L:=L) jA;have e2:=aBa (P:=P) (L:=L) fV;have key:=eP (P:=P) (L:=L) (live:=[0,4,5]) (a:=sd)
  (I:=fun d st=>st=⟨[(0,.aa),(4,.aa),(5,ab 0)],[],0,0⟩)
  (Q:=fun ex st=>∃tm ct,st=⟨tm,[],ct,0⟩/\ex= .exit 0/\af tm 0= .aa/\af tm 4= .aa) ?_
 ·have ec:∀tm,bf P L (D P L) tm [] 0 (.call .heap (.c (.fn (.f 354) [] [])) [.t 13])=dO P L (D P L) [] 0 .heap (.fn (.f 354) [] []) [af tm 13]:=fun tm=>rfl
  unfold aj;rw [aI kV];simp only [go_sem,ya,nZ,ec,e1];generalize hq:D P L (.loop [0,4,5] sd) _=q;obtain ⟨ex,st,rfl,tm,ct,rfl,rfl,t0,t4⟩:=bq hq (key 0) (by simp only [go_sem,ya,av]<;>rfl)
  have kj:∀tm,af tm 156= .int .i64 0->fg [] (.sl 1) .aa tm none (some (.t 156))=some .aa:=fun tm ht=>ad7 (by rw [dJ];show du (af tm 156)=_;rw [ht];rfl)
  simp only [go_sem,ya,av,t0,t4,kj];rfl
 ·rintro d st rfl;right
  have ec:∀tm,bf P L (D P L) tm [] 0 (.call .heap (.c (.fn (.f 351) [] [])) [.t 16])=dO P L (D P L) [] 0 .heap (.fn (.f 351) [] []) [af tm 16]:=fun tm=>rfl
  simp only [go_sem,ya,sd,ec,e2,show decide ((0:Int)<0)=false by decide];exact ⟨_,_,rfl,by simp,_,_,rfl,rfl,by simp only [go_sem,ya],by simp only [go_sem,ya]⟩
def aBd (fV:Has P L 351 iM) (kV:Has P L 353 nZ) (jA:Has P L 354 lJ) (rn:Has P L 413 BH):aj P L 413 [.aa] .aa:=by
 have e1:=aBc fV kV jA;unfold aj at e1 ⊢;rw [aI rn];simp only [go_sem,ya,BH,e1,mO,mL,mN]
def aDw (h:Rxi P L) (fV:Has P L 351 iM) (kV:Has P L 353 nZ) (jA:Has P L 354 lJ) (jz:Has P L 355 re) (rn:Has P L 413 BH) (DR:Has P L 332 FU) (P1:Has P L 411 sH) {v:AV} {M:Mx} {W:Nat} (hv:bB bm v (M.map (xv RT))) (hw:wid W M) (jU:0<W) (nG:W<=900) (h0:0<M.length) (e9:M.length<=900) {K:Nat} (hk:cx K M) (gX:1<=K) (hK:4^W*(4^M.length*(K+1)+1)<=400000000):
  ∃r,aj P L 411 [v] r/\shut r=r/\bB bm r ((lL M W).map (xv RT)):=by
 have hpw:1<=4^W:=Nat.pow_pos (by decide);have hK3:4^M.length*(K+1)<=400000000:=by
  have:=yQ (4^M.length*(K+1)+1) hpw
  omega
 obtain ⟨r,q,e3,Cz,oK⟩:=al8 h fV kV jA jz hv hw jU (by omega) h0 e9 hk gX hK3;obtain ⟨J,J2,J3,J4⟩:=TD hw hk gX;have hP:=pq hw W;have ir:=hP.pv;have ep:=hP.len;have hwt:=M9 hP.wid (ax M W).2.length;obtain ⟨J',J0',J1',J2'⟩:=Bv hw hk gX W (yv _);have hJ':J'<=8000000000:=by
  have h1:4^(ax M W).2.length<=4^M.length:=yY (by decide) hP.pv
  have:=yQ (K+1) h1
  omega
 have QU:wd (M.map (xv RT))=W:=by
  unfold wd;rw [JT (by rw [yj];exact h0),xo,yj]
  exact CT hw (yE h0)
 have f0:=azG (P:=P) (L:=L) h.toRp fV DR hv (by rw [yj];exact h0) Cz oK QU (by omega) hwt (by rw [yy];omega) (by rw [yy];omega) hP.lt (M8 J2' _) hJ' W
 have qB:∀c,dL ((ax M W).1.take (ax M W).2.length) (ax M W).2 W c=dL (ax M W).1 (ax M W).2 W c:=R6 _ (yv _) (by omega);simp only [qB] at f0;have lk:(gP M W).length<=W:=EO _ _ _ _;have Es:dL (ax M W).1 (ax M W).2 W W=gP M W:=rfl;rw [Es] at f0;unfold aj at e3;have JU:∃tm ct j bs,D P L (oe 3 sH.body) ⟨dM 0 [v],[],0,0⟩=some (.normal,⟨tm,oH 0 1 bs [] j,ct,0⟩)/\af tm 5=oV 0 j/\j=(gP M W).length/\b7 bm bs ((gP M W).map (xv RT)):=by
  simp only [go_sem,ya,sH,oe,bF,aC,hv.an,e3,mO,mL,mN];generalize hq:D P L (.loop [0,3,4,5,6] Fs) _=q;obtain ⟨ex,st,rfl,tm,ct,j,bs,rfl,rfl,t5,hj,hB⟩:=bq hq f0 ⟨0,0,[],by simp only [go_sem,ya,av,aq hv.pu,au _ hv.pu,aq Cz.pu,au _ Cz.pu,aq oK.pu,au _ oK.pu,oV,oH,oC]<;>rfl,by omega,rfl,trivial⟩
  refine ⟨[(5,oV 0 j)],oC 0 j,j,bs,?_,by simp only [go_sem],hj,hB⟩;cases j
  all_goals
   simp only [oV,oH,oC] at t5 ⊢;simp only [go_sem,yb,av,t5]
 obtain ⟨tm,ct,j,bs,hS,t5,hj,hB⟩:=JU;have hD:D P L sH.body ⟨dM 0 [v],[],0,0⟩=D P L (nW 3 sH.body) ⟨tm,oH 0 1 bs [] j,ct,0⟩:=by
  rw [Nv 3 (c:=sH.body) (by refine ⟨rfl,rfl,rfl,?_⟩;show _=_;rfl),hS,fK]
 have lb:=hB.len;rw [yj,<-hj] at lb
 cases hn:j with
 | zero=>
  rw [hn] at hj t5 hD;have hV:gP M W=[]:=yo hj.symm;have hQ:lL M W=[]:=by
   unfold lL;rw [hV]
   have:(ax [] W).1=[]:=yo (qP [] W)
   rw [this,List.take_nil]
  rw [hQ];have e4:=aBd (P:=P) (L:=L) fV kV jA rn;refine ⟨.aa,?_,rfl,rT⟩;unfold aj at e4 ⊢;rw [aI P1,hD];simp only [oV,oH] at t5 ⊢;simp only [go_sem,sH,nW,aC,t5,e4]
 | succ m=>
  rw [hn] at hj t5 hD lb;have hvB:bB bm (.aB false (m+1) bs) ((gP M W).map (xv RT)):=by
   have:=rV false hB
   rwa [yj,<-hj] at this
  have L4:4^(gP M W).length<=4^W:=yY (by decide) lk;have hKB:4^(gP M W).length*(J+1)<=400000000:=by
   have:=wu L4 (show J+1<=4^M.length*(K+1)+1 by omega)
   omega
  obtain ⟨r4,e4,s4,Et⟩:=al9 h fV kV jA jz rn hvB (IL _ _ _ _) jU (by omega) (by omega) (by omega) J4 (by omega) hKB;have fm:∀hp:Hp,jO 0 (m+1) (some (false,1,bs,hp))=some (.aB false (m+1) bs,hp):=fun hp=>kI false (by rw [lb,yf]) (by decide)
  refine ⟨r4,?_,s4,Et⟩;unfold aj at e4 ⊢;rw [aI P1,hD];simp only [oV,oH] at t5 ⊢;simp only [go_sem,sH,nW,aC,t5,fm,e4,Et.shut,Et.fO]
end
end
section
open Go (IntKind)
section
variable {P:aM} {L:Lib}
def ajR (h:Rl P L) (pQ:Has P L 316 DC) (sQ:Has P L 326 FT) {v:AV} {Q:Mx} (hv:bB bm v (Q.map (xv RT))) (hl:Q.length<=1000000) (hq:∀r,r∈Q->r.length<=1000000) {K:Nat} (hK:K<=4000000000) (hs:∀r,r∈Q->∀x,x∈r->Hq K x):aj P L 326 [v] (ab (if gY Q=true then 4 else 0)):=by
 have lv:∀hp:Hp,fE hp 1 v=some (ab Q.length):=fun hp=>by have:=hv.len (hp:=hp);rwa [yj] at this
 have key:=eP (P:=P) (L:=L) (live:=[0,3]) (a:=Fl)
  (I:=fun k st=>∃i:Nat,i+k=Q.length/\gY (Q.take i)=false/\st=⟨[(0,v),(3,ab i)],[],0,0⟩)
  (Q:=fun ex st=>∃tm hp ct,st=⟨tm,hp,ct,0⟩/\((ex= .ret/\af tm 2=ab 4/\gY Q=true)\/(ex= .exit 0/\gY Q=false))) ?_
 ·unfold aj;rw [aI sQ];simp only [go_sem,FT];generalize bI:D P L (.loop [0,3] Fl) _=q;obtain ⟨ex,st,rfl,tm,hp,ct,rfl,h2⟩:=bq bI (key Q.length) ⟨0,by omega,by simp [gY],by simp only [go_sem,ya,av,aq hv.pu,au _ hv.pu]<;>rfl⟩
  rcases h2 with ⟨rfl,h2,h3⟩ | ⟨rfl,h3⟩
  ·simp only [go_sem,h2,h3,xD]
  ·simp only [go_sem,av,h3];rfl
 ·rintro k st ⟨i,hk,hd,rfl⟩;by_cases hi:i<Q.length
  ·obtain ⟨r,rest,nk,ev⟩:=hv.aU (i:=i) (by rw [yj];exact hi)
   rw [xo] at nk;have e1:=aA3 h pQ nk (hq _ (yE hi)) (hs _ (yE hi)) hK;unfold aj at e1
   cases hb:(Q[i]).any LG with
   | false=>
    left
    rw [hb,yD (by decide)] at e1;simp only [go_sem,ya,Fl,lv,show (i:Int)<Q.length by omega,ev,nk.an,e1];refine ⟨_,k-1,rfl,by omega,i+1,by omega,?_,?_⟩
    ·unfold gY at hd ⊢;rw [yW hi,uU,hd,Bool.false_or,yay,hb];rfl
    ·rw [wrap64 (by omega) (by omega)];simp only [go_sem,ya,av,aq hv.pu,au _ hv.pu]<;>rfl
   | true=>
    right
    rw [hb,yT rfl] at e1;simp only [go_sem,ya,Fl,lv,show (i:Int)<Q.length by omega,ev,nk.an,e1,vP,ym];exact ⟨_,_,rfl,by simp,_,_,_,rfl,.inl ⟨rfl,by simp only [go_sem],List.any_eq_true.2 ⟨_,yE hi,hb⟩⟩⟩
  ·right
   simp only [go_sem,ya,Fl,lv,show ¬(i:Int)<Q.length by omega];refine ⟨_,_,rfl,by simp,_,_,_,rfl,.inr ⟨rfl,?_⟩⟩
   rwa [List.take_of_length_le (by omega)] at hd
def aDx (Cr:Has P L 28 D5) (Cs:Has P L 29 Cb) {u w:AV} {M:List (List (List Nat))} (hu:bB bm u M) (hw:bB bm w M) (hl:M.length<=1000000) (hm:∀r,r∈M->r.length<=1000000):aj P L 28 [u,w] (.bool true):=by
 have key:=eP (P:=P) (L:=L) (live:=[0,1,5]) (a:=JJ)
  (I:=fun k st=>∃i:Nat,i+k=M.length/\st=⟨[(0,u),(1,w),(5,ab i)],[],0,0⟩)
  (Q:=fun ex st=>∃tm hp ct,st=⟨tm,hp,ct,0⟩/\ex= .exit 0) ?_
 ·unfold aj;rw [aI Cr];simp only [go_sem,ya,D5,hu.len,hw.len,yr,yO];generalize bI:D P L (.loop [0,1,5] JJ) _=q;obtain ⟨ex,st,rfl,tm,hp,ct,rfl,rfl⟩:=bq bI (key M.length) ⟨0,by omega,by simp only [go_sem,ya,av,aq hu.pu,au _ hu.pu,aq hw.pu,au _ hw.pu]<;>rfl⟩
  simp only [go_sem,av]
 ·rintro k st ⟨i,hk,rfl⟩;by_cases hi:i<M.length
  ·left
   obtain ⟨r,rest,r1,v1⟩:=hu.aU hi;obtain ⟨r',aA5,r2,v2⟩:=hw.aU hi;have e1:=a29 Cs r1 r2 (hm _ (yE hi));unfold aj at e1;simp only [go_sem,ya,JJ,hu.len,show (i:Int)<M.length by omega,v1,v2,r1.an,r2.an,e1,yO];refine ⟨_,k-1,rfl,by omega,i+1,by omega,?_⟩;rw [wrap64 (by omega) (by omega)];simp only [go_sem,ya,av,aq hu.pu,au _ hu.pu,aq hw.pu,au _ hw.pu]<;>rfl
  ·right
   simp only [go_sem,ya,JJ,hu.len,show ¬(i:Int)<M.length by omega];exact ⟨_,_,rfl,by simp,_,_,_,rfl,rfl⟩
def SA (ow:Has P L 410 BG) {e:Int} (he:e≠0):aj P L 410 [.aa,ab e,ab e,.aa] (.bool true):=by
 unfold aj;rw [aI ow];simp only [go_sem,ya,BG,he,ym,yr,yM]
def aev (h:Rl P L) (pQ:Has P L 316 DC) (sQ:Has P L 326 FT) (ow:Has P L 410 BG) {w:AV} {Q:Mx} (hw:bB bm w (Q.map (xv RT))) (hl:Q.length<=1000000) (hq:∀r,r∈Q->r.length<=1000000) {K:Nat} (hK:K<=4000000000) (hs:∀r,r∈Q->∀x,x∈r->Hq K x) (hg:gY Q=true):aj P L 410 [.aa,ab 4,ab 0,w] (.bool true):=by
 have e1:=ajR h pQ sQ hw hl hq hK hs;rw [hg,yT rfl] at e1;unfold aj at e1 ⊢;rw [aI ow];simp only [go_sem,ya,BG,hw.an,e1,vP,ym,yr,yM]
def ahN (h:Rl P L) (Cr:Has P L 28 D5) (Cs:Has P L 29 Cb) (pQ:Has P L 316 DC) (sQ:Has P L 326 FT) (ow:Has P L 410 BG) {u w:AV} {Q:Mx} (hu:bB bm u (Q.map (xv RT))) (hw:bB bm w (Q.map (xv RT))) (hl:Q.length<=1000000) (hq:∀r,r∈Q->r.length<=1000000) {K:Nat} (hK:K<=4000000000) (hs:∀r,r∈Q->∀x,x∈r->Hq K x) (hg:gY Q=false):aj P L 410 [u,ab 0,ab 0,w] (.bool true):=by
 have e1:=ajR h pQ sQ hw hl hq hK hs;have e2:=aDx Cr Cs hu hw (by rw [yj];exact hl) (fun r hr=>by
  obtain ⟨q,h1,rfl⟩:=wQ.1 hr
  rw [yj];exact hq q h1)
 rw [hg,yD (by decide)] at e1;unfold aj at e1 e2 ⊢;rw [aI ow];simp only [go_sem,ya,BG,hu.an,hw.an,e1,e2,yr,yO]
end
def azH {M:Mx} {W K:Nat} (hw:wid W M) (hW:W<=1000) (hk:cx K M) (gX:1<=K) (hK:4^W*(4^M.length*(K+1)+1)<=400000000):(lL M W).length<=1000/\∀r,r∈lL M W->r.length=W/\∀x,x∈r->Hq 4000000000 x:=by
 obtain ⟨J,J2,J3,J4⟩:=TD hw hk gX;have lk:(gP M W).length<=W:=EO _ _ _ _;have hwV:wid W (gP M W):=IL _ _ _ _;have L5:=pq hwV W;obtain ⟨I,I0,I1,I2⟩:=Bv hwV J4 (by omega) W (yv _);have L4:4^(ax (gP M W) W).2.length<=4^W:=yY (by decide) (xj L5.pv lk);have hI:I<=4000000000:=by
  have h2:=wu L4 (show J+1<=4^M.length*(K+1)+1 by omega);omega
 unfold lL;refine ⟨by rw [yy,qP];omega,fun r hr=>⟨CT (M9 L5.wid _) hr,fun x hx=>(EX (M8 I2 _) hr x hx).mono hI⟩⟩
def azI {A B:Mx} {w K:Nat} (ka:cx K A) (kb:cx K B) (hA:∀a,a∈A->a.length<=64) (jV:2<=K) (hK:K<=1000000):∀r,r∈gD A B w->r.length=w/\∀x,x∈r->Hq 4000000000 x:=fun r hr=>by
 obtain ⟨a,ha,rfl⟩:=wQ.1 hr;refine ⟨CM _ _ _,fun z hz=>(aiY (EX ka ha) kb jV z hz).mono ?_⟩
 have:=wu (hA a ha) (show 2*K+1<=2000001 by omega)
 omega
end
section
open Go (IntKind)
structure Ia (P:aM) (L:Lib):Prop where
 m:QY P L
 x:Rxi P L
 Cr:Has P L 28 D5
 Cs:Has P L 29 Cb
 DQ:Has P L 200 pE
 DP:Has P L 204 pG
 K0:Has P L 205 Ke
 Gt:Has P L 261 Kg
 pQ:Has P L 316 DC
 sQ:Has P L 326 FT
 DR:Has P L 332 FU
 Gw:Has P L 343 FV
 K1:Has P L 347 Ks
 Zv:Has P L 348 OI
 K2:Has P L 349 Kt
 fV:Has P L 351 iM
 DS:Has P L 352 FW
 kV:Has P L 353 nZ
 jA:Has P L 354 lJ
 jz:Has P L 355 re
 P2:Has P L 408 BE
 P0:Has P L 409 BF
 ow:Has P L 410 BG
 P1:Has P L 411 sH
 Zw:Has P L 412 OJ
 rn:Has P L 413 BH
 aBe:aj P L 179 [] (.bool true)
def aew {a b:Int} (h:a≠0):cf [a,b]=a:=by unfold cf;rw [yD h]
def atv {b:Int}:cf [0,b]=b:=by
 unfold cf;unfold cf
 split<;>simp_all [cf]
section
variable {P:aM} {L:Lib}
def atw (h:Ia P L) {v:AV} {A:List (List (List Nat))} (hv:bB bm v A) (hA:fe A=0) (l5:A.length<=5/\wd A<=5) (hs:∀r,r∈A->r.length<=66/\∀s,s∈r->s.length<=40):
  ∃k ke kr Q1 Q2,aj P L 204 [v] (.ae [k,ab ke])/\bB bm (bQ k) Q1/\aj P L 411 [v] kr/\shut kr=kr/\bB bm kr Q2/\aj P L 410 [bQ k,ab ke,ab 0,kr] (.bool true):=by
 obtain ⟨m0,m64,ho⟩:=qV hA;have hk:cx 160 (bn A):=NO (fun r hr s gg=>⟨(ho r hr).2.2.2 s gg,(hs r hr).2 s gg⟩);have hw:=A3 (M:=A) (fun r hr=>(ho r hr).1);have jU:0<wd A:=by
  grind
 have L7:=S6 (A:=A) (fun r hr s gg=>(ho r hr).2.2.2 s gg);have p1:4^wd A<=4^5:=yY (by decide) l5.2;have p2:4^A.length<=4^5:=yY (by decide) l5.1;have hK:4^wd A*(4^A.length*(160+1)+1)<=400000000:=
  xj (wu p1 (Nat.add_le_add_right (yQ _ p2) 1)) (by decide)
 obtain ⟨kr,er,sr,hr⟩:=aDw h.x h.fV h.kV h.jA h.jz h.rn h.DR h.P1 (M:=bn A) (W:=wd A) (by rw [L7];exact hv) hw jU (by omega) (by rw [nL];exact m0) (by rw [nL];omega) hk (by omega) (by rw [nL];exact hK)
 obtain ⟨q1,q2⟩:=azH hw (by omega) hk (by omega) (by rw [nL];exact hK)
 have q3:∀r,r∈lL (bn A) (wd A)->r.length<=1000000:=fun r hr=>by rw [(q2 r hr).1];omega
 obtain ⟨g1,g2⟩:=(al1 h.m h.DP hv (by omega) (fun r hr=>⟨by have:=(hs r hr).1;omega,fun s gg=>by have:=(hs r hr).2 s gg;omega⟩)).2 hA hk (by omega) hK
 cases hg:gY (lL (bn A) (wd A)) with
 | true=>exact ⟨.aa,4,kr,[],_,g1 hg,rT,er,sr,hr,aev h.x.toRl h.pQ h.sQ h.ow hr (by omega) q3 (yv _) (fun r hr=>(q2 r hr).2) hg⟩
 | false=>
  obtain ⟨k,e1,jE⟩:=g2 hg;exact ⟨k,0,kr,_,_,e1,jE,er,sr,hr,ahN h.x.toRl h.Cr h.Cs h.pQ h.sQ h.ow jE hr (by omega) q3 (yv _) (fun r hr=>(q2 r hr).2) hg⟩
def atx (h:Ia P L) {u v:AV} {A B:List (List (List Nat))} (hu:bB bm u A) (hv:bB bm v B) (hA:fe A=0) (sa:∀r,r∈A->r.length<=66/\∀s,s∈r->s.length<=40) (lb:B.length<=66) (sb:∀r,r∈B->r.length<=66/\∀s,s∈r->s.length<=40):
  ∃k ke Q1,aj P L 200 [u,v] (.ae [k,ab ke])/\bB bm (bQ k) Q1/\(fe B≠0->aj P L 410 [bQ k,ab ke,ab (fe B),.aa] (.bool true))/\(fe B=0->wd A≠B.length->aj P L 410 [bQ k,ab ke,ab 2,.aa] (.bool true))/\
   (fe B=0->wd A=B.length->∃kr Q2,aj P L 348 [u,v] kr/\bB bm (shut kr) Q2/\aj P L 410 [bQ k,ab ke,ab 0,shut kr] (.bool true)):=by
 obtain ⟨m0,m64,ho⟩:=qV hA;obtain ⟨g1,g2⟩:=al2 h.m h.DQ hu hv (by omega) (by omega) (fun r hr=>⟨by have:=(sa r hr).1;omega,fun s gg=>by have:=(sa r hr).2 s gg;omega⟩) (fun r hr=>⟨by have:=(sb r hr).1;omega,fun s gg=>by have:=(sb r hr).2 s gg;omega⟩);rw [hA,atv] at g1;by_cases hB:fe B=0
 ·obtain ⟨g3,g4⟩:=g2 hA hB;by_cases qD:wd A=B.length
  ·obtain ⟨b0,b64,bo⟩:=qV hB;have ka:cx 160 (bn A):=NO (fun r hr s gg=>⟨(ho r hr).2.2.2 s gg,(sa r hr).2 s gg⟩);have kb:cx 160 (bn B):=NO (fun r hr s gg=>⟨(bo r hr).2.2.2 s gg,(sb r hr).2 s gg⟩);obtain ⟨kr,er,hr⟩:=aDo h.x.toRn h.K1 h.Zv h.K2 h.fV h.DS hu hv hA hB qD ka kb (by omega) (by omega);have q2:=azI (w:=wd B) ka kb (fun a ha=>by
    obtain ⟨r,hr,rfl⟩:=wQ.1 ha
    rw [yj];exact (ho r hr).2.2.1) (by omega) (by omega)
   have wB:wd B<=64:=by
    grind
   have q1:(gD (bn A) (bn B) (wd B)).length<=1000000:=by unfold gD;rw [yj,nL];omega
   have q3:∀r,r∈gD (bn A) (bn B) (wd B)->r.length<=1000000:=fun r hr=>by rw [(q2 r hr).1];omega
   obtain ⟨g5,g6⟩:=g4 qD ka kb (by omega) (by omega)
   cases hg:gY (gD (bn A) (bn B) (wd B)) with
   | true=>exact ⟨.aa,4,[],g5 hg,rT,fun q=>absurd hB q,fun _ q=>absurd qD q,fun _ _=>⟨kr,_,er,hr,aev h.x.toRl h.pQ h.sQ h.ow hr q1 q3 (yv _) (fun r hr=>(q2 r hr).2) hg⟩⟩
   | false=>
    obtain ⟨k,e1,jE⟩:=g6 hg;exact ⟨k,0,_,e1,jE,fun q=>absurd hB q,fun _ q=>absurd qD q,fun _ _=>⟨kr,_,er,hr,ahN h.x.toRl h.Cr h.Cs h.pQ h.sQ h.ow jE hr q1 q3 (yv _) (fun r hr=>(q2 r hr).2) hg⟩⟩
  ·exact ⟨.aa,2,[],g3 qD,rT,fun q=>absurd hB q,fun _ _=>SA h.ow (by decide),fun _ q=>absurd q qD⟩
 ·exact ⟨.aa,fe B,[],g1 hB,rT,fun _=>SA h.ow hB,fun q=>absurd q hB,fun q=>absurd q hB⟩
def anY (h:Ia P L) {u v:AV} {A B:List (List (List Nat))} (hu:bB bm u A) (hv:bB bm v B) (ra:∀r,r∈A->∀s,s∈r->s.length<9223372036854775808) (rb:∀r,r∈B->∀s,s∈r->s.length<9223372036854775808):aj P L 408 [u,v] (.bool true):=by
 have ea:=h.aBe;have s1:aj P L 409 [u,.int .i64 5] (.bool (CB 5 A)):=al6 h.P0 hu 5 ra (by decide);have s2:aj P L 409 [v,.int .i64 5] (.bool (CB 5 B)):=al6 h.P0 hv 5 rb (by decide);unfold aj at ea s1 s2
 cases Q8:CB 5 A with
 | false=>
  rw [Q8] at s1;unfold aj;rw [aI h.P2];simp only [go_sem,ya,BE,hu.an,ea,s1,yO,yM]
 | true=>
  rw [Q8] at s1
  cases shB:CB 5 B with
  | false=>
   rw [shB] at s2;unfold aj;rw [aI h.P2];simp only [go_sem,ya,BE,hu.an,hv.an,ea,s1,s2,yO,yM]
  | true=>
   rw [shB] at s2;obtain ⟨la,sa⟩:=ai0 (by decide) Q8;obtain ⟨lb,sb⟩:=ai0 (by decide) shB;have ta:∀r,r∈A->r.length<=1000000/\∀s,s∈r->s.length<=1000000000:=fun r hr=>⟨by have:=(sa r hr).1;omega,fun s hs=>by have:=(sa r hr).2 s hs;omega⟩
   have tb:∀r,r∈B->r.length<=1000000/\∀s,s∈r->s.length<=1000000000:=fun r hr=>⟨by have:=(sb r hr).1;omega,fun s hs=>by have:=(sb r hr).2 s hs;omega⟩
   have c1:=al3 h.x.toRm h.Gt h.Gw hu ra;have c2:=LZ h.m.toCk h.m.rk h.m.Am h.m.An h.m.Ep hu (by omega) ta;have c3:=al3 h.x.toRm h.Gt h.Gw hv rb;unfold aj at c1 c2 c3;by_cases hA:fe A=0
   ·rw [hA] at c1 c2;have l5:=avI Q8 hA;obtain ⟨m0,m64,ho⟩:=qV hA;obtain ⟨k,ke,kr,Q1,Q2,k1,k2,k3,k4,k5,k6⟩:=atw h hu hA l5 sa;obtain ⟨p,pe,Q3,p1,p2,p3,p4,p5⟩:=atx h hu hv hA sa lb sb;have hk:cx 160 (bn A):=NO (fun r hr s gg=>⟨(ho r hr).2.2.2 s gg,(sa r hr).2 s gg⟩);have hw:=A3 (M:=A) (fun r hr=>(ho r hr).1);have jU:0<wd A:=by
     have:=ho _ (yE m0)
     rw [<-this.1];exact this.2.1
    have L7:=S6 (A:=A) (fun r hr s gg=>(ho r hr).2.2.2 s gg);have hK:4^A.length*(160+1)<=400000000:=xj (yQ _ (yY (by decide) l5.1)) (by decide:4^5*(160+1)<=400000000);have r1:=(al0 h.m h.K0 hu (by omega) ta).2 hA hk (by omega) hK;have r2:=aDv h.x h.fV h.kV h.jA h.jz h.rn h.Zw (M:=bn A) (W:=wd A) (by rw [L7];exact hu) hw jU (by omega) (by rw [nL];exact m0) (by rw [nL];omega) hk (by omega) (by rw [nL];exact hK)
    obtain ⟨row,rest,nk,e0⟩:=hu.aU (i:=0) m0;have rE:A[0].length=wd A:=by rw [<-(ho _ (yE m0)).1]
    unfold aj at k1 k3 k6 p1 r1 r2;unfold aj;rw [aI h.P2];by_cases hB:fe B=0
    ·rw [hB] at c3;by_cases qD:wd A=B.length
     ·obtain ⟨z,Q4,z1,z2,z3⟩:=p5 hB qD;unfold aj at z1 z3;simp only [go_sem,ya,BE,hu.an,hv.len,hv.an,ea,s1,s2,yO,c1,c2,yr,k1,mO,mL,mN,k2.an,zq,r1,p1,p2.an,k3,k4,k5.an,k6,r2,c3,nF,e0,nk.len,show (A[0].length:Int)=B.length by omega,z1,z2.an,z3]
     ·have z3:=p4 hB qD;unfold aj at z3;simp only [go_sem,ya,BE,hu.an,hv.len,hv.an,ea,s1,s2,yO,yM,c1,c2,yr,ym,k1,mO,mL,mN,k2.an,zq,r1,p1,p2.an,k3,k4,k5.an,k6,r2,c3,nF,e0,nk.len,show ¬(A[0].length:Int)=B.length by omega,z3,vP]
    ·have z3:=p3 hB;unfold aj at z3;simp only [go_sem,ya,BE,hu.an,hv.an,ea,s1,s2,yO,yM,c1,c2,yr,ym,k1,mO,mL,mN,k2.an,zq,r1,p1,p2.an,k3,k4,k5.an,k6,r2,c3,hB,z3]
   ·have k1:=(al1 h.m h.DP hu (by omega) ta).1 hA;have r1:=(al0 h.m h.K0 hu (by omega) ta).1 hA;have p1:=(al2 h.m h.DQ hu hv (by omega) (by omega) ta tb).1 (by rw [aew hA];exact hA)
    rw [aew hA] at p1;have z1:=SA (P:=P) (L:=L) h.ow hA;unfold aj at k1 r1 p1 z1 ⊢;rw [aI h.P2];simp only [go_sem,ya,BE,hu.an,hv.an,ea,s1,s2,yO,yM,c1,c2,hA,yr,ym,k1,mO,mL,mN,My,zq,r1,p1,z1]
end
end
section
open Go (IntKind)
abbrev JX:Ty:= .sl .str
abbrev Ib:List Ty:=[.sl JX,.sl JX]
def Ob (s:List Nat):Prop:=s.length<9223372036854775808
def adp:∀{ps:List (List AV)},(∀p,p∈ps->mI .str p)->∃l:List (List Nat),l.length=ps.length/\ps.flatten=l.map AV.str/\∀s,s∈l->Ob s
 | [],_=>⟨[],rfl,rfl,fun _ h=>by cases h⟩
 | p::ps,h=>by
  obtain ⟨s,rfl,hs,_⟩:=h p vD;obtain ⟨l,h1,h2,h3⟩:=adp (ps:=ps) (fun q hq=>h q (wS _ hq))
  exact ⟨s::l,by simp [h1],by simp [h2],fun q hq=>by
   rcases wR.1 hq with rfl | hq
   ·exact hs
   ·exact h3 q hq⟩
def aty {l:List AV} (h:mI JX l):∃(v:AV) (m:List (List Nat)),l=[v]/\bm v m/\∀s,s∈m->Ob s:=by
 rcases h with rfl | ⟨x,ps,rfl,h⟩
 ·exact ⟨_,[],rfl,oW,fun _ h=>by cases h⟩
 ·obtain ⟨m,h1,h2,h3⟩:=adp h;refine ⟨_,m,rfl,?_,h3⟩;rw [h2,<-h1];exact IX x m
def aex:∀{ps:List (List AV)},(∀p,p∈ps->mI JX p)->∃M:List (List (List Nat)),M.length=ps.length/\b7 bm ps.flatten M/\∀r,r∈M->∀s,s∈r->Ob s
 | [],_=>⟨[],rfl,trivial,fun _ h=>by cases h⟩
 | p::ps,h=>by
  obtain ⟨v,m,rfl,hv,hm⟩:=aty (h p vD);obtain ⟨M,h1,h2,h3⟩:=aex (ps:=ps) (fun q hq=>h q (wS _ hq))
  exact ⟨m::M,by simp [h1],⟨hv,h2⟩,fun q hq=>by
   rcases wR.1 hq with rfl | hq
   ·exact hm
   ·exact h3 q hq⟩
def ahO {l:List AV} (h:mI (.sl JX) l):∃(v:AV) (M:List (List (List Nat))),l=[v]/\bB bm v M/\∀r,r∈M->∀s,s∈r->Ob s:=by
 rcases h with rfl | ⟨x,ps,rfl,h⟩
 ·exact ⟨_,[],rfl,rT,fun _ h=>by cases h⟩
 ·obtain ⟨M,h1,h2,h3⟩:=aex h;refine ⟨_,M,rfl,?_,h3⟩;rw [<-h1];exact rV x h2
def anV {P:aM} {L:Lib} (h:Ia P L) {ls:List (List AV)} (hs:b7 mI Ib ls):aj P L 408 (JP Ib ls) (.bool true):=by
 obtain ⟨_,_,rfl,h1,h2⟩:=ay0 hs;obtain ⟨u,A,rfl,hu,ra⟩:=ahO h1;obtain ⟨v,B,rfl,hv,rb⟩:=ahO h2;exact anY h hu hv ra rb
end
section
namespace J2
open Go Go.Proofs
def T:List (Tr ap):=[.n 179 [.o 7 [] (.bool true)] .l .l]
def L0:VE.Lib:=TB VE.aE 99 Nt
def L1:VE.Lib:=OK L0 T 1000
def nu:Nu VE.prog VE.aE:=by
 repeat' (first | rfl | constructor)
def lw:Ia VE.prog L1:=by
 repeat' (first | rfl | constructor)
section
variable {W:World} {m:Int} (hm:W.cell? ⟨1,0,none⟩=some (.int .i64 m)) (ht:Go.Lib.TabIs Tryz.prog W "internal/strconv.uint64pow10" .u64 Go.Lib.pow10Tab)
include hm ht
def linked:eR ((J1.O W).zE L1):=by
 have hO:=J1.auf hm ht;have hs:=aq7 hO nu rfl rfl rfl ⟨rfl,rfl,rfl⟩ (fn:=Tryz.f172) (c:=BV) Tryz.func172 rfl rfl trivial atd;have hT:eY (J1.O W) T:=eY.cons (Tr.jI (kT.one (p7.holds hO rfl rfl)) Tr.iY Tr.iY) eY.nil;exact aeS (aq8 hO hs) hT 1000
def law {ls:List (List AV)} (hs:b7 mI Ib ls):eH (J1.O W) 408 (JP Ib ls) (.bool true):=by
 obtain ⟨k,hk⟩:=aiB (anV lw hs);exact sound (linked hm ht) hk
end
end J2
end
end VE
