import Derived.Test.YtjemkccfpkgopaaGreatDoorXau
import Derived.Test.YtjemkccfpkgopaaGreatDoorXao
import Derived.Test.YtjemkccfpkgopaaGreatDoorXar
import Derived.Test.YtjemkccfpkgopaaGreatDoorXas
set_option linter.all false
set_option maxRecDepth 100000
open Bool renaming and_eq_true→ye,not_false→yP,not_true→yM
open List renaming all_eq_true→uv,getElem_map→wu,getElem_mem→yF,length_map→yt,map→xH,map_congr_left→wW,map_cons→xc,map_id→uY,map_map→vE,mem_map→xZ,mem_map_of_mem→vY,mem_singleton→xF,nil_append→xG,replicate→ym,zipWith→wT
open Nat renaming mul_le_mul_right→yV,mul_one→yh,pow_le_pow_right→xh,reduceAdd→yb,reduceEqDiff→ya,zero_add→yf
namespace VE
section
open Go (IntKind)
structure Qo (P:aI) (L:Lib):Prop where
 m:Li P L
 x:Rxi P L
 K8:Has P L 28 F8
 Ho:Has P L 29 DC
 qO:Has P L 200 nU
 Dk:Has P L 201 nV
 Pd:Has P L 205 Js
 FN:Has P L 261 Ju
 FO:Has P L 343 Ff
 Kk:Has P L 352 JE
 zV:Has P L 359 rW
 Dj:Has P L 364 Fg
 Pe:Has P L 432 JF
 zX:Has P L 433 iW
 aAB:aj P L 179 [] (.bool true)
def adC {A:List (List (List Nat))} (hA:fj A=0) (hf:pJ 4 4 4 A=true):A.length<=4/\wd A<=4/\(∀r,r∈A->∀s,s∈r->s.length<=10)/\cX 16 (bF A):=by
 unfold pJ at hf;simp only [ye,xI,uv] at hf;obtain ⟨h1,h2⟩:=hf;have h3:∀r,r∈A->r.length<=4/\∀s,s∈r->kR 4 s=true:=fun r hr=>by
  have:=h2 r hr
  unfold kM at this;simp only [ye,xI,uv] at this;exact this
 have h5:pJ 5 5 4 A=true:=by
  unfold pJ kM;simp only [ye,xI,uv]
  exact ⟨by omega,fun r hr=>⟨by have:=(h3 r hr).1;omega,(h3 r hr).2⟩⟩
 obtain ⟨g1,g2,g3,g4⟩:=au4 hA h5;obtain ⟨m0,m64,ho⟩:=AZ hA;have hm:=yF m0;exact ⟨h1,by rw [<-(ho _ hm).1];exact (h3 _ hm).1,g3,g4⟩
def avc (r:List Rat):cy (cr r)=true/\aG (cr r)=true:=by
 unfold cr
 induction r with
 | nil=>exact ⟨rfl,rfl⟩
 | cons x l ih=>exact ⟨by simp [cy,ih.1,agA],by simp [aG,ih.2,ah0]⟩
def acq:∀l:List (List Nat),cf bZ (wT (fun w r=>AV.aA true w r) (ym l.length 1) (l.map fun s=>[AV.str s])) (l.map fun s=>[s])
 | []=>trivial
 | s::l=>by
  rw [List.length_cons,List.replicate_succ,xc,xc,List.zipWith_cons_cons];exact ⟨MK true [s],acq l⟩
section
variable {P:aI} {L:Lib}
def anv (h:Qo P L) {u ov xv:AV} {M O:List (List (List Nat))} {l:List (List Nat)} (hu:cg bZ u M) (ho:cg bZ ov O) (hx:bZ xv l) (rM:∀r,r∈M->∀s,s∈r->s.length<9223372036854775808) (rO:∀r,r∈O->∀s,s∈r->s.length<9223372036854775808) (rl:∀s,s∈l->s.length<9223372036854775808):aj P L 433 [u,ov,xv] (.bool true):=by
 have ea:=h.aAB;have c1:=alt h.x.toRm h.FN h.FO hu rM;have c2:=alt h.x.toRm h.FN h.FO ho rO;unfold aj at ea c1 c2;by_cases hM:fj M=0
 ·rw [hM] at c1;by_cases hO:fj O=0
  ·rw [hO] at c2;have c3:aj P L 432 [u,.int .i64 4,.int .i64 4,.int .i64 4] (.bool (pJ 4 4 4 M)):=alu h.x.toRm h.zV h.Dj h.Pe hu hM (n:=4) (c:=4) (k:=4) (by decide) (by decide) (by decide) rM;have c4:aj P L 432 [ov,.int .i64 4,.int .i64 4,.int .i64 4] (.bool (pJ 4 4 4 O)):=alu h.x.toRm h.zV h.Dj h.Pe ho hO (n:=4) (c:=4) (k:=4) (by decide) (by decide) (by decide) rO;have c5:aj P L 364 [xv,.int .i64 4,.int .i64 4] (.bool (kM 4 4 l)):=ajc h.x.toRm h.zV h.Dj hx (n:=4) (k:=4) (by decide) (by decide) rl;obtain ⟨m0,m64,mo⟩:=AZ hM;obtain ⟨o0,o64,oo⟩:=AZ hO;obtain ⟨row,rest,ff,e0⟩:=hu.aQ (i:=0) m0;have iG:M[0].length=wd M:=(mo _ (yF m0)).1;unfold aj at c3 c4 c5
   cases f3:pJ 4 4 4 M with
   | false=>
    rw [f3] at c3;unfold aj;rw [aH h.zX];simp only [go_sem,ya,iW,hu.ak,ho.ak,ea,c1,c2,c3,yq,yM,yP]
   | true=>
    rw [f3] at c3
    cases f4:pJ 4 4 4 O with
    | false=>
     rw [f4] at c4;unfold aj;rw [aH h.zX];simp only [go_sem,ya,iW,hu.ak,ho.ak,ea,c1,c2,c3,c4,yq,yM,yP]
    | true=>
     rw [f4] at c4;by_cases lV:l.length=wd M
     ·have E2:(l.length:Int)=(wd M:Nat):=by omega
      cases f5:kM 4 4 l with
      | false=>
       rw [f5] at c5;unfold aj;rw [aH h.zX];simp only [go_sem,ya,iW,hu.ak,ho.ak,hx.len,hx.ak,ea,c1,c2,c3,c4,c5,im,e0,ff.len,iG,E2,yq,yM,yP]
      | true=>
       rw [f5] at c5;obtain ⟨m4,wm4,m10,kA⟩:=adC hM f3;obtain ⟨o4,wo4,Zu,kB⟩:=adC hO f4;have hl4:∀s,s∈l->kR 4 s=true:=by
        unfold kM at f5;simp only [ye,xI,uv] at f5;exact f5.2
       have sE:0<wd M:=by
        have:=mo _ (yF m0)
        rw [<-this.1];exact this.2.1
       have nB:0<wd O:=by
        have:=oo _ (yF o0)
        rw [<-this.1];exact this.2.1
       have Ar:=Ec (M:=M) (fun r hr=>(mo r hr).1);have Qb:=Ec (M:=O) (fun r hr=>(oo r hr).1);have hRA:=agS (A:=M) (fun r hr s An=>(mo r hr).2.2.2 s An);have hRB:=agS (A:=O) (fun r hr s An=>(oo r hr).2.2.2 s An);have lA:=H4 M;have lB:=H4 O;have hXl:(l.map bK).map RT=l:=by
        rw [vE];refine (wW (fun s hs=>?_)).trans (uY l)
        exact (Ea (SD (k:=4) (by decide) (hl4 s hs)).2.1).1.symm
       have kX:∀x,x∈l.map bK->Hq 16 x:=fun x hx=>by
        obtain ⟨s,hs,rfl⟩:=xZ.1 hx
        exact (SD (k:=4) (by decide) (hl4 s hs)).2.2
       have lX:(l.map bK).length=wd M:=by rw [yt];exact lV
       have f0:=ay3 (P:=P) (L:=L) hu.pu ho.pu hx (by omega) (by omega) l.length;have ay5:∃hp ct,D P L (mF 3 iW.body) ⟨eh 0 [u,ov,xv],[],0,0⟩=some (.normal,⟨[(0,u),(1,ov),(2,xv),(7,.aB 0 0 l.length)],hp,ct,0⟩)/\me hp false true 1 (ym l.length 1) (l.map fun s=>[.str s]) 0:=by
        simp only [go_sem,ya,iW,mF,bt,aC,hu.ak,ho.ak,hx.len,hx.ak,ea,c1,c2,c3,c4,c5,im,e0,ff.len,iG,E2,yq,yM];rw [<-E2];generalize hq:D P L (.loop [0,1,2,7,61,62] EI) _=q;obtain ⟨ex,st,rfl,tm,hp,ct,rfl,rfl,t0,t1,t2,t7,hG⟩:=bQ hq f0 ⟨0,by omega,.inl ⟨rfl,by simp only [go_sem,ya,ax,au hu.pu,ay _ hu.pu,au ho.pu,ay _ ho.pu,au hx.pu,ay _ hx.pu]<;>rfl⟩⟩
        obtain ⟨ap,e,hG'⟩:=hG.comp (ct:=ct) (live:=[0,1,2,7]) (tm:=tm) (tm':=[(0,u),(1,ov),(2,xv),(7,.aB 0 0 l.length)]) (by simp only [go_sem,t0,t1,t2,t7,au hu.pu,au ho.pu,au hx.pu]<;>rfl) (by rw [yt];omega) (fun S q=>by simp only [go_sem,t0,t1,t2,t7,q,ay _ hu.pu,ay _ ho.pu,ay _ hx.pu]<;>rfl)
        simp only [go_sem,e];exact ⟨_,_,rfl,hG'⟩
       obtain ⟨hp0,DA,hS,hG⟩:=ay5;have hD:D P L iW.body ⟨eh 0 [u,ov,xv],[],0,0⟩=D P L (jv 3 iW.body) ⟨[(0,u),(1,ov),(2,xv),(7,.aB 0 0 l.length)],hp0,DA,0⟩:=by
        rw [Ij 3 (c:=iW.body) (by refine ⟨rfl,rfl,rfl,?_⟩;show _=_;rfl),hS,fm]
       obtain ⟨cv,Y6⟩:∃cv:AV,cv= .aA false l.length (wT (fun w r=>AV.aA true w r) (ym l.length 1) (l.map fun s=>[.str s])):=⟨_,rfl⟩;have hc:cg bZ cv ((dE (l.map bK)).map (xH RT)):=by
        have h1:=AJ false (acq l);rw [yt] at h1;have h2:(dE (l.map bK)).map (xH RT)=l.map fun s=>[s]:=by
         conv=>rhs;rw [<-hXl]
         simp [dE]
        rw [h2,Y6];exact h1
       have Bg:∀hp:Hp,iX 0 l.length (some (false,1,wT (fun w r=>AV.aA true w r) (ym l.length 1) (l.map fun s=>[.str s]),hp))=some (cv,hp):=fun hp=>by
        rw [Y6];exact lC false (by rw [acp (by simp)];simp) (by decide)
       obtain ⟨jJ,ez⟩:=hG.zP (n:=998) (by decide) (fun i h1 h2=>by simp) (by rw [yt];omega);have g0:=hG.m;obtain ⟨_,pm⟩:=MO (K:=16) (a:=wd M) (b:=1) h.m h.qO (u:=u) (v:=cv) (A:=bF M) (B:=dE (l.map bK)) (by rw [hRA];exact hu) hc Ar (RH _) (by omega) (by omega) (by simp [dE];omega) (by simp [dE];omega) sE (by omega) (by decide) (by decide) kA (fun i hi x hx=>by
        rw [di hi] at hx;simp only [dE,wu,xF] at hx
        rw [hx];exact kX _ (vY (yF _))) (by decide) (by omega)
       obtain ⟨p,p1,hp⟩:=pm (by simp [dE];omega);rw [RI] at hp;have lpv:∀hq:Hp,fP hq 1 (bH p)=some (ab M.length):=fun hq=>by
        have:=hp.len (hp:=hq)
        rw [yt] at this;simpa [dE,Ed,lA] using this
       have r1:=(aCB h.m h.Pd hu (by omega) (fun r hr=>⟨by have:=(mo r hr).2.2.1;omega,fun s hs=>by have:=m10 r hr s hs;omega⟩)).2 hM kA (by decide) (by
        have:=xh (n:=4) (by decide) m4
        have:=yV (16+1) this
        omega)
       have f1:=ay4 h.x h.Kk (u:=u) (ov:=ov) (xv:=xv) (cv:=cv) (pv:=bH p) (A:=bF M) (X:=l.map bK) (w:=wd M) (by rw [hRA];exact hu) ho.pu (by rw [hXl];exact hx) hc.pu hp Ar lX (by omega) (by omega) kA kX (by decide) (by decide) (rk:=(aJ (bF M) (wd M)).2.length) (bF M).length
       rw [lA] at f1;unfold aj at p1 r1;have w0:IntKind.wrap .i64 (0+0)=0:=rfl;obtain ⟨k,hk⟩:∃k,M.length=k+1:=⟨M.length-1,by omega⟩;have ay6:D P L iW.body ⟨eh 0 [u,ov,xv],[],0,0⟩=D P L (jv 4 (jv 3 iW.body)) ⟨[(0,u),(1,ov),(2,xv),(7,cv),(9,bH p),(11,ab (aJ (bF M) (wd M)).2.length),(13,.aB 0 0 (k+1))],[(0,.cells true true false 1 (cr (dJ (bF M) (l.map bK))))],1,0⟩:=by
        have hSB:D P L (mF 4 (jv 3 iW.body)) ⟨[(0,u),(1,ov),(2,xv),(7,.aB 0 0 l.length)],hp0,DA,0⟩=some (.normal,⟨[(0,u),(1,ov),(2,xv),(7,cv),(9,bH p),(11,ab (aJ (bF M) (wd M)).2.length),(13,.aB 0 0 (k+1))],[(0,.cells true true false 1 (cr (dJ (bF M) (l.map bK))))],1,0⟩):=by
         simp only [go_sem,ya,iW,mF,jv,bt,aC,hu.len,hu.ak,hc.ak,g0,ez,Bg,p1,oQ,oN,oO,sR,r1,w0,lpv,yq,yM];generalize hq:D P L (.loop [0,1,2,7,9,11,13,97,98] EJ) _=q;obtain ⟨ex,st,rfl,tm,ct,rfl,rfl,t0,t1,t2,t7,t9,t11,t13⟩:=bQ hq f1 ⟨0,by omega,by simp only [go_sem,ya,ax,oV,oH,oC,au hu.pu,ay _ hu.pu,au ho.pu,ay _ ho.pu,au hx.pu,ay _ hx.pu,au hc.pu,ay _ hc.pu,au hp.pu,ay _ hp.pu]<;>rfl⟩
         rw [hk] at t13 ⊢;simp only [oV,oH] at t13 ⊢;simp only [go_sem,yb,ax,t0,t1,t2,t7,t9,t11,t13,au hu.pu,ay _ hu.pu,au ho.pu,ay _ ho.pu,au hx.pu,ay _ hx.pu,au hc.pu,ay _ hc.pu,au hp.pu,ay _ hp.pu]
         try rfl
        rw [hD,Ij 4 (c:=jv 3 iW.body) (by refine ⟨rfl,rfl,rfl,rfl,?_⟩;show _=_;rfl),hSB,fm]
       have hDB:=ay6;have hPA:=AY Ar (wd M);have lb:=Ed (bF M) (l.map bK);have kc:cX 134 (dt (bF M) (dE (l.map bK)) 1):=by
        have:=Sa (w:=1) Ar kA (B:=dE (l.map bK)) (fun i hi x hx=>by
         rw [di hi] at hx;simp only [dE,wu,xF] at hx
         rw [hx];exact kX _ (vY (yF _))) (by decide)
        exact this.mono (by omega)
       rw [RI] at kc;have kb:∀x,x∈dJ (bF M) (l.map bK)->Hq 134 x:=fun x hx=>by
        refine Ct kc (r:=[x]) ?_ x (by simp);unfold dE;exact vY hx
       have ol:((dJ (bF M) (l.map bK)).map RT).map bK=dJ (bF M) (l.map bK):=by
        rw [vE];refine (wW (fun x hx=>?_)).trans (uY _);obtain ⟨h1,h2⟩:=IU (kb x hx) (by decide);exact adu h1 h2
       have hb:bZ (.aA false (k+1) (cr (dJ (bF M) (l.map bK)))) ((dJ (bF M) (l.map bK)).map RT):=by
        have:=ayX false (dJ (bF M) (l.map bK))
        rwa [lb,lA,hk] at this
       obtain ⟨_,g2⟩:=aCI h.m h.Dk hu hb (by omega) (by rw [yt];omega) (fun r hr=>⟨by have:=(mo r hr).2.2.1;omega,fun s hs=>by have:=m10 r hr s hs;omega⟩) (fun s hs=>by
        obtain ⟨x,hx,rfl⟩:=xZ.1 hs
        have:=IT (kb x hx)
        omega)
       have g3:=g2 hM (H5 (fun z hz=>by
        obtain ⟨s,hs,rfl⟩:=xZ.1 hz;obtain ⟨x,hx,rfl⟩:=xZ.1 hs
        exact aik (kb x hx) (by decide))) (by rw [yt,lb,lA]) (K:=134) (fun i hi x hx=>(kA i hi x hx).mono (by decide)) (by rw [ol];exact kb) (by decide) (by
        have:=xh (n:=4) (by decide) m4
        have:=yV (134+1) this
        omega)
       rw [ol] at g3;have Qa:(cr (dJ (bF M) (l.map bK))).length=k+1:=by rw [ain,lb,lA,hk]
       have oC:=avc (dJ (bF M) (l.map bK));have mz:Ge 0 (k+1) 1 (some (.cells true true false 1 (cr (dJ (bF M) (l.map bK)))))=some (k+1,cr (dJ (bF M) (l.map bK))):=aug (by rw [Qa,yh]);have Ds:∀(hp:Hp) (ct id:Nat),aq hp id=some (.cells true true true 1 [])->rY hp ct 1 16 (.aB id 0 0) (some (k+1,cr (dJ (bF M) (l.map bK))))=some (.aB ct 0 (0+(k+1)),(ct,.cells true true false 1 ([]++cr (dJ (bF M) (l.map bK))))::dP hp id,ct+1):=fun hp ct id hg=>by
        rw [fY (ex:=true) (pu:=true) (cs:=[]) hg rfl (by omega) (by omega) (by decide) oC.1,oC.2];rfl
       have fI:∀hp:Hp,iX 0 (k+1) (some (false,1,cr (dJ (bF M) (l.map bK)),hp))=some (.aA false (k+1) (cr (dJ (bF M) (l.map bK))),hp):=fun hp=>lC false (by rw [Qa,yh]) (by decide)
       by_cases PW:(aJ (bF M) (wd M)).2.length=wd M
       ·obtain ⟨er,Km⟩:=ava Ar lX sE PW;have aCM:(l.map bK).any LG=false:=by
         rw [List.any_eq_false];intro x hx;rw [Bool.not_eq_true];exact ai8 (kX x hx) (by decide)
        obtain ⟨y,z1,hy⟩:=(g3.2 er).2 (by rw [Km];exact aCM)
        rw [Km,hXl] at hy;have z2:=a29 h.Ho hy hx (by omega);have BK:¬(((aJ (bF M) (wd M)).2.length:Nat):Int)<(wd M:Nat):=by omega
        obtain ⟨aH9,aHN,aje,e0o⟩:=ho.aQ (i:=0) o0;have Ag:O[0].length=wd O:=(oo _ (yF o0)).1;obtain ⟨q1,q2⟩:=MO (K:=16) (a:=wd O) (b:=wd M) h.m h.qO (u:=ov) (v:=u) (A:=bF O) (B:=bF M) (by rw [hRB];exact ho) (by rw [hRA];exact hu) Qb Ar (by omega) (by omega) (by omega) (by omega) nB (by omega) sE (by omega) kB kA (by decide) (by omega)
        rw [lA] at q1 q2;unfold aj at z1 z2;by_cases hOM:wd O=M.length
        ·obtain ⟨a,q3,ha⟩:=q2 hOM;have kL:cX 134 (dt (bF O) (bF M) (wd M)):=(Sa Qb kB kA (by decide)).mono (by omega);have lL:=Mn (bF O) (bF M) (wd M);obtain ⟨_,q4⟩:=MO (K:=134) (a:=wd M) (b:=1) h.m h.qO (u:=bH a) (v:=cv) (A:=dt (bF O) (bF M) (wd M)) (B:=dE (l.map bK)) ha hc (H6 _ _ _) (RH _) (by omega) (by omega) (by simp [dE];omega) (by simp [dE];omega) sE (by omega) (by decide) (by decide) kL (fun i hi x hx=>by
          rw [di hi] at hx;simp only [dE,wu,xF] at hx
          rw [hx];exact (kX _ (vY (yF _))).mono (by decide)) (by decide) (by omega)
         obtain ⟨b1,q5,jB⟩:=q4 (by simp [dE];omega);obtain ⟨_,q6⟩:=MO (K:=134) (a:=wd O) (b:=1) h.m h.qO (u:=ov) (v:=bH p) (A:=bF O) (B:=dE (dJ (bF M) (l.map bK))) (by rw [hRB];exact ho) hp Qb (RH _) (by omega) (by omega) (by simp [dE,lb,lA];omega) (by simp [dE,lb,lA];omega) nB (by omega) (by decide) (by decide) (kB.mono (by decide)) kc (by decide) (by omega)
         obtain ⟨b2,q7,KT⟩:=q6 (by simp [dE,lb,lA];omega);have aCN:=ao1 (A:=bF O) (B:=bF M) (C:=dE (l.map bK)) (c:=1) Qb Ar (by omega);rw [aCN,RI] at jB;have lO:((dt (bF O) (dE (dJ (bF M) (l.map bK))) 1).map (xH RT)).length=O.length:=by rw [yt,Mn,lB]
         have q8:=aCG h.K8 h.Ho jB KT (by omega) (fun r hr=>by
          obtain ⟨s,hs,rfl⟩:=xZ.1 hr
          have:=zg (H6 (bF O) (dE (dJ (bF M) (l.map bK))) 1) hs
          rw [yt,this];decide)
         have l1:∀hq:Hp,fP hq 1 (bH b1)=some (ab O.length):=fun hq=>by
          have:=jB.len (hp:=hq);rwa [lO] at this
         unfold aj at q3 q5 q7 q8 ⊢;rw [aH h.zX,hDB];simp only [go_sem,ya,yb,yh,iW,jv,aC,hu.len,hu.ak,ho.len,ho.ak,hx.ak,hc.ak,hp.ak,mz,Ds,yf,xG,fI,z1,oQ,oN,oO,hy.ak,sR,im,e0,ff.len,iG,BK,yy,yq,yM,z2,q3,e0o,aje.len,Ag,show (wd O:Int)=M.length by omega,ha.ak,q5,q7,jB.ak,KT.ak,w0,l1,q8]
        ·have q3:=q1 hOM;unfold aj at q3 ⊢;rw [aH h.zX,hDB];simp only [go_sem,ya,yb,yh,iW,jv,aC,hu.len,hu.ak,ho.ak,hx.ak,mz,Ds,yf,xG,fI,z1,oQ,oN,oO,hy.ak,HG,sR,im,e0,ff.len,iG,BK,yy,yq,yM,yP,z2,q3,e0o,aje.len,Ag,show ¬(wd O:Int)=M.length by omega]
       ·have z1:=g3.1 (avb Ar sE PW);have aX:(((aJ (bF M) (wd M)).2.length:Nat):Int)<(wd M:Nat):=by
         have:=au3 Ar
         omega
        unfold aj at z1 ⊢;rw [aH h.zX,hDB];simp only [go_sem,ya,yb,yh,iW,jv,aC,hu.ak,mz,Ds,yf,xG,fI,z1,oQ,oN,oO,HG,sR,im,e0,ff.len,iG,aX,yq]
     ·have E2:¬(l.length:Int)=(wd M:Nat):=by omega
      unfold aj;rw [aH h.zX];simp only [go_sem,ya,iW,hu.ak,ho.ak,hx.len,ea,c1,c2,c3,c4,im,e0,ff.len,iG,E2,yy,yq,yM,yP]
  ·unfold aj;rw [aH h.zX];simp only [go_sem,ya,iW,hu.ak,ho.ak,ea,c1,c2,hO,yy,yq,yM,yP]
 ·unfold aj;rw [aH h.zX];simp only [go_sem,ya,iW,hu.ak,ea,c1,hM,yy,yM,yP]
end
end
section
open Go (IntKind)
abbrev HI:List Ty:=[.sl E0,.sl E0,E0]
def ann {P:aI} {L:Lib} (h:Qo P L) {ls:List (List AV)} (hs:cf mS HI ls):aj P L 433 (Jc HI ls) (.bool true):=by
 obtain ⟨_,_,_,rfl,h1,h2,h3⟩:=ayv hs;obtain ⟨u,A,rfl,hu,ra⟩:=agU h1;obtain ⟨v,B,rfl,hv,rb⟩:=agU h2;obtain ⟨x,l,rfl,hx,rl⟩:=adw h3;exact anv h hu hv hx ra rb rl
end
section
namespace J2
open Go Go.Proofs
def T:List (Tr an):=[.n 179 [.o 7 [] (.bool true)] .l .l]
def L0:VE.Lib:=SA VE.aE 99 MG
def L1:VE.Lib:=NY L0 T 1000
def nu:Nu VE.prog VE.aE:=by
 repeat' (first | rfl | constructor)
def lw:Qo VE.prog L1:=by
 repeat' (first | rfl | constructor)
section
variable {W:World} {m:Int} (hm:W.cell? ⟨1,0,none⟩=some (.int .i64 m)) (ht:Go.Lib.TabIs Tryz.prog W "internal/strconv.uint64pow10" .u64 Go.Lib.pow10Tab)
include hm ht
def linked:eD ((J1.O W).zd L1):=by
 have hO:=J1.atu hm ht;have hs:=aqs hO nu rfl rfl rfl ⟨rfl,rfl,rfl⟩ (fn:=Tryz.f172) (c:=Bw) Tryz.func172 rfl rfl trivial asx;have hT:eL (J1.O W) T:=eL.cons (Tr.jE (kP.one (pR.holds hO rfl rfl)) Tr.iQ Tr.iQ) eL.nil;exact adY (aqt hO hs) hT 1000
def law {ls:List (List AV)} (hs:cf mS HI ls):ep (J1.O W) 433 (Jc HI ls) (.bool true):=by
 obtain ⟨k,hk⟩:=ahV (ann lw hs);exact sound (linked hm ht) hk
end
end J2
end
end VE
