import Derived.Test.YtpdlhopnhojpjaaGreatDoorTaq
import Derived.Test.YtpdlhopnhojpjaaGreatDoorTap
import Derived.Test.YtpdlhopnhojpjaaGreatDoorTao
import Derived.Test.YtpdlhopnhojpjaaGreatDoorTaj
import Derived.Test.YtpdlhopnhojpjaaGreatDoorTam
import Derived.Test.YtpdlhopnhojpjaaGreatDoorTan
set_option linter.all false
set_option maxRecDepth 100000
open Bool renaming and_eq_true_iff→uY,false_and→wC,false_or→vJ,not_false→yR,not_not→ybN,not_true→yP,true_and→wH
open List renaming all_cons→yaH,all_eq_true→uD,drop_eq_getElem_cons→yN,drop_length→uX,ext_getElem→uC,getElem_map→yV,getElem_mem→yB,getElem_range→vj,length_append→yE,length_map→yi,length_range→tS,length_set→xD,map_congr_left→vd,mem_map→wD,replicate→yd,zipWith→wm
open Nat renaming le_refl→yo,mul_one→yf,reduceAdd→yb,reduceEqDiff→ya,reduceLT→yH,reduceLeDiff→ym
open Rat renaming add_zero→ybT
namespace VE
section
open Go (IntKind)
def jd (m:Mx) (ld:Rat):Nat->Mx
 | 0=>m
 | k+1=>(jd m ld k).set k ((gR (jd m ld k) k).set k (aW (gR (jd m ld k) k) k+ld))
def BT (m:Mx) (ld:Rat):∀k,(jd m ld k).length=m.length
 | 0=>rfl
 | k+1=>by rw [jd,xD,BT m ld k]
def FL {m:Mx} {w:Nat} (ld:Rat) (hw:wid w m):∀k,wid w (jd m ld k)
 | 0=>hw
 | k+1=>fun i hi=>by
  rw [jd,xD] at hi;rw [jd,ib]
  split
  ·rename_i h;rw [xD,FL ld hw k k (by omega)]
  ·exact FL ld hw k i hi
def KV {m:Mx} {w:Nat} (ld:Rat) (hw:wid w m) (hl:m.length=w) {i j:Nat} (hi:i<w) (hj:j<w):∀k,k<=w->E (jd m ld k) i j=if i=j/\i<k then E m i j+ld else E m i j
 | 0,_=>by rw [yk (by omega)];rfl
 | k+1,hk=>by
  have ih:=KV ld hw hl hi hj k (by omega);have ih2:=KV ld hw hl (i:=k) (j:=k) (by omega) (by omega) k (by omega);have hlen:=BT m ld k;unfold E at ih ih2 ⊢;rw [jd,ib];by_cases h:k=i
  ·subst h;rw [yy ⟨rfl,by omega⟩,ada];by_cases h2:k=j
   ·subst h2;rw [yy ⟨rfl,by rw [FL ld hw k k (by omega)];exact hi⟩,yy ⟨rfl,by omega⟩,ih2,yk (by omega)]
   ·rw [yk (fun q=>h2 q.1),yk (fun q=>h2 q.1),ih,yk (fun q=>h2 q.1)]
  ·rw [yk (fun q=>h q.1),ih];by_cases h3:i=j/\i<k
   ·rw [yy h3,yy ⟨h3.1,by omega⟩]
   ·rw [yk h3,yk (fun q=>h3 ⟨q.1,by omega⟩)]
def ayn {m:Mx} {w K:Nat} {ld:Rat} (hw:wid w m) (hl:m.length=w) (kR:b9 K m) (kl:Hq K ld):b9 (K+K+1) (jd m ld w):=fun i hi x hx=>by
 rw [BT] at hi;obtain ⟨j,hj,rfl⟩:=List.mem_iff_getElem.1 hx;have He:j<w:=by rw [FL ld hw w i (by rw [BT];exact hi)] at hj;exact hj
 have:=KV ld hw hl (show i<w by omega) He w (yo w)
 have hE:Hq K (E m i j):=by
  unfold E;rw [db (by rw [hw i hi];exact He)]
  exact kR i hi _ (yB _)
 unfold E at this;rw [db hj] at this;rw [this]
 split
 ·exact hE.add kl
 ·exact hE.mono (by omega)
def bE.toG {hp:Hp} {w:Nat} {M:Mx} (h:bE hp w M):fj hp false false 1 (yd M.length w) (M.map cr) 0:=by
 refine ⟨by simp,?_,fun i hi=>?_⟩
 ·rw [h.m,yi]
  have:=ac3 w (dT M.length)
  rw [jM] at this;unfold cQ;rw [this];simp [dT,Function.comp_def]
 ·rw [yi] at hi;rw [h.r i hi,mG (by rw [yi];exact hi),yV,cm hi]
section
variable {P:aG} {L:Lib}
def awr (h:Rn P L) {bv tv:AV} (pb:a7 bv=true) (pt:a7 tv=true) {m:Mx} {ld:Rat} {w:Nat} (hw:wid w m) (hl:m.length=w) (jb:w<=900) {K:Nat} (kR:b9 K m) (kl:Hq K ld) (hK:K<=1000000000):
  ∀(d:Nat) (st:St),(∃(i:Nat) (hp:Hp) (ct:Nat),aH [1,2,7,8,9] st=⟨[(1,bv),(2,.str (RT ld)),(7,tv),(8,.ak 0 0 w),(9,aa i)],hp,ct,0⟩/\bE hp w (jd m ld i)/\i+d=w)->
   ∃ex s',D P L (.loop [1,2,7,8,9] Kg) st=some (ex,s')/\∃tm hp ct,s'=⟨tm,hp,ct,0⟩/\ex= .exit 0/\bE hp w (jd m ld w)/\af tm 1=bv/\af tm 7=tv/\af tm 8= .ak 0 0 w:=by
 intro dq sq;generalize bh:aH [1,2,7,8,9] sq=s0;revert bh s0 sq dq;apply dj;rintro d st ⟨i,hp,ct,rfl,hM,hid⟩;have lg:=BT m ld i;by_cases hi:i<w
 ·left
  have wi:=FL ld hw i i (by omega);obtain ⟨r,d0⟩:=bE.drop (n:=(jd m ld i).length) (p:=i) (w:=w) (by omega);have g0:=hM.m;have ga:=hM.r i (by omega);have dp:=Dy (r:=gR (jd m ld i) i) (c:=i) (by omega);have hE:Hq K (aW (gR (jd m ld i) i) i):=by
   have:=KV ld hw hl hi hi i (by omega)
   rw [yk (by omega)] at this;unfold E at this;rw [this,db (by rw [hw i (by omega)];exact hi)]
   exact kR i (by omega) _ (yB _)
  have e1:=Vb h.toRp hE kl (by omega);have aK:=fun (ct:Nat)=>Pz (hp:=hp) (ct:=ct) (id:=i+1) (ex:=false) (at_:=i) (r:= .str (RT (aW (gR (jd m ld i) i) i+ld))) (rows:=cr (gR (jd m ld i) i)) (by rw [qF];omega) rfl rfl
  simp only [O2] at aK;have fW:=hM.set (i:=i) (by omega) ((gR (jd m ld i) i).set i (aW (gR (jd m ld i) i) i+ld));have Ff:bE _ w (jd m ld (i+1)):=fW;have w9:IntKind.wrap .i64 ((i:Int)+1)=((i+1:Nat):Int):=wrap64 (by omega) (by omega);unfold aj at e1;simp only [go_sem,ya,yf,Kg,show (i:Int)<w by omega,yr,bA 0 0 hi,Nat.zero_add,g0,d0,ga,bA (i+1) 0 hi,dp,e1,aK,w9];refine ⟨_,d-1,rfl,by omega,i+1,?_⟩
  suffices hq:∃ah aM,aH [1,2,7,8,9] _=_/\bE ah w (jd m ld (i+1))/\dV ah w 0 []/\i+1+(d-1)=w by
   obtain ⟨ah,aM,q1,q2,_,q4⟩:=hq;exact ⟨ah,aM,q1,q2,q4⟩
  exact kS Ff (.inl rfl) (by rw [BT,hl]) (by omega) (by simp only [go_sem,ya,di,aq pb,aq pt]<;>rfl) (fun S q3 q4=>by simp only [go_sem,ya,q3,au _ pb,au _ pt]<;>rfl) (by omega)
 ·right
  have:i=w:=by omega
  subst this;simp only [go_sem,ya,Kg,show ¬(i:Int)<i by omega];exact ⟨_,_,rfl,by simp,_,_,_,rfl,rfl,hM,by simp only [go_sem,ya],by simp only [go_sem,ya],by simp only [go_sem,ya]⟩
def aws {K J:Nat} {m:Mx} (h:b9 K m) (hJ:K<=J):b9 J m:=fun i hi x hx=>(h i hi x hx).mono hJ
def gC (R:Mx) (w:Nat) (ld:Rat):Mx:=jd (iE (cC R w) R w) ld w
def ik (R:Mx) (w:Nat) (b:List Rat):List Rat:=nE (cC R w) b
def awt {l:List (List Nat)} (h:∀s,s∈l->bJ s=0):(l.map aZ).map RT=l:=by
 rw [List.map_map]
 have:∀s,s∈l->(RT∘aZ) s=s:=fun s hs=>(BL (h s hs)).1.symm
 rw [vd this];exact List.map_id l
def FE (R:Mx) (w:Nat) (ld:Rat):wid w (gC R w ld):=FL ld (Tt _ _ _) w
def BN (R:Mx) (w:Nat) (ld:Rat):(gC R w ld).length=w:=by unfold gC;rw [BT,Tu];simp [cC]
def Jt (R:Mx) (w:Nat) (b:List Rat):(ik R w b).length=w:=by simp [ik,nE,cC]
def aAN (h:Rxi P L) (Et:Has P L 332 GP) (WO:Has P L 346 Qa) (AY:Has P L 347 Eg) (LP:Has P L 348 Cq) (zq:Has P L 349 Eh) (LR:Has P L 350 ze) (mf:Has P L 351 nv) (qX:Has P L 352 Cr) (CE:Has P L 353 AP) (AZ:Has P L 354 AQ) (mN:Has P L 355 zg) {v bv:AV} {M:List (List (List Nat))} {l:List (List Nat)} {s:List Nat} (hv:cx bm v M) (hb:bm bv l) (hM:mS M=0) (hc:∀s,s∈l->bJ s=0) (hs:bJ s=0) (lb:l.length=M.length) (h4:M.length<=4) (w4:wd M<=4) {K:Nat} (kR:b9 K (dP M)) (kb:∀x,x∈l.map aZ->Hq K x) (kl:Hq K (aZ s)) (cU:2<=K) (hK:K<=1000)
  (hd:wd M∉(ay (bQ (gC (dP M) (wd M) (aZ s)) (ik (dP M) (wd M) (l.map aZ))) (wd M+1)).2):
  ∃r,bm r ((jj (ay (bQ (gC (dP M) (wd M) (aZ s)) (ik (dP M) (wd M) (l.map aZ))) (wd M+1)).1 (ay (bQ (gC (dP M) (wd M) (aZ s)) (ik (dP M) (wd M) (l.map aZ))) (wd M+1)).2 (wd M) (ay (bQ (gC (dP M) (wd M) (aZ s)) (ik (dP M) (wd M) (l.map aZ))) (wd M+1)).2.length).map RT)/\aj P L 346 [v,bv,.str s] r:=by
 obtain ⟨m0,m64,ho⟩:=Kp hM;have lM:=Jp M;have hWm:=ho _ (yB m0);have hW:M[0].length=wd M:=hWm.1;have hw:=Jo (M:=M) (fun r bj=>(ho r bj).1);have jq:0<wd M:=by omega
 obtain ⟨t,e1,ht⟩:=aAE (P:=P) (L:=L) mf AY hv m0 (by omega) (fun r hr=>(ho r hr).1) (by omega);rw [aqO (fun r hr=>⟨(ho r hr).1,(ho r hr).2.2.2⟩)] at ht;have hRT:=ata (A:=M) (fun r hr=>(ho r hr).2.2.2);have hsR:=(BL hs).1;have hbR:bm bv ((l.map aZ).map RT):=by rw [awt hc];exact hb
 generalize dP M=R at*
 generalize wd M=w at*
 have p8:(cC R w).length=w:=by simp [cC]
 have Eu:∀r,r∈cC R w->r.length=R.length:=fun r hr=>by
  obtain ⟨c,_,rfl⟩:=wD.1 hr;rw [yi]
 have kT:b9 K (cC R w):=fun i hi y hy=>by
  rw [cm hi] at hy;obtain ⟨c,_,hr⟩:=wD.1 (yB hi);rw [<-hr] at hy;obtain ⟨q,hq,rfl⟩:=wD.1 hy;exact KQ (rN kR hq) cU
 have nR:wid R.length (cC R w):=fun i hi=>by rw [cm hi];exact Eu _ (yB hi)
 have lQ:=Tu (cC R w) R w;rw [p8] at lQ;have wQ:=Tt (cC R w) R w;have kQ:=atm (w:=w) nR kT kR cU;have ahk:R.length*(2*K+1)<=4*(2*1000+1):=Nat.mul_le_mul (by omega) (by omega);obtain ⟨hp,ct,e2,hMt⟩:=ax2 h.toRn AY LP zq mf qX (u:=shut t) (v:=v) (A:=cC R w) (B:=R) (w:=w) ht e1 ht hv (fun r hr=>Eu r hr) (by omega) (by omega) (by omega) jq (by omega) kT kT cU (by omega);rw [p8] at e2;have kQ1:=aws kQ (show 2+R.length*(2*K+1)<=2+R.length*(2*K+1)+K by omega);have kl1:=kl.mono (show K<=2+R.length*(2*K+1)+K by omega);have f0:=awr (P:=P) (L:=L) h.toRn hb.pu ht.pu wQ lQ (by omega) kQ1 kl1 (by omega) w;have kN:b9 (2+R.length*(2*K+1)+K+(2+R.length*(2*K+1)+K)+1) (gC R w (aZ s)):=ayn wQ lQ kQ1 kl1;have wN:=FE R w (aZ s);have lN:=BN R w (aZ s);have lR:=Jt R w (l.map aZ)
 have IS:(l.map aZ).length=R.length:=by rw [yi];omega
 have kC:∀x,x∈ik R w (l.map aZ)->Hq (2+R.length*(2*K+1)+K+(2+R.length*(2*K+1)+K)+1) x:=fun x hx=>by
  obtain ⟨c,fV,rfl⟩:=wD.1 hx;have h1:=Aw (rN kT fV) kb cU cU c.length;rw [Eu c fV,show K+K+1=2*K+1 by omega] at h1;rw [Eu c fV];exact h1.mono (by omega)
 have e3:=ahi h.toRn qX zq (M:=cC R w) (x:=l.map aZ) ht hbR (fun r hr=>by rw [Eu r hr,IS]) (by omega) (by omega) (by omega) (fun r hr=>rN kT hr) kb cU cU (by omega);rw [p8,show nE (cC R w) (l.map aZ)=ik R w (l.map aZ) from rfl] at e3;have hC:bm (.aE false w (cr (ik R w (l.map aZ)))) ((ik R w (l.map aZ)).map RT):=by
  have:=O3 false (ik R w (l.map aZ))
  rwa [lR] at this
 have Fb:∀r,r∈gC R w (aZ s)->r.length=w:=fun r hr=>mX wN hr
 have Yz:cx bm (.aE false w (wm (fun w r=>AV.aE false w r) (yd w w) ((gC R w (aZ s)).map cr))) ((gC R w (aZ s)).map (List.map RT)):=by
  have h1:=SP (k:=w) false Fb;rw [lN] at h1
  have:=BM false h1
  rwa [yi,lN] at this
 have zk:4^w<=4^4:=Nat.pow_le_pow_right (by decide) w4;have PD:=Nat.mul_le_mul_right (2+R.length*(2*K+1)+K+(2+R.length*(2*K+1)+K)+1+1) zk;obtain ⟨r5,e5,hr5⟩:=(aAM h Et LR mf CE AZ mN Yz hC wN jq (by omega) (by omega) (by omega) (by omega) (KT kN kC (by omega)) (by omega) (by rw [lN];omega)).2 hd;refine ⟨bZ r5,hr5,?_⟩;unfold aj at e1 e3 e5 ⊢;rw [aJ WO,hsR];have ec:∀tm,bg P L (D P L) tm [] 0 (.call .heap (.c (.fn (.f 348) [] [])) [.t 14,.t 15])=er P L (D P L) [] 0 .heap (.fn (.f 348) [] []) [af tm 14,af tm 15]:=fun tm=>rfl
 simp only [go_sem,ya,Qa,hv.an,e1,ec,e2];generalize hq:D P L (.loop [1,2,7,8,9] Kg) _=q;obtain ⟨ex,st,rfl,tm,fD,nM,rfl,rfl,fW,t1,t7,t8⟩:=bD hq f0 (by
  refine ⟨0,?_⟩
  suffices hq:∃ah aM,aH [1,2,7,8,9] _=_/\bE ah w (iE (cC R w) R w)/\dV ah w 0 []/\0+w=w by
   obtain ⟨ah,aM,q1,q2,_,q4⟩:=hq;exact ⟨ah,aM,q1,q2,q4⟩
  exact kS hMt (.inl rfl) lQ (by omega) (by simp only [go_sem,ya,di,aq hb.pu,aq ht.pu]<;>rfl) (fun S q3 q4=>by simp only [go_sem,ya,q3,au _ hb.pu,au _ ht.pu]<;>rfl) (by omega))
 obtain ⟨oM,ct3,e6,Ff,_⟩:=kS (live:=[1,7,8]) (tm:=tm) (tm':=[(1,bv),(7,shut t),(8,.ak 0 0 w)]) (ct:=nM) (k:=0) (pvs:=[]) (R:=True) fW (.inl rfl) (by rw [BT,lQ]) (by omega) (by simp only [go_sem,t1,t7,t8,di,aq hb.pu,aq ht.pu]<;>rfl) (fun S q3 q4=>by simp only [go_sem,t1,t7,t8,q3,au _ hb.pu,au _ ht.pu]<;>rfl) trivial
 have hM4:bE oM w (gC R w (aZ s)):=Ff;have hG:=hM4.toG;rw [lN] at hG;have lT:((gC R w (aZ s)).map cr).length=w:=by rw [yi,lN]
 have Ci:∀hp:Hp,kw 0 w (some (false,1,wm (fun w r=>AV.aE false w r) (yd w w) ((gC R w (aZ s)).map cr),hp))=some (.aE false w (wm (fun w r=>AV.aE false w r) (yd w w) ((gC R w (aZ s)).map cr)),hp):=fun hp=>lP false (by rw [SO (by simp [lN]),lT,yf]) (by decide)
 obtain ⟨HL,ez⟩:=hG.zh (n:=997) (by decide) (fun i h1 h2=>by
  rw [List.getElem_replicate,yV,qF,Fb _ (yB _)];omega) (by omega)
 have g0:=hG.m;simp only [go_sem,ya,e6,ht.an,hb.an,e3,g0,ez,Ci,e5,Fz,Fs,Fv,hr5.fm]
end
end
section
def awu {w:Nat} {A B:Mx} (hl:A.length=B.length) (ha:wid w A) (hb:wid w B) (h:∀i c,i<A.length->c<w->E A i c=E B i c):A=B:=by
 refine uC hl (fun i h1 h2=>?_);have wa:=ha i h1;have wb:=hb i h2;rw [cm h1] at wa;rw [cm h2] at wb;refine uC (by omega) (fun c h3 h4=>?_)
 have:=h i c h1 (by omega)
 unfold E at this
 rwa [cm h1,cm h2,db h3,db h4] at this
def Gx {w:Nat} {R:Mx} {b:List Rat} (hw:wid w R) (lb:b.length=R.length) {i:Nat} (hi:i<R.length) {j:Nat} (hj:j<w+1):E (bQ R b) i j=if j<w then E R i j else aW b i:=by
 have wi:=hw i hi;rw [cm hi] at wi;unfold E;rw [cm (by rw [nY lb];exact hi),cm hi,JM hi (by omega)]
 split
 ·rw [db (by rw [yE];omega),db (by omega),List.getElem_append_left (by omega)]
 ·rw [db (by rw [yE];simp;omega),db (by omega),List.getElem_append_right (by omega)]
  simp
def Vi {R:Mx} {w:Nat} {ld:Rat} (hw:wid w R) {i k:Nat} (hi:i<R.length) (hk:k<R.length):E (fw R ld) i k=sm (fun c=>E R i c*E R k c) w+if i=k then ld else 0:=by
 have e:E (fw R ld) i k=Br R ld i k:=by
  unfold E;rw [cm (by rw [j0];exact hi)]
  have:(fw R ld)[i]'(by rw [j0];exact hi)=p7 R ld i:=by simp [fw]
  rw [this,db (by rw [DB];exact hk)]
  simp [p7]
 rw [e];unfold Br;rw [hw i hi,O5]
 split
 ·rfl
 ·rw [ybT];rfl
def UG {R:Mx} {w:Nat} {ld:Rat} {i c:Nat} (hi:i<w) (hc:c<w):E (gC R w ld) i c=sm (fun k=>E R k i*E R k c) R.length+if i=c then ld else 0:=by
 have lT:=mY R w;have e1:=KV ld (Tt (cC R w) R w) (by rw [Tu,lT]) hi hc w (yo w);have e2:=awk (A:=cC R w) (B:=R) (w:=w) (i:=i) (c:=c) (by omega) hc;rw [OO R w i (by omega)] at e2
 rw [ep (g:=fun k=>E R k i*E R k c) (fun k hk=>by rw [Vf hi hk])] at e2;unfold gC;rw [e1,e2];by_cases h:i=c
 ·rw [yy ⟨h,hi⟩,yy h]
 ·rw [yk (fun q=>h q.1),yk h,ybT]
def aeV (R:Mx) (w:Nat) (ld:Rat):fw (cC R w) ld=gC R w ld:=by
 have lT:=mY R w;have hg:=An (cC R w) ld;rw [lT] at hg
 refine awu (w:=w) (by rw [j0,BN,lT]) hg (FE R w ld) (fun i c hi hc=>?_);rw [j0,lT] at hi;rw [Vi (OO R w) (by omega) (by omega),UG hi hc]
 congr 1
 exact ep (fun k hk=>by rw [Vf hi hk,Vf hc hk])
def adf (R:Mx) (w:Nat) (b:List Rat):A1 R w b=ik R w b:=rfl
def ayo {R:Mx} {w:Nat} {b:List Rat} {i:Nat} (hi:i<w):aW (ik R w b) i=sm (fun r=>E R r i*aW b r) R.length:=by
 have lT:=mY R w;rw [db (by rw [Jt];exact hi)]
 have hr:(cC R w)[i]'(by omega)=R.map fun r=>aW r i:=by simp [cC]
 have:(ik R w b)[i]'(by rw [Jt];exact hi)=fI (R.map fun r=>aW r i) b R.length:=by
  simp only [ik,nE,yV];rw [hr,yi]
 rw [this,O5];refine ep (fun r bj=>?_);rw [db (by rw [yi];exact bj),yV]
 unfold E;rw [cm bj]
section
variable {R:Mx} {w:Nat} {b:List Rat} {ld:Rat} (hw:wid w R) (lb:b.length=R.length) (hl:0<ld)
include hw lb hl
def aeW:kL R.length (bQ (fw R ld) b):=
 abT (a:=fun i c=>E R i c) (m:=w) hl (fun i c hi hc=>by
  rw [Gx (An R ld) (by rw [j0];exact lb) (by rw [j0];exact hi) (by omega),yy hc,Vi hw hi hc])
theorem aeX:kL w (bQ (gC R w ld) (ik R w b)):=
 abT (a:=fun i c=>E R c i) (m:=R.length) hl (fun i c hi hc=>by
  rw [Gx (FE R w ld) (by rw [BN,Jt]) (by rw [BN];exact hi) (by omega),yy hc,UG hi hc])
def atw:w∉(ay (bQ (gC R w ld) (ik R w b)) (w+1)).2/\jj (ay (bQ (gC R w ld) (ik R w b)) (w+1)).1 (ay (bQ (gC R w ld) (ik R w b)) (w+1)).2 w (ay (bQ (gC R w ld) (ik R w b)) (w+1)).2.length=nF R w b ld:=by
 have d2:=aeX hw lb hl;have lN:(ik R w b).length=(gC R w ld).length:=by rw [BN,Jt]
 have hW:=DA (FE R w ld) lN;have lW:(bQ (gC R w ld) (ik R w b)).length=w:=by rw [nY lN,BN]
 have hm:=abU d2 hW lW;have hf:=Oi d2 hW lW;obtain ⟨p1,p2⟩:=Uc hW hm hf;refine ⟨hm,?_⟩;have lr:=BS (bQ (gC R w ld) (ik R w b)) (w+1);rw [p1,aqZ p2 p1 (by omega)];have WQ:((ay (bQ (gC R w ld) (ik R w b)) (w+1)).1.take w).map (fun r=>aW r w)=(List.range w).map fun k=>E (ay (bQ (gC R w ld) (ik R w b)) (w+1)).1 k w:=by
  refine uC (by simp;omega) (fun k h1 h2=>?_);simp only [yi,tS] at h2;rw [yV,yV,List.getElem_take,vj];unfold E;rw [cm (by omega)]
 rw [WQ];unfold nF
 split
 ·
  have d1:=aeW hw lb hl;have lG:b.length=(fw R ld).length:=by rw [j0];exact lb
  have Db:=DA (An R ld) lG;have lW1:(bQ (fw R ld) b).length=R.length:=by rw [nY lG,j0]
  have hy:∀r,r<R.length->sm (fun s=>(sm (fun c=>E R r c*E R s c) w+if r=s then ld else 0)*aW (kK R.length (bQ (fw R ld) b)) s) R.length=aW b r:=fun r hr=>by
   have e1:=aeS d1 Db lW1 r hr;rw [Gx (An R ld) lG (by rw [j0];exact hr) (by omega),yk (by omega)] at e1
   rw [<-e1];refine ep (fun s hs=>?_);rw [Gx (An R ld) lG (by rw [j0];exact hr) (by omega),yy hs,Vi hw hr hs,<-aeT d1 Db lW1 s hs]
   congr 1
   rw [db (by rw [Am];exact hs)]
   simp [kK]
  have hs:=atp d2 hW lW (x:=fun c=>sm (fun s=>E R s c*aW (kK R.length (bQ (fw R ld) b)) s) R.length) (fun i hi=>by
   rw [Gx (FE R w ld) lN (by rw [BN];exact hi) (by omega),yk (by omega),ayo hi,<-aqW hy hi]
   refine ep (fun c hc=>?_)
   rw [Gx (FE R w ld) lN (by rw [BN];exact hi) (by omega),yy hc,UG hi hc])
  refine uC (by simp [mY]) (fun k h1 h2=>?_);simp only [yi,tS] at h1;have hk:(cC R w)[k]'(by rw [mY];exact h1)=R.map fun r=>aW r k:=by simp [cC]
  rw [yV,vj,hs k h1,yV,hk,yi,O5];refine ep (fun r hr=>?_)
  rw [db (r:=R.map fun r=>aW r k) (by rw [yi];exact hr),yV]
  unfold E;rw [cm hr]
 ·rw [aeV,adf];unfold kK;exact vd (fun k hk=>(aeT d2 hW lW k (List.mem_range.1 hk)).symm)
end
end
section
open Go (IntKind)
def jZ (n:Nat) (r:List (List Nat)):Bool:=r.all fun s=>decide (s.length<=n)
def abY {n:Nat} {r:List (List Nat)} {k:Nat} (h:k<r.length):jZ n (r.drop k)=(decide (r[k].length<=n)&&jZ n (r.drop (k+1))):=by
 unfold jZ;rw [yN h,yaH]
def sB (r:List (List Nat)):Bool:=qY 4 r.length&&jZ 20 r
section
variable {P:aG} {L:Lib}
def aAO (WR:Has P L 342 Ln) {v:AV} {l:List (List Nat)} (hv:bm v l) (n:Nat) (hn:n<=1000000) (hs:∀s,s∈l->s.length<9223372036854775808):aj P L 342 [v,aa n] (.bool (decide (l.length<=n)&&jZ n l)):=by
 have key:=fun hl:l.length<=n=>fk (P:=P) (L:=L) (live:=[0,1,5]) (a:=F1)
  (I:=fun k st=>∃i:Nat,st=⟨[(0,v),(1,aa n),(5,aa i)],[],0,0⟩/\i+k=l.length/\jZ n (l.drop i)=jZ n l)
  (Q:=fun ex st=>∃tm hp ct,st=⟨tm,hp,ct,0⟩/\((ex= .ret/\af tm 4= .bool false/\jZ n l=false)\/(ex= .exit 0/\jZ n l=true))) (?_:∀(k:Nat) (st:St),_->_)
 ·unfold aj;rw [aJ WR];by_cases h1:l.length<=n
  ·rw [xo h1,wH];simp only [go_sem,ya,Ln,hv.len,show ¬(n:Int)<l.length by omega,yt];generalize hq:D P L (.loop [0,1,5] F1) _=q;obtain ⟨ex,st,rfl,tm,hp,ct,rfl,h2⟩:=bD hq (key h1 l.length) ⟨0,by simp only [go_sem,ya,aw,aq hv.pu,au _ hv.pu]<;>rfl,by omega,rfl⟩
   rcases h2 with ⟨rfl,t4,h3⟩ | ⟨rfl,h3⟩
   ·rw [h3];simp only [go_sem,t4]
   ·rw [h3];simp only [go_sem,aw]
  ·rw [y9 h1,wC];simp only [go_sem,ya,Ln,hv.len,show (n:Int)<l.length by omega,yr]
 ·rintro k st ⟨i,rfl,hk,hd⟩;by_cases hi:i<l.length
  ·have e0:=hv.bi hi;rw [abY hi] at hd;have hb:=hs _ (yB hi);have w5:IntKind.wrap .i64 ((i:Int)+1)=((i+1:Nat):Int):=wrap64 (by omega) (by omega);by_cases h1:l[i].length<=n
   ·left
    rw [xo h1,wH] at hd;simp only [go_sem,ya,F1,hv.len,show (i:Int)<l.length by omega,e0,show ¬(n:Int)<(l[i].length:Int) by omega,yt,w5];refine ⟨_,k-1,rfl,by omega,i+1,?_,by omega,hd⟩;simp only [go_sem,ya,aw,aq hv.pu,au _ hv.pu]<;>rfl
   ·right
    rw [y9 h1,wC] at hd;simp only [go_sem,ya,F1,hv.len,show (i:Int)<l.length by omega,e0,show (n:Int)<(l[i].length:Int) by omega,yr];exact ⟨_,_,rfl,by simp,_,_,_,rfl,.inl ⟨rfl,by simp only [go_sem],hd.symm⟩⟩
  ·right
   have:i=l.length:=by omega
   subst this;simp only [go_sem,ya,F1,hv.len,show ¬(l.length:Int)<l.length by omega];refine ⟨_,_,rfl,by simp,_,_,_,rfl,.inr ⟨rfl,?_⟩⟩;rw [<-hd,uX];rfl
def awv {v bv:AV} {s:List Nat} (pb:a7 bv=true) {M:List (List (List Nat))} (hv:cx bm v M) {i:Nat} (hi:i<M.length) (hl:M.length<=1000000) (hr:M[i].length<=1000000) (hs:∀s,s∈M[i]->s.length<9223372036854775808):
  ∀(d:Nat) (st:St),(∃k:Nat,aH [0,1,2,7,46,47,76,77] st=⟨[(0,v),(1,bv),(2,.str s),(7,aa i),(46,aa M.length),(47,aa i),(76,aa M[i].length),(77,aa k)],[],0,0⟩/\k+d=M[i].length/\jZ 20 (M[i].drop k)=jZ 20 M[i])->
   ∃ex s',D P L (.loop [0,1,2,7,46,47,76,77] DN) st=some (ex,s')/\∃tm hp ct,s'=⟨tm,hp,ct,0⟩/\((ex= .ret/\af tm 6= .bool true/\jZ 20 M[i]=false)\/(ex= .exit 2/\jZ 20 M[i]=true/\hp=[]/\af tm 0=v/\af tm 1=bv/\af tm 2= .str s/\af tm 46=aa M.length/\af tm 47=aa i)):=by
 intro dq sq;generalize bh:aH [0,1,2,7,46,47,76,77] sq=s0;revert bh s0 sq dq;apply dj;rintro d st ⟨k,rfl,hk,hd⟩;obtain ⟨r,rest,cO,e0⟩:=hv.bi hi;by_cases oB:k<M[i].length
 ·rw [abY oB] at hd;have e1:=cO.bi oB;have wk:IntKind.wrap .i64 ((k:Int)+1)=((k+1:Nat):Int):=wrap64 (by omega) (by omega);have hb:=hs _ (yB oB);by_cases h1:M[i][k].length<=20
  ·left
   rw [xo h1,wH] at hd;simp only [go_sem,ya,DN,show (k:Int)<M[i].length by omega,e0,e1,show ¬(20:Int)<(M[i][k].length:Int) by omega,yt];refine ⟨_,d-1,rfl,by omega,k+1,?_,by omega,hd⟩;rw [wk];simp only [go_sem,ya,aw,aq hv.pu,au _ hv.pu,aq pb,au _ pb]<;>rfl
  ·right
   rw [y9 h1,wC] at hd;simp only [go_sem,ya,DN,show (k:Int)<M[i].length by omega,e0,e1,show (20:Int)<(M[i][k].length:Int) by omega,yr];exact ⟨_,_,rfl,by simp,_,_,_,rfl,.inl ⟨rfl,by simp only [go_sem],hd.symm⟩⟩
 ·right
  have:k=M[i].length:=by omega
  subst this;simp only [go_sem,ya,DN,show ¬(M[i].length:Int)<M[i].length by omega,yt];refine ⟨_,_,rfl,by simp,_,_,_,rfl,.inr ⟨rfl,?_,rfl,by simp only [go_sem,ya],by simp only [go_sem,ya],by simp only [go_sem,ya],by simp only [go_sem,ya],by simp only [go_sem,ya]⟩⟩;rw [<-hd,uX];rfl
def aww {v bv:AV} {s:List Nat} (pb:a7 bv=true) {M:List (List (List Nat))} (hv:cx bm v M) (hl:M.length<=1000000) (hr:∀r,r∈M->∀s,s∈r->s.length<9223372036854775808):
  ∀(d:Nat) (st:St),(∃i:Nat,aH [0,1,2,46,47] st=⟨[(0,v),(1,bv),(2,.str s),(46,aa M.length),(47,aa i)],[],0,0⟩/\i+d=M.length/\(M.drop i).all sB=M.all sB)->
   ∃ex s',D P L (.loop [0,1,2,46,47] At) st=some (ex,s')/\∃tm hp ct,s'=⟨tm,hp,ct,0⟩/\((ex= .ret/\af tm 6= .bool true/\M.all sB=false)\/(ex= .exit 0/\M.all sB=true/\hp=[]/\af tm 0=v/\af tm 1=bv/\af tm 2= .str s)):=by
 have YB:∀l:Nat,(decide ((4:Int)<l)&&decide ((l:Int)<=64)||decide ((66:Int)<l))= !qY 4 l:=fun l=>by
  unfold qY;rw [ybN,show decide ((4:Int)<l)=decide (4<l) by rw [vO];omega,show decide ((l:Int)<=64)=decide (l<=64) by rw [vO];omega,show decide ((66:Int)<l)=decide (66<l) by rw [vO];omega]
 intro dq sq;generalize bh:aH [0,1,2,46,47] sq=s0;revert bh s0 sq dq;apply dj;rintro k st ⟨i,rfl,hk,hd⟩;by_cases hi:i<M.length
 ·obtain ⟨r,rest,cO,e0⟩:=hv.bi hi;have hm:=hr _ (yB hi);have f:=YB M[i].length;rw [yN hi,yaH] at hd;have w23:IntKind.wrap .i64 ((i:Int)+1)=((i+1:Nat):Int):=wrap64 (by omega) (by omega);have jW:M[i].length<=66->∀st,aH [0,1,2,7,46,47,76,77] st=⟨[(0,v),(1,bv),(2,.str s),(7,aa i),(46,aa M.length),(47,aa i),(76,aa M[i].length),(77,aa (0:Nat))],[],0,0⟩->_:=fun X3 st aK=>awv (P:=P) (L:=L) (s:=s) pb hv hi (by omega) (by omega) hm M[i].length st ⟨0,aK,by omega,rfl⟩
  have iq:sB M[i]=(qY 4 M[i].length&&jZ 20 M[i]):=rfl;rw [iq] at hd
  cases hf:qY 4 M[i].length with
  | false=>
   right
   rw [hf] at f hd;simp only [wC] at hd;by_cases h1:4<M[i].length
   ·by_cases h2:M[i].length<=64
    ·simp only [go_sem,ya,At,show (i:Int)<M.length by omega,e0,cO.len,show (4:Int)<M[i].length by omega,show (M[i].length:Int)<=64 by omega,yr];exact ⟨_,_,rfl,by simp,_,_,_,rfl,.inl ⟨rfl,by simp only [go_sem],hd.symm⟩⟩
    ·have h3:66<M[i].length:=by
      rw [xo (show (4:Int)<M[i].length by omega),y9 (show ¬(M[i].length:Int)<=64 by omega)] at f;simp only [wH,vJ,yR,wu] at f;omega
     simp only [go_sem,ya,At,show (i:Int)<M.length by omega,e0,cO.len,show (4:Int)<M[i].length by omega,show ¬(M[i].length:Int)<=64 by omega,show (66:Int)<M[i].length by omega,yr,yt];exact ⟨_,_,rfl,by simp,_,_,_,rfl,.inl ⟨rfl,by simp only [go_sem],hd.symm⟩⟩
   ·have h3:66<M[i].length:=by
     rw [y9 (show ¬(4:Int)<M[i].length by omega)] at f;simp only [wC,vJ,yR,wu] at f;omega
    simp only [go_sem,ya,At,show (i:Int)<M.length by omega,e0,cO.len,show ¬(4:Int)<M[i].length by omega,show (66:Int)<M[i].length by omega,yr,yt];exact ⟨_,_,rfl,by simp,_,_,_,rfl,.inl ⟨rfl,by simp only [go_sem],hd.symm⟩⟩
  | true=>
   have nk:=JL hf;rw [hf,wH] at hd;have main:∀q,(∃ex s',q=some (ex,s')/\∃tm hp ct,s'=⟨tm,hp,ct,0⟩/\((ex= .ret/\af tm 6= .bool true/\jZ 20 M[i]=false)\/(ex= .exit 2/\jZ 20 M[i]=true/\hp=[]/\af tm 0=v/\af tm 1=bv/\af tm 2= .str s/\af tm 46=aa M.length/\af tm 47=aa i)))->
     (∃s' k',kj P L (oc 1 (kj P L (oc 2 q) (.kp [0,1,2,46,47]))) (.mh [qa 90 47 1,qm 47 90])=some (.normal,s')/\k'<k/\∃i:Nat,aH [0,1,2,46,47] s'=⟨[(0,v),(1,bv),(2,.str s),(46,aa M.length),(47,aa i)],[],0,0⟩/\i+k'=M.length/\(M.drop i).all sB=M.all sB)\/
     ∃ex s',kj P L (oc 1 (kj P L (oc 2 q) (.kp [0,1,2,46,47]))) (.mh [qa 90 47 1,qm 47 90])=some (ex,s')/\ex≠.normal/\∃tm hp ct,s'=⟨tm,hp,ct,0⟩/\((ex= .ret/\af tm 6= .bool true/\M.all sB=false)\/(ex= .exit 0/\M.all sB=true/\hp=[]/\af tm 0=v/\af tm 1=bv/\af tm 2= .str s)):=by
    rintro q ⟨ex,s',rfl,tm,hp,ct,rfl,h2⟩;rcases h2 with ⟨rfl,t4,h3⟩ | ⟨rfl,h3,rfl,t0,t1,t2,t46,t47⟩
    ·right
     rw [h3,wC] at hd;simp only [go_sem];exact ⟨_,_,rfl,by simp,_,_,_,rfl,.inl ⟨rfl,t4,hd.symm⟩⟩
    ·left
     rw [h3,wH] at hd;simp only [go_sem,ya,aw,t0,t1,t2,t46,t47,aq hv.pu,au _ hv.pu,aq pb,au _ pb,w23];refine ⟨_,k-1,rfl,by omega,i+1,?_,by omega,hd⟩;simp only [go_sem,ya,aw,aq hv.pu,au _ hv.pu,aq pb,au _ pb]<;>rfl
   rcases nk with nk | ⟨c1,c2⟩
   ·simp only [go_sem,ya,At,show (i:Int)<M.length by omega,e0,cO.len,show ¬(4:Int)<M[i].length by omega,show ¬(66:Int)<M[i].length by omega,yr,yt];generalize hq:D P L (.loop [0,1,2,7,46,47,76,77] DN) _=q;exact main q (by rw [<-hq];exact jW (by omega) _ (by simp only [go_sem,ya,aw,aq hv.pu,au _ hv.pu,aq pb,au _ pb]<;>rfl))
   ·simp only [go_sem,ya,At,show (i:Int)<M.length by omega,e0,cO.len,show (4:Int)<M[i].length by omega,show ¬(M[i].length:Int)<=64 by omega,show ¬(66:Int)<M[i].length by omega,yr,yt];generalize hq:D P L (.loop [0,1,2,7,46,47,76,77] DN) _=q;exact main q (by rw [<-hq];exact jW (by omega) _ (by simp only [go_sem,ya,aw,aq hv.pu,au _ hv.pu,aq pb,au _ pb]<;>rfl))
 ·right
  have:i=M.length:=by omega
  subst this;simp only [go_sem,ya,At,show ¬(M.length:Int)<M.length by omega,yt];refine ⟨_,_,rfl,by simp,_,_,_,rfl,.inr ⟨rfl,?_,rfl,by simp only [go_sem,ya],by simp only [go_sem,ya],by simp only [go_sem,ya]⟩⟩;rw [<-hd,uX];rfl
end
end
section
open Go (IntKind)
structure O7 (P:aG) (L:Lib):Prop where
 m:Na P L
 x:Rxi P L
 C3:Has P L 11 ja
 X2:Has P L 13 lF
 MN:Has P L 29 Mi
 Mu:Has P L 42 Mj
 G5:Has P L 261 La
 LS:Has P L 314 Ef
 CC:Has P L 316 GO
 Et:Has P L 332 GP
 aAP:Has P L 341 lz
 WR:Has P L 342 Ln
 LO:Has P L 343 GQ
 WS:Has P L 344 P9
 WT:Has P L 345 Cp
 WO:Has P L 346 Qa
 AY:Has P L 347 Eg
 LP:Has P L 348 Cq
 zq:Has P L 349 Eh
 LR:Has P L 350 ze
 mf:Has P L 351 nv
 qX:Has P L 352 Cr
 CE:Has P L 353 AP
 AZ:Has P L 354 AQ
 mN:Has P L 355 zg
 ayp:aj P L 1 [] (.bool true)
def aq0 {a b c d:Int} (h:bH [a,b,c,d]=0):a=0/\b=0/\c=0/\d=0:=by
 have all:∀l:List Int,bH l=0->∀x,x∈l->x=0:=fun l=>by
  induction l with
  | nil=>intro _ x hx;cases hx
  | cons y l ih=>
   intro h x hx;by_cases hy:y=0
   ·subst hy;have h2:bH l=0:=by unfold bH at h;rwa [yy rfl] at h
    rcases List.mem_cons.1 hx with rfl | hx
    ·rfl
    ·exact ih h2 x hx
   ·unfold bH at h;rw [yk hy] at h;exact absurd h hy
 exact ⟨all _ h a (by simp),all _ h b (by simp),all _ h c (by simp),all _ h d (by simp)⟩
def atx {q:Rat} (h:1<=cJ q.num):0<q:=by
 refine Rat.not_le.1 fun hq=>?_
 have h1:(0:Rat)<=q:=amZ (by omega);have h2:=Rat.le_antisymm hq h1;rw [h2] at h;exact absurd h (by decide)
section
variable {P:aG} {L:Lib}
def ayq (h:Rm P L) (LS:Has P L 314 Ef) {s:List Nat} (hl:s.length<9223372036854775808) (m:Int):aj P L 314 [.str s,aa m] (aa (nD s m)):=by
 have e1:=aiU h hl;unfold aj at e1 ⊢;rw [aJ LS];unfold nD;by_cases h0:bJ s=0
 ·obtain ⟨h1,_⟩:=BL h0;have e2:=ag7 h (acU h0 (yo 2400)) (by omega);rw [<-h1] at e2;rw [h0] at e1;unfold aj at e2;rw [yy h0];by_cases h2:cJ (aZ s).num<m
  ·rw [yy h2];simp only [go_sem,ya,Ef,e1,yr,e2,h2]
  ·rw [yk h2];simp only [go_sem,ya,Ef,e1,yr,e2,h2]
 ·rw [yk h0];simp only [go_sem,ya,Ef,e1,h0,yt]
def aAQ (h:Rm P L) (LS:Has P L 314 Ef) (WS:Has P L 344 P9) {s:List Nat} (hl:s.length<9223372036854775808):aj P L 344 [.str s] (aa (nD s 1)):=by
 have e1:=ayq h LS hl 1;unfold aj at e1 ⊢;rw [aJ WS];simp only [go_sem,ya,P9,e1]
def aoK (h:O7 P L) {v bv:AV} {M:List (List (List Nat))} {l:List (List Nat)} {s:List Nat} (hv:cx bm v M) (hb:bm bv l) (hr:∀r,r∈M->∀s,s∈r->s.length<9223372036854775808) (f4:qY 4 M.length=true) (l8:l.length<=8) (lb:jZ 20 l=true) (ls:s.length<=20) {tm:Env} (t0:af tm 0=v) (t1:af tm 1=bv) (t2:af tm 2= .str s):
  gJ [.t 6] (D P L (qM 1 lz.body) ⟨tm,[],0,0⟩)=some (.bool true):=by
 have hf4:=JL f4;have f0:=aww (P:=P) (L:=L) (s:=s) hb.pu hv (by omega) hr M.length;have YC:∀s,s∈l->s.length<=20:=fun s hs=>by
  have:=uD.1 lb s hs
  simpa using this
 simp only [go_sem,lz,qM,aB,t0,hv.len];generalize hq:D P L (.loop [0,1,2,46,47] At) _=q;obtain ⟨ex,st,rfl,rX,hp,ct,rfl,h2⟩:=bD hq f0 ⟨0,by simp only [go_sem,ya,aw,t0,t1,t2,aq hv.pu,au _ hv.pu,aq hb.pu,au _ hb.pu]<;>rfl,by omega,rfl⟩
 rcases h2 with ⟨rfl,t6,h3⟩ | ⟨rfl,h3,rfl,u0,u1,u2⟩
 ·simp only [go_sem,t6]
 ·have fW:∀r,r∈M->r.length<=66/\∀s,s∈r->s.length<=20:=fun r bj=>by
   have h4:=uD.1 h3 r bj;unfold sB at h4;obtain ⟨h5,h6⟩:=uY.1 h4;have h7:=JL h5;refine ⟨by omega,fun s hs=>?_⟩
   have:=uD.1 h6 s hs
   simpa using this
  have c1:=aAC h.x.toRm h.G5 h.LO hv hr;have c2:=ag9 h.x.toRm h.G5 hb (by omega) (fun s hs=>by have:=YC s hs;omega);have c3:=aAQ h.x.toRm h.LS h.WS (s:=s) (by omega);have c4:=s13 h.X2 (!decide ((l.length:Int)=(M.length:Nat))) 2;have q3:(if (!decide ((l.length:Int)=(M.length:Nat)))=true then (2:Int) else 0)=if l.length=M.length then 0 else 2:=by
   simp only [Bool.not_eq_true',wO];split<;>split<;>omega
  rw [q3] at c4;have c5:=s11 h.C3 h.Mu (kP true [mS M,bH (l.map bJ),nD s 1,if l.length=M.length then 0 else 2]) (by simp);simp only [List.length_cons,List.length_nil,List.map_cons,List.map_nil] at c5;have c5:aj P L 11 _ (aa (zu M l s)):=c5;have wl:M.length<=1000000:=by omega
  have wr:∀r,r∈M->r.length<=1000000/\∀s,s∈r->s.length<=1000000000:=fun r bj=>⟨by have:=(fW r bj).1;omega,fun s hs=>by have:=(fW r bj).2 s hs;omega⟩
  have ws:∀s,s∈l->s.length<=1000000000:=fun s hs=>by have:=YC s hs;omega
  by_cases hE:zu M l s=0
  ·have hE':=hE;unfold zu at hE';obtain ⟨z1,z2,z3,z4⟩:=aq0 hE';have IR:l.length=M.length:=by
    by_cases hh:l.length=M.length
    ·exact hh
    ·rw [yk hh] at z4;exact absurd z4 (by decide)
   obtain ⟨m0,m64,ho⟩:=Kp z1;have hm4:M.length<=4:=by omega
   have hW4:wd M<=4:=by
    have hm:=yB m0;have h4:=uD.1 h3 _ hm;unfold sB at h4;obtain ⟨h5,_⟩:=uY.1 h4;have h6:=JL h5;have h7:=ho _ hm;omega
   have hc:∀s,s∈l->bJ s=0:=NH z2;obtain ⟨fo,pT⟩:=asY z3;have EE:=atx pT;have kR:b9 160 (dP M):=av8 (fun r bj s CZ=>⟨(ho r bj).2.2.2 s CZ,by have:=(fW r bj).2 s CZ;omega⟩);have kb:∀x,x∈l.map aZ->Hq 160 x:=fun x hx=>by
    obtain ⟨t,ht,rfl⟩:=wD.1 hx
    exact Yi (hc t ht) (by have:=YC t ht;omega)
   have kl:Hq 160 (aZ s):=Yi fo (by omega);have hw:=Jo (M:=M) (fun r bj=>(ho r bj).1);have lM:=Jp M;have IS:(l.map aZ).length=(dP M).length:=by rw [yi,lM];exact IR
   have d1:=aeW hw IS EE;have d2:=aeX hw IS EE;rw [lM] at d1;rw [<-aeV,<-adf] at d2;obtain ⟨g1,g2⟩:=m27 h.m hv hb wl (by omega) wr ws (by omega) hE z1 IR (show M.length<=10 by omega) (show wd M<=10 by omega) (fun _=>by omega) (fun _=>by omega) hc fo kR kb kl (by omega) (by omega) d1 d2;obtain ⟨hd,WQ⟩:=atw hw IS EE;obtain ⟨r,Fh,e6⟩:=aAN h.x h.Et h.WO h.AY h.LP h.zq h.LR h.mf h.qX h.CE h.AZ h.mN hv hb z1 hc fo IR hm4 hW4 kR kb kl (by omega) (by omega) hd;rw [WQ] at Fh;have kQ:=aeU hw (by omega) (show wd M<=10 by omega) (fun _=>by omega) (fun _=>by omega) IS kR kb kl (by omega) (by omega);have lq:(nF (dP M) (wd M) (l.map aZ) (aZ s)).length<=1000000:=by
    unfold nF
    split
    ·rw [yi,mY];omega
    ·rw [Am];omega
   rw [hE] at c5;unfold aj at c1 c2 c3 c4 c5 e6
   cases hg:(nF (dP M) (wd M) (l.map aZ) (aZ s)).any LG with
   | true=>
    have e7:=g1 hg;have e8:=as8 h.x.toRl h.WT h.CC Fh lq kQ (by omega) hg;unfold aj at e7 e8;simp only [go_sem,ya,yb,yH,ym,yf,u0,u1,u2,aw,hv.len,hv.an,hb.len,hb.an,aq hv.pu,au _ hv.pu,aq hb.pu,au _ hb.pu,e7,c1,c2,c3,c4,c5,yr,yP,e6,Fh.an,Fh.shut,e8,Fz,Fs,Fv]
   | false=>
    obtain ⟨k,hk,e7⟩:=g2 hg;have e8:=awa h.x.toRl h.WT h.CC h.MN hk Fh lq kQ (by omega) hg;unfold aj at e7 e8;simp only [go_sem,ya,yb,yH,ym,yf,u0,u1,u2,aw,hv.len,hv.an,hb.len,hb.an,aq hv.pu,au _ hv.pu,aq hb.pu,au _ hb.pu,e7,c1,c2,c3,c4,c5,yr,yP,e6,Fh.an,Fh.shut,hk.an,hk.bZ,e8,Fz,Fs,Fv]
  ·have e7:=ayh h.m hv hb wl (by omega) wr ws (show s.length<=1000000000 by omega) hE;have e8:=as7 h.WT hE;unfold aj at c1 c2 c3 c4 c5 e7 e8;simp only [go_sem,ya,yb,yH,ym,yf,u0,u1,u2,aw,hv.len,hv.an,hb.len,hb.an,aq hv.pu,au _ hv.pu,aq hb.pu,au _ hb.pu,e7,c1,c2,c3,c4,c5,hE,yt,yR,e8,Fz,Fs,Fv]
def aq1 (h:O7 P L) {v bv:AV} {M:List (List (List Nat))} {l:List (List Nat)} {s:List Nat} (hv:cx bm v M) (hb:bm bv l) (hr:∀r,r∈M->∀s,s∈r->s.length<9223372036854775808) (hl:∀s,s∈l->s.length<9223372036854775808) (hs:s.length<9223372036854775808):aj P L 341 [v,bv,.str s] (.bool true):=by
 have ea:=h.ayp;have e1:aj P L 342 [bv,.int .i64 20] (.bool (decide (l.length<=20)&&jZ 20 l)):=aAO h.WR hb 20 (by decide) hl;have YB:∀l:Nat,(decide ((4:Int)<l)&&decide ((l:Int)<=64)||decide ((66:Int)<l))= !qY 4 l:=fun l=>by
  unfold qY;rw [ybN,show decide ((4:Int)<l)=decide (4<l) by rw [vO];omega,show decide ((l:Int)<=64)=decide (l<=64) by rw [vO];omega,show decide ((66:Int)<l)=decide (66<l) by rw [vO];omega]
 have f:=YB M.length;unfold aj at ea e1;unfold aj;rw [aJ h.aAP];have lj:(∃tm,D P L (mM 1 lz.body) ⟨dN 0 [v,bv,.str s],[],0,0⟩=some (.normal,⟨tm,[],0,0⟩)/\af tm 0=v/\af tm 1=bv/\af tm 2= .str s)->qY 4 M.length=true->l.length<=8->jZ 20 l=true->s.length<=20->gJ lz.fm (D P L lz.body ⟨dN 0 [v,bv,.str s],[],0,0⟩)=some (.bool true):=by
  rintro ⟨tm,hS,t0,t1,t2⟩ f4 l8 lb ls
  rw [JH 1 (c:=lz.body) (by refine ⟨rfl,?_⟩;show _=_;rfl),hS,fN]
  exact aoK h hv hb hr f4 l8 lb ls t0 t1 t2
 cases hf:qY 4 M.length with
 | false=>
  rw [hf] at f;by_cases h1:4<M.length
  ·by_cases h2:M.length<=64
   ·simp only [go_sem,ya,lz,hv.len,ea,show (4:Int)<M.length by omega,show (M.length:Int)<=64 by omega,yr,yP]
   ·have h3:66<M.length:=by
     rw [xo (show (4:Int)<M.length by omega),y9 (show ¬(M.length:Int)<=64 by omega)] at f;simp only [wH,vJ,yR,wu] at f;omega
    simp only [go_sem,ya,lz,hv.len,ea,show (4:Int)<M.length by omega,show ¬(M.length:Int)<=64 by omega,show (66:Int)<M.length by omega,yr,yt,yP]
  ·have h3:66<M.length:=by
    rw [y9 (show ¬(4:Int)<M.length by omega)] at f;simp only [wC,vJ,yR,wu] at f;omega
   omega
 | true=>
  have nk:=JL hf
  cases iq:(decide (l.length<=20)&&jZ 20 l) with
  | false=>
   rw [iq] at e1;rcases nk with hc | ⟨c1,c2⟩
   ·simp only [go_sem,ya,lz,hv.len,hb.an,ea,show ¬(4:Int)<M.length by omega,show ¬(66:Int)<M.length by omega,e1,yt,yP,yR]
   ·simp only [go_sem,ya,lz,hv.len,hb.an,ea,show (4:Int)<M.length by omega,show ¬(M.length:Int)<=64 by omega,show ¬(66:Int)<M.length by omega,e1,yr,yt,yP,yR]
  | true=>
   rw [iq] at e1;obtain ⟨k1,k2⟩:=uY.1 iq;by_cases l8:l.length<=8
   ·by_cases ls:s.length<=20
    ·refine lj ?_ hf l8 k2 ls;rcases nk with hc | ⟨c1,c2⟩
     ·simp only [go_sem,ya,lz,mM,bw,aB,hv.len,hb.len,hb.an,ea,show ¬(4:Int)<M.length by omega,show ¬(66:Int)<M.length by omega,e1,show ¬(8:Int)<l.length by omega,show ¬(20:Int)<s.length by omega,yt,yP];exact ⟨_,rfl,by simp only [go_sem,ya],by simp only [go_sem,ya],by simp only [go_sem,ya]⟩
     ·simp only [go_sem,ya,lz,mM,bw,aB,hv.len,hb.len,hb.an,ea,show (4:Int)<M.length by omega,show ¬(M.length:Int)<=64 by omega,show ¬(66:Int)<M.length by omega,e1,show ¬(8:Int)<l.length by omega,show ¬(20:Int)<s.length by omega,yr,yt,yP];exact ⟨_,rfl,by simp only [go_sem,ya],by simp only [go_sem,ya],by simp only [go_sem,ya]⟩
    ·rcases nk with hc | ⟨c1,c2⟩
     ·simp only [go_sem,ya,lz,hv.len,hb.len,hb.an,ea,show ¬(4:Int)<M.length by omega,show ¬(66:Int)<M.length by omega,e1,show ¬(8:Int)<l.length by omega,show (20:Int)<s.length by omega,yr,yt,yP]
     ·simp only [go_sem,ya,lz,hv.len,hb.len,hb.an,ea,show (4:Int)<M.length by omega,show ¬(M.length:Int)<=64 by omega,show ¬(66:Int)<M.length by omega,e1,show ¬(8:Int)<l.length by omega,show (20:Int)<s.length by omega,yr,yt,yP]
   ·rcases nk with hc | ⟨c1,c2⟩
    ·simp only [go_sem,ya,lz,hv.len,hb.len,hb.an,ea,show ¬(4:Int)<M.length by omega,show ¬(66:Int)<M.length by omega,e1,show (8:Int)<l.length by omega,yr,yt,yP]
    ·simp only [go_sem,ya,lz,hv.len,hb.len,hb.an,ea,show (4:Int)<M.length by omega,show ¬(M.length:Int)<=64 by omega,show ¬(66:Int)<M.length by omega,e1,show (8:Int)<l.length by omega,yr,yt,yP]
end
end
section
open Go (IntKind)
abbrev KW:List Ty:=[.sl KS,KS,.str]
def aoL {P:aG} {L:Lib} (h:O7 P L) {ls:List (List AV)} (hs:cF nN KW ls):aj P L 341 (KM KW ls) (.bool true):=by
 obtain ⟨_,_,_,rfl,h1,h2,h3⟩:=avO hs;obtain ⟨u,A,rfl,hu,ra⟩:=atb h1;obtain ⟨v,l,rfl,hv,rl⟩:=abP h2;obtain ⟨s,rfl,h4,_⟩:=h3;exact aq1 h hu hv ra rl h4
end
section
namespace J2
open Go Go.Proofs
def T:List (Tr aF):=[.n 1 [.o 7 [] (.bool true)] .l .l]
def L0:VE.Lib:=UA VE.aS 99 OE
def L1:VE.Lib:=PO L0 T 1000
def nu:Nu VE.prog VE.aS:=by
 repeat' (first | rfl | constructor)
def lw:O7 VE.prog L1:=by
 repeat' (first | rfl | constructor)
section
variable {W:World} {m:Int} (hm:W.cell? ⟨0,0,none⟩=some (.int .i64 m)) (ht:Go.Lib.TabIs Tryz.prog W "internal/strconv.uint64pow10" .u64 Go.Lib.pow10Tab)
include hm ht
def linked:eU ((J1.O W).Af L1):=by
 have hO:=J1.arD hm ht;have hs:=aos hO nu rfl rfl rfl ⟨rfl,rfl,rfl⟩ (fn:=Tryz.f188) (c:=CA) Tryz.func188 rfl rfl trivial aqB;have hT:eY (J1.O W) T:=eY.cons (Tr.lX (mb.one (VK1.holds hO rfl rfl)) Tr.j8 Tr.j8) eY.nil;exact acn (aot hO hs) hT 1000
def law {ls:List (List AV)} (hs:cF nN KW ls):fc (J1.O W) 341 (KM KW ls) (.bool true):=by
 obtain ⟨k,hk⟩:=aeu (aoL lw hs);exact sound (linked hm ht) hk
end
end J2
end
end VE
