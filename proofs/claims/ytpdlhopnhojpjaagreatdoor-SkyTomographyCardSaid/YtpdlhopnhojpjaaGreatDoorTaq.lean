import Derived.Test.YtpdlhopnhojpjaaGreatDoorTao
import Derived.Test.YtpdlhopnhojpjaaGreatDoorTap
set_option linter.all false
set_option maxRecDepth 100000
open Bool renaming and_self→wm,not_eq_true'→uo,not_false→yU,not_true→yR
open List renaming append_assoc→xm,append_nil→xT,drop→vh,drop_drop→vS,drop_left→vj,drop_zero→yL,eq_nil_of_length_eq_zero→yF,flatten_nil→yba,flatten_replicate_singleton→tx,getD_eq_getElem?_getD→yM,getElem?_eq_getElem→y9,getElem_append_left→xk,getElem_append_right→xA,getElem_cons_zero→xy,getElem_map→yX,getElem_mem→yE,getElem_replicate→uM,length_append→yG,length_cons→yy,length_map→yk,length_nil→yO,length_replicate→vW,length_set→xD,length_singleton→tn,length_take→yI,map→wH,map_append→xg,map_cons→xd,map_nil→vN,mem_append→xL,mem_cons→wJ,mem_cons_of_mem→xY,mem_cons_self→wM,mem_iff_getElem→xG,mem_map→wA,mem_range→yax,mem_singleton→xu,nil_append→xp,nodup_cons→xQ,nodup_range'→yaX,range→y5,replicate→yf,replicate_succ→xP,replicate_succ'→uY,replicate_zero→yaF,take_left→uH,take_length→xJ,take_of_length_le→yC,take_succ_eq_append_getElem→yT,zipWith→xW
open Nat renaming beq_refl→ve,ble_eq_true_of_le→yx,le_refl→yq,min_eq_left→xt,mul_le_mul→xU,mul_le_mul_right→yS,mul_one→yh,not_lt_zero→vE,pow_le_pow_right→xh,reduceAdd→yd,reduceEqDiff→ya,reduceLT→yJ,reduceLeDiff→yp,reduceMul→xj,sub_self→ub,zero_add→yg
open Option.some renaming injEq→ye
open Rat renaming div_def→ycg,mul_eq_zero→ybm,mul_nonneg→yaa
namespace VE
open Go (IntKind)
section
variable {P:aM} {L:Lib}
def WK (h:Fr' P L) (oz:Has P L 131 Cj) {u v:AV} {a b:List Rat} {K:Nat} (hu:cS u a) (hv:cS v b) (hl:a.length<=b.length) (hn:a.length<=1000000) (ka:∀x,x∈a->Hq K x) (kb:∀x,x∈b->Hq K x) (cU:2<=K) (hK:2+a.length*(2*K+1)+(2*K+1)<=1000000000):∃r,aj P L 131 [u,v] r/\dh r (fI a b a.length):=by
 have key:=fk (P:=P) (L:=L) (live:=[0,1,4,5,9,10]) (a:=JV)
  (I:=fun k st=>∃i:Nat,i+k=a.length/\∃c1 c2 c3 c4,dh (.agg [c1,c2,c3,c4]) (fI a b i)/\st=⟨[(0,u),(1,v),(4,.ptr 0 0),(5,.ptr 1 0),(9,aa a.length),(10,aa i)],[(1,.cells true true true 4 [c1,c2,c3,c4]),(0,.cells true true true 4 [.int .i64 0,.ab,.int .i64 0,.ab])],2,0⟩)
  (Q:=fun ex st=>∃tm hp ct c1 c2 c3 c4,dh (.agg [c1,c2,c3,c4]) (fI a b a.length)/\st=⟨tm,hp,ct,0⟩/\ex= .exit 0/\af tm 4= .ptr 0 0/\af tm 5= .ptr 1 0/\ao hp 1=some (.cells true true true 4 [c1,c2,c3,c4])/\ao hp 0=some (.cells true true true 4 [.int .i64 0,.ab,.int .i64 0,.ab])) ?_
 ·obtain ⟨z,e0,hz⟩:=m69 h (z:=0) (by decide) (by decide);have eF:dh z 0:=by simpa using hz
  have fU:=eF;obtain ⟨z1,z2,z3,z4,rfl,gz⟩:=eF.gen;have e0':bK P L (D P L) 69 [.int .i64 0]=some (.agg [z1,z2,z3,z4]):=e0;unfold aj;rw [aI oz];simp only [go_sem,ya,yd,Cj,bc,e0',bO,gz.st,hu.len];generalize hq:D P L (.loop [0,1,4,5,9,10] JV) _=q;obtain ⟨ex,st,rfl,tm,hp,ct,c1,c2,c3,c4,h1,rfl,rfl,t4,t5,g1,g0⟩:=bD hq (key a.length) ⟨0,by omega,z1,z2,z3,z4,fU,by simp only [go_sem,ya,yd,aw,aq hu.pu,au _ hu.pu,aq hv.pu,au _ hv.pu]<;>rfl⟩
  have g:=h1.f4;refine ⟨_,?_,h1⟩;simp only [go_sem,ya,yd,aw,t4,t5,g0,g1,B2,g.st,eS,eT,yL];exact g.fm _
 ·rintro k st ⟨i,hk,c1,c2,c3,c4,hs,rfl⟩;by_cases hi:i<a.length
  ·left
   obtain ⟨p1,p2,p3,p4,pr,e1,hp⟩:=hu.bi hi;obtain ⟨q1,q2,q3,q4,qr,e2,hq⟩:=hv.bi (i:=i) (by omega);have kp:=ka _ (yE hi);have kq:=kb _ (yE (show i<b.length by omega));obtain ⟨s,e3,EB⟩:=XY h hp hq kp kq (by omega);have hKi:=Aw ka kb cU cU i;have hmul:i*(K+K+1)<=a.length*(2*K+1):=by
    rw [show K+K+1=2*K+1 by omega];exact yS _ (by omega)
   obtain ⟨y,e4,hy⟩:=XX h hs EB (K:=2+a.length*(2*K+1)+(2*K+1)) (hKi.mono (by omega)) ((kp.mul kq).mono (by omega)) (by omega);have gD:fI a b (i+1)=fI a b i+a[i]*b[i]'(by omega):=by
    rw [fI,db hi,db (show i<b.length by omega)]
   rw [<-gD] at hy;have E3:=hy;obtain ⟨y1,y2,y3,y4,rfl,gy⟩:=hy.gen;have aEQ:=EB;obtain ⟨s1,s2,s3,s4,rfl,g3⟩:=EB.gen;have gs:=hs.f4;have gp:=hp.f4;have gq:=hq.f4;unfold aj at e3 e4;simp only [go_sem,ya,JV,show (i:Int)<a.length by omega,e1,e2,Er,B2,e3,e4,gs.an,gp.an,gq.an,g3.an,gy.st,bO,yL];refine ⟨_,k-1,rfl,by omega,i+1,by omega,y1,y2,y3,y4,E3,?_⟩;rw [wrap64 (by omega) (by omega)];simp only [go_sem,ya,yd,aw,aq hu.pu,au _ hu.pu,aq hv.pu,au _ hv.pu]<;>rfl
  ·right
   have:i=a.length:=by omega
   subst this;simp only [go_sem,ya,JV,show ¬(a.length:Int)<a.length by omega];exact ⟨_,_,rfl,by simp,_,_,_,c1,c2,c3,c4,hs,rfl,rfl,by simp only [go_sem,ya],by simp only [go_sem,ya],by simp only [go_sem],by simp only [go_sem,ya]⟩
def m87 (h:Ck P L) (Yr:Has P L 87 QU) (Da:Has P L 88 Hu) {v:AV} {M:List (List (List Nat))} (hv:cx bm v M) (hl:M.length<=1000000) (hr:∀r,r∈M->r.length<=1000000/\∀s,s∈r->bJ s=0):∃r,aj P L 87 [v,.fn (.f 88) [] []] r/\cx cS (shut r) (M.map (wH aZ)):=by
 have key:=fk (P:=P) (L:=L) (live:=[1,5,8,9,10]) (a:=Gq)
  (I:=fun k st=>∃(i:Nat) (rows:List AV),i+k=M.length/\cF cS rows ((M.take i).map (wH aZ))/\st=⟨[(1,.fn (.f 88) [] []),(5,oV 0 i),(8,v),(9,aa M.length),(10,aa i)],oH 0 1 rows [] i,oC 0 i,0⟩)
  (Q:=fun ex st=>∃tm ct rows,st=⟨tm,oH 0 1 rows [] M.length,ct,0⟩/\ex= .exit 0/\af tm 5=oV 0 M.length/\cF cS rows (M.map (wH aZ))) ?_
 ·unfold aj;rw [aI Yr];simp only [go_sem,ya,QU,hv.len];generalize hq:D P L (.loop [1,5,8,9,10] Gq) _=q;obtain ⟨ex,st,rfl,tm,ct,rows,rfl,rfl,t3,hR⟩:=bD hq (key M.length) ⟨0,[],by omega,trivial,by simp only [go_sem,ya,aw,aq hv.pu,au _ hv.pu]<;>rfl⟩
  have hlen:=hR.len;rw [yk] at hlen
  cases hn:M.length with
  | zero=>
   rw [hn] at t3;refine ⟨.ab,by simp only [go_sem,aw,t3,oV,oH],?_⟩;rw [yF hn];exact SM
  | succ n=>
   rw [hn] at t3 hlen;refine ⟨.bV false 1 (n+1) rows,?_,?_⟩
   ·simp only [go_sem,yd,aw,t3,oV,oH];exact p9 (ej _ _ _) (by rw [hlen,yh]) (by decide)
   ·have:=BM false hR
    rwa [yk,hn] at this
 ·rintro k st ⟨i,rows,hk,hR,rfl⟩;by_cases hi:i<M.length
  ·left
   obtain ⟨r,rest,fF,e0⟩:=hv.bi hi;have hm:=hr _ (yE hi);obtain ⟨q,e1,lL⟩:=m88 h Da fF hm.1 hm.2;unfold aj at e1;have Dd:cF cS (rows++[shut q]) ((M.take (i+1)).map (wH aZ)):=by
    rw [yT hi,xg];exact hR.snoc lL
   have hlen:=hR.len;rw [yk,yI,xt (by omega)] at hlen
   cases i with
   | zero=>
    have:rows=[]:=yF hlen
    subst this;simp only [go_sem,ya,yd,xj,yJ,yp,yh,Gq,oV,oH,oC,show ((0:Nat):Int)<M.length by omega,e0,fF.an,e1,lL.pu,lL.one,lL.cells,fY];refine ⟨_,k-1,rfl,by omega,1,_,by omega,Dd,?_⟩;rw [wrap64 (by omega) (by omega)];simp only [go_sem,ya,yd,aw,aq hv.pu,au _ hv.pu]<;>rfl
   | succ i=>
    simp only [go_sem,ya,yd,yp,yh,Gq,oV,oH,oC,show ((i+1:Nat):Int)<M.length by omega,e0,fF.an,e1,lL.pu,lL.one,lL.cells]
    rw [fA (ex:=false) (pu:=true) (cs:=rows) (by simp only [go_sem,ya]) (by rw [hlen,yh]) (by omega) (by omega) (by decide) (by simp only [go_sem,lL.one])];simp only [go_sem,ya,yd,lL.pu];refine ⟨_,k-1,rfl,by omega,i+1+1,_,by omega,Dd,?_⟩;rw [wrap64 (by omega) (by omega)];simp only [go_sem,ya,yd,aw,aq hv.pu,au _ hv.pu]<;>rfl
  ·right
   have:i=M.length:=by omega
   subst this;rw [xJ] at hR;simp only [go_sem,ya,Gq,show ¬(M.length:Int)<M.length by omega];exact ⟨_,_,rfl,by simp,_,_,rows,rfl,rfl,by simp only [go_sem,ya],hR⟩
def m92 (RP:Has P L 92 QX) {v:AV} {R:Mx} (hv:cx cS v R) (hl:R.length<=1000000) {g:Nat} {c:AV} (hc:a7 c=true) (hz:∀(n:Nat) (hp:Hp),cD (n+900) hp [c]=some ([c],hp)) {f:List Rat->Rat} (hg:∀w r,r∈R->cS w r->∃q,aj P L g [w,c] q/\dh q (f r)):∃r,aj P L 92 [v,.fn (.f g) [] [c]] r/\cS (shut r) (R.map f):=by
 have pf:a7 (.fn (.f g) [] [c])=true:=by simp [a7,aH,hc]
 have key:=fk (P:=P) (L:=L) (live:=[1,5,8,9,10]) (a:=Gs)
  (I:=fun k st=>∃(i:Nat) (cs:List AV),i+k=R.length/\QL cs ((R.take i).map f)/\st=⟨[(1,.fn (.f g) [] [c]),(5,oV 0 i),(8,v),(9,aa R.length),(10,aa i)],oH 0 4 cs [] i,oC 0 i,0⟩)
  (Q:=fun ex st=>∃tm ct cs,st=⟨tm,oH 0 4 cs [] R.length,ct,0⟩/\ex= .exit 0/\af tm 5=oV 0 R.length/\QL cs (R.map f)) ?_
 ·unfold aj;rw [aI RP];simp only [go_sem,ya,QX,hv.len];generalize hq:D P L (.loop [1,5,8,9,10] Gs) _=q;obtain ⟨ex,st,rfl,tm,ct,cs,rfl,rfl,t3,hQ⟩:=bD hq (key R.length) ⟨0,[],by omega,trivial,by simp only [go_sem,ya,aw,aq hv.pu,au _ hv.pu,aq pf,au _ pf]<;>rfl⟩
  have hlen:=hQ.len;rw [yk] at hlen
  cases hn:R.length with
  | zero=>
   rw [hn] at t3;refine ⟨.ab,by simp only [go_sem,aw,t3,oV,oH],?_⟩;rw [yF hn];exact aoD
  | succ n=>
   rw [hn] at t3 hlen;refine ⟨.bV false 4 (n+1) cs,?_,?_⟩
   ·simp only [go_sem,yd,aw,t3,oV,oH];exact p9 (ej _ _ _) hlen (by decide)
   ·have:=Jn false hQ
    rwa [yk,hn] at this
 ·rintro k st ⟨i,cs,hk,hQ,rfl⟩;by_cases hi:i<R.length
  ·left
   obtain ⟨r,rest,fF,e0⟩:=hv.bi hi;obtain ⟨q,e1,hq⟩:=hg r _ (yE hi) fF;have bI:=hq;obtain ⟨q1,q2,q3,q4,rfl,gq⟩:=hq.gen;have bz:∀tm,qJ tm [AV.int .i64 0,.ab,.int .i64 0,.ab] 0 4 [q1,q2,q3,q4] []=fill tm [q1,q2,q3,q4] []:=fun tm=>UC gq.o1 gq.o2 gq.o3 gq.o4
   obtain ⟨p1,p2,p3,p4⟩:=gq.E7;have pY:aH [q1,q2,q3,q4]=true:=by simp only [aH,p1,p2,p3,p4,wm]
   unfold aj at e1;have nQ:QL (cs++[q1,q2,q3,q4]) ((R.take (i+1)).map f):=by
    rw [yT hi,xg];exact hQ.snoc bI
   have hlen:=hQ.len;rw [yk,yI,xt (by omega)] at hlen
   cases i with
   | zero=>
    have:cs=[]:=yF (by omega)
    subst this;simp only [go_sem,ya,yd,xj,yJ,yp,Gs,oV,oH,oC,show ((0:Nat):Int)<R.length by omega,e0,fF.an,hz,e1,bO,bz,p1,p2,p3,p4,wm,Cf,fY];refine ⟨_,k-1,rfl,by omega,1,_,by omega,nQ,?_⟩;rw [wrap64 (by omega) (by omega)];simp only [go_sem,ya,yd,aw,aq hv.pu,au _ hv.pu,aq pf,au _ pf]<;>rfl
   | succ i=>
    simp only [go_sem,ya,yd,xj,Gs,oV,oH,oC,show ((i+1:Nat):Int)<R.length by omega,e0,fF.an,hz,e1,bO,bz,p1,p2,p3,p4,wm,Cf]
    rw [fA (ex:=false) (pu:=true) (cs:=cs) (by simp only [go_sem,ya]) hlen (by omega) (by omega) (by decide) (by simp only [go_sem,gq.o1,gq.o2,gq.o3,gq.o4])];simp only [go_sem,ya,yd,pY];refine ⟨_,k-1,rfl,by omega,i+1+1,_,by omega,nQ,?_⟩;rw [wrap64 (by omega) (by omega)];simp only [go_sem,ya,yd,aw,aq hv.pu,au _ hv.pu,aq pf,au _ pf]<;>rfl
  ·right
   have:i=R.length:=by omega
   subst this;rw [xJ] at hQ;simp only [go_sem,ya,Gs,show ¬(R.length:Int)<R.length by omega];exact ⟨_,_,rfl,by simp,_,_,cs,rfl,rfl,by simp only [go_sem,ya],hQ⟩
end
def Br (R:Mx) (ld:Rat) (i k:Nat):Rat:=if i=k then fI (gR R i) (gR R k) (gR R i).length+ld else fI (gR R i) (gR R k) (gR R i).length
def p7 (R:Mx) (ld:Rat) (i:Nat):List Rat:=(y5 R.length).map (Br R ld i)
def fw (R:Mx) (ld:Rat):Mx:=(y5 R.length).map (p7 R ld)
def DB (R:Mx) (ld:Rat) (i:Nat):(p7 R ld i).length=R.length:=by simp [p7]
def j0 (R:Mx) (ld:Rat):(fw R ld).length=R.length:=by simp [fw]
def aqU {R:Mx} {ld:Rat} {i k:Nat} (h:k<R.length):(p7 R ld i).take (k+1)=(p7 R ld i).take k++[Br R ld i k]:=by
 rw [yT (by rw [DB];exact h)]
 simp [p7]
def ax6 {R:Mx} {ld:Rat} {w i k K:Nat} (hw:wid w R) (hi:i<R.length) (hk:k<R.length) (kR:b9 K R) (kl:Hq K ld) (cU:2<=K):Hq (2+w*(2*K+1)+K+1) (Br R ld i k):=by
 have wi:=hw i hi;have h1:=Aw (kR i hi) (kR k hk) cU cU w;rw [show K+K+1=2*K+1 by omega] at h1;unfold Br;rw [wi]
 split
 ·exact (h1.add kl).mono (by omega)
 ·exact h1.mono (by omega)
section
variable {P:aM} {L:Lib}
def ax7 (h:Ck P L) (oz:Has P L 131 Cj) {y ra:AV} {R:Mx} {s:List Nat} (hy:cx cS y R) {w:Nat} (hw:wid w R) (jb:w<=1000) (hn:R.length<=1000) (hs:bJ s=0) {K:Nat} (kR:b9 K R) (kl:Hq K (aZ s)) (cU:2<=K) (hK:K<=100000) {i:Nat} (hi:i<R.length) (gN:cS ra R[i]) {sp:List AV} {rows:List AV}:
  ∀d st,(∃(k:Nat) (cs:List AV),aG [0,1,4,5,6,7,11,12,13,18,19,20] st=⟨[(0,y),(1,.aO (.str s::sp)),(4,oV 0 i),(5,aa i),(6,ra),(7,oV (oC 0 i) k),(11,y),(12,aa R.length),(13,aa i),(18,y),(19,aa R.length),(20,aa k)],pH i k rows cs,oC (oC 0 i) k,0⟩/\k+d=R.length/\QL cs ((p7 R (aZ s) i).take k))->
   ∃ex s',D P L (.loop [0,1,4,5,6,7,11,12,13,18,19,20] Az) st=some (ex,s')/\∃tm ct cs,s'=⟨tm,pH i R.length rows cs,ct,0⟩/\ex= .exit 2/\QL cs (p7 R (aZ s) i)/\af tm 0=y/\af tm 1= .aO (.str s::sp)/\af tm 4=oV 0 i/\af tm 7=oV (oC 0 i) R.length/\af tm 11=y/\af tm 12=aa R.length/\af tm 13=aa i:=by
 intro dq sq;generalize bh:aG [0,1,4,5,6,7,11,12,13,18,19,20] sq=s0;revert bh s0 sq dq;apply dj;rintro d st ⟨k,cs,rfl,hkd,hQ⟩;have pp:a7 (.aO (.str s::sp))=true:=rfl;by_cases hk:k<R.length
 ·left
  obtain ⟨rk,rest,EX,e0⟩:=hy.bi hk;have wi:=hw i hi;have wk':=hw k hk;have Ys:=kR i hi;have Yt:=kR k hk;rw [cm hi] at wi Ys;rw [cm hk] at wk' Yt;have oN:w*(2*K+1)<=1000*(2*100000+1):=xU (by omega) (by omega);obtain ⟨p,e1,hp⟩:=WK h.toFr' oz gN EX (by omega) (by omega) Ys Yt cU (by rw [wi];omega);have kp:=Aw Ys Yt cU cU R[i].length;rw [show K+K+1=2*K+1 by omega,wi] at kp;obtain ⟨l,e2,hl⟩:=WG h hs;rw [wi] at hp;obtain ⟨z,e3,hz⟩:=XX h.toFr' hp hl (K:=300000000) (kp.mono (by omega)) (kl.mono (by omega)) (by omega);have ah:=hp;have eF:=hz;obtain ⟨p1,p2,p3,p4,rfl,gp⟩:=hp.gen;obtain ⟨l1,l2,l3,l4,rfl,gl⟩:=hl.gen;obtain ⟨z1,z2,z3,z4,rfl,gz⟩:=hz.gen;have wk:IntKind.wrap .i64 ((k:Int)+1)=((k+1:Nat):Int):=wrap64 (by omega) (by omega);have Fe:(k:Int)<R.length:=by omega
  have lq:=hQ.len;rw [yI,DB,xt (by omega)] at lq;unfold aj at e1 e2 e3;have fin:∃s1 s2 s3 s4,dh (.agg [s1,s2,s3,s4]) (Br R (aZ s) i k)/\((i=k/\s1=z1/\s2=z2/\s3=z3/\s4=z4)\/(i≠k/\s1=p1/\s2=p2/\s3=p3/\s4=p4)):=by
   by_cases iK:i=k
   ·refine ⟨z1,z2,z3,z4,?_,.inl ⟨iK,rfl,rfl,rfl,rfl⟩⟩;unfold Br;rw [yA iK,cm hi,cm hk,wi];exact eF
   ·refine ⟨p1,p2,p3,p4,?_,.inr ⟨iK,rfl,rfl,rfl,rfl⟩⟩;unfold Br;rw [yo iK,cm hi,cm hk,wi];exact ah
  obtain ⟨s1,s2,s3,s4,hs4,nk⟩:=fin;have g:=hs4.f4;have bz:∀q,qJ q [AV.int .i64 0,.ab,.int .i64 0,.ab] 0 4 [s1,s2,s3,s4] []=fill q [s1,s2,s3,s4] []:=fun q=>UC g.o1 g.o2 g.o3 g.o4
  obtain ⟨u1,u2,u3,u4⟩:=g.E7;have nQ:QL (cs++[s1,s2,s3,s4]) ((p7 R (aZ s) i).take (k+1)):=by
   rw [aqU hk];exact hQ.snoc hs4
  rcases nk with ⟨iK,rfl,rfl,rfl,rfl⟩ | ⟨iK,rfl,rfl,rfl,rfl⟩
  ·have hd:decide ((i:Int)=(k:Int))=true:=xq (by omega)
   cases k with
   | zero=>
    have:cs=[]:=yF (by omega)
    subst this;have zR:i=0:=iK;subst zR;simp only [oV,oH,oC,pH];simp only [go_sem,ya,yd,xj,yJ,yp,Az,Fe,e0,gN.an,EX.an,e1,bO,bc,gp.st,fP,yL,e2,gp.an,gl.an,e3,gz.st,bz,u1,u2,u3,u4,wm,Cf,fY,wk];refine ⟨_,d-1,rfl,by omega,1,[s1,s2,s3,s4],?_,by omega,nQ⟩;simp only [go_sem,ya,yd,aw,aq hy.pu,au _ hy.pu,aq gN.pu,au _ gN.pu,aq pp,au _ pp]<;>rfl
   | succ k=>
    obtain ⟨i',rfl⟩:∃i',i=i'+1:=⟨k,iK⟩;simp only [oV,oH,oC,pH];simp only [go_sem,ya,yd,xj,Az,Fe,e0,gN.an,EX.an,e1,bO,bc,gp.st,hd,fP,yL,e2,gp.an,gl.an,e3,gz.st,bz,u1,u2,u3,u4,wm,Cf]
    rw [fA (ex:=false) (pu:=true) (cs:=cs) (by simp only [go_sem,ya]) lq (by omega) (by omega) (by decide) (by simp only [go_sem,g.o1,g.o2,g.o3,g.o4])];simp only [go_sem,ya,yd,u1,u2,u3,u4,wk];refine ⟨_,d-1,rfl,by omega,k+1+1,_,?_,by omega,nQ⟩;simp only [go_sem,ya,yd,aw,aq hy.pu,au _ hy.pu,aq gN.pu,au _ gN.pu,aq pp,au _ pp]<;>rfl
  ·have hd:decide ((i:Int)=(k:Int))=false:=xb (by omega)
   cases k with
   | zero=>
    have:cs=[]:=yF (by omega)
    subst this;obtain ⟨i',rfl⟩:∃i',i=i'+1:=⟨i-1,by omega⟩;simp only [oV,oH,oC,pH];simp only [go_sem,ya,yd,xj,yJ,yp,Az,Fe,e0,gN.an,EX.an,e1,bO,bc,gp.st,hd,fP,yL,bz,u1,u2,u3,u4,wm,Cf,fY,wk];refine ⟨_,d-1,rfl,by omega,1,[s1,s2,s3,s4],?_,by omega,nQ⟩;simp only [go_sem,ya,yd,aw,aq hy.pu,au _ hy.pu,aq gN.pu,au _ gN.pu,aq pp,au _ pp]<;>rfl
   | succ k=>
    cases i
    all_goals
     simp only [oV,oH,oC,pH];simp only [go_sem,ya,yd,xj,Az,Fe,e0,gN.an,EX.an,e1,bO,bc,gp.st,hd,fP,yL,bz,u1,u2,u3,u4,wm,Cf]
     rw [fA (ex:=false) (pu:=true) (cs:=cs) (by simp only [go_sem,ya]) lq (by omega) (by omega) (by decide) (by simp only [go_sem,g.o1,g.o2,g.o3,g.o4])];simp only [go_sem,ya,yd,u1,u2,u3,u4,wk];refine ⟨_,d-1,rfl,by omega,k+1+1,_,?_,by omega,nQ⟩;simp only [go_sem,ya,yd,aw,aq hy.pu,au _ hy.pu,aq gN.pu,au _ gN.pu,aq pp,au _ pp]<;>rfl
 ·right
  have:k=R.length:=by omega
  subst this;rw [yC (by rw [DB];exact yq _)] at hQ
  simp only [go_sem,ya,Az,show ¬(R.length:Int)<R.length by omega,yv];exact ⟨_,_,rfl,by simp,_,_,cs,rfl,rfl,hQ,by simp only [go_sem,ya],by simp only [go_sem,ya],by simp only [go_sem,ya],by simp only [go_sem,ya],by simp only [go_sem,ya],by simp only [go_sem,ya],by simp only [go_sem,ya]⟩
def m89 (h:Ck P L) (RQ:Has P L 89 QV) (oz:Has P L 131 Cj) {y:AV} {R:Mx} {s:List Nat} (hy:cx cS y R) {w:Nat} (hw:wid w R) (jb:w<=1000) (hn:R.length<=1000) (pL:0<R.length) (hs:bJ s=0) {K:Nat} (kR:b9 K R) (kl:Hq K (aZ s)) (cU:2<=K) (hK:K<=100000) {sp:List AV}:∃r,aj P L 89 [y,.aO (.str s::sp)] r/\cx cS (shut r) (fw R (aZ s)):=by
 have pp:a7 (.aO (.str s::sp))=true:=rfl;have lQ:=j0 R (aZ s);have key:=fk (P:=P) (L:=L) (live:=[0,1,4,11,12,13]) (a:=Gr)
  (I:=fun d st=>∃(i:Nat) (rows:List AV),i+d=R.length/\cF cS rows ((fw R (aZ s)).take i)/\st=⟨[(0,y),(1,.aO (.str s::sp)),(4,oV 0 i),(11,y),(12,aa R.length),(13,aa i)],oH 0 1 rows [] i,oC 0 i,0⟩)
  (Q:=fun ex st=>∃tm ct rows,st=⟨tm,oH 0 1 rows [] R.length,ct,0⟩/\ex= .exit 0/\af tm 4=oV 0 R.length/\cF cS rows (fw R (aZ s))) ?_
 ·unfold aj;rw [aI RQ];simp only [go_sem,ya,QV,hy.len];generalize hq:D P L (.loop [0,1,4,11,12,13] Gr) _=q;obtain ⟨ex,st,rfl,tm,ct,rows,rfl,rfl,t4,hR⟩:=bD hq (key R.length) ⟨0,[],by omega,by simp [cF],by simp only [go_sem,ya,aw,aq hy.pu,au _ hy.pu,aq pp,au _ pp]<;>rfl⟩
  have hlen:=hR.len;rw [lQ] at hlen;obtain ⟨n,mi⟩:∃n,R.length=n+1:=⟨R.length-1,by omega⟩;rw [mi] at t4 hlen;refine ⟨.bV false 1 (n+1) rows,?_,?_⟩
  ·rw [mi];simp only [go_sem,yd,aw,t4,oV,oH];exact p9 (ej _ _ _) (by rw [hlen,yh]) (by decide)
  ·have:=BM false hR
   rwa [lQ,mi] at this
 ·rintro d st ⟨i,rows,hid,hR,rfl⟩;by_cases hi:i<R.length
  ·left
   obtain ⟨ra,rest,gN,e0⟩:=hy.bi hi;have f0:=ax7 h oz hy hw jb hn hs kR kl cU hK hi gN (sp:=sp) (rows:=rows) R.length;have wi:IntKind.wrap .i64 ((i:Int)+1)=((i+1:Nat):Int):=wrap64 (by omega) (by omega);have iL:(i:Int)<R.length:=by omega
   have hlen:=hR.len;rw [yI,lQ,xt (by omega)] at hlen;have end_:∀cs,QL cs (p7 R (aZ s) i)->cF cS (rows++[.aE false R.length cs]) ((fw R (aZ s)).take (i+1))/\cs.length=R.length*4:=fun cs fo=>by
    have h1:=Jn false fo;rw [DB] at h1;refine ⟨?_,by rw [fo.len,DB]⟩;rw [yT (by omega)];exact hR.snoc (by simpa [fw] using h1)
   have jW:∀st,aG [0,1,4,5,6,7,11,12,13,18,19,20] st=⟨[(0,y),(1,.aO (.str s::sp)),(4,oV 0 i),(5,aa i),(6,ra),(7,oV (oC 0 i) 0),(11,y),(12,aa R.length),(13,aa i),(18,y),(19,aa R.length),(20,aa (0:Nat))],pH i 0 rows [],oC (oC 0 i) 0,0⟩->_:=fun st aJ=>f0 st ⟨0,[],aJ,by omega,trivial⟩
   obtain ⟨n,mi⟩:∃n,R.length=n+1:=⟨R.length-1,by omega⟩
   cases i with
   | zero=>
    have:rows=[]:=yF hlen
    subst this;simp only [oV,oH,oC,pH] at jW ⊢;simp only [go_sem,ya,yd,Gr,iL,e0,hy.len];generalize bI:D P L (.loop [0,1,4,5,6,7,11,12,13,18,19,20] Az) _=q;obtain ⟨ex,st,rfl,tm,ct,cs,rfl,rfl,fo,t0,t1,t4,t7,t11,t12,t13⟩:=bD bI jW (by simp only [go_sem,ya,aw,aq hy.pu,au _ hy.pu,aq gN.pu,au _ gN.pu,aq pp,au _ pp]<;>rfl)
    obtain ⟨Dd,lc⟩:=end_ cs fo;have jm:=fun hp:Hp=>lP (hp:=hp) (k:=R.length) (sz:=4) (cs:=cs) false lc (by decide)
    rw [mi] at t7 t12 jm Dd ⊢;simp only [] at t7 ⊢;simp only [go_sem,ya,yd,xj,yJ,yp,yh,aw,t0,t1,t4,t7,t11,t12,t13,aq hy.pu,au _ hy.pu,aq pp,au _ pp,jm,fY,wi];refine ⟨_,d-1,rfl,by omega,1,_,by omega,Dd,?_⟩;simp only [go_sem,ya,yd,aw,aq hy.pu,au _ hy.pu,aq pp,au _ pp]<;>rfl
   | succ i=>
    simp only [oV,oH,oC,pH] at jW ⊢;simp only [go_sem,ya,yd,Gr,iL,e0,hy.len];generalize bI:D P L (.loop [0,1,4,5,6,7,11,12,13,18,19,20] Az) _=q;obtain ⟨ex,st,rfl,tm,ct,cs,rfl,rfl,fo,t0,t1,t4,t7,t11,t12,t13⟩:=bD bI jW (by simp only [go_sem,ya,yd,aw,aq hy.pu,au _ hy.pu,aq gN.pu,au _ gN.pu,aq pp,au _ pp]<;>rfl)
    obtain ⟨Dd,lc⟩:=end_ cs fo;have jm:=fun hp:Hp=>lP (hp:=hp) (k:=R.length) (sz:=4) (cs:=cs) false lc (by decide)
    rw [mi] at t7 t12 jm Dd ⊢;simp only [] at t7 ⊢;simp only [go_sem,ya,yd,yp,yh,aw,t0,t1,t4,t7,t11,t12,t13,aq hy.pu,au _ hy.pu,aq pp,au _ pp,jm]
    rw [fA (ex:=false) (pu:=true) (cs:=rows) (by simp only [go_sem,ya]) (by rw [hlen,yh]) (by omega) (by omega) (by decide) (by simp only [go_sem])];simp only [go_sem,ya,yd,wi];refine ⟨_,d-1,rfl,by omega,i+1+1,_,by omega,Dd,?_⟩;simp only [go_sem,ya,yd,aw,aq hy.pu,au _ hy.pu,aq pp,au _ pp]<;>rfl
  ·right
   have:i=R.length:=by omega
   subst this;rw [yC (by omega)] at hR;simp only [go_sem,ya,Gr,show ¬(R.length:Int)<R.length by omega,yv];exact ⟨_,_,rfl,by simp,_,_,rows,rfl,rfl,by simp only [go_sem,ya],hR⟩
end
def jC (a b:List Rat) (f:Rat) (k:Nat):Nat->List Rat
 | 0=>a
 | d+1=>(jC a b f k d).set (k+d) (aW a (k+d)-f*aW b (k+d))
def FD (a b:List Rat) (f:Rat) (k:Nat):∀d,(jC a b f k d).length=a.length
 | 0=>rfl
 | d+1=>by rw [jC,xD,FD a b f k d]
def ada (r:List Rat) (i j:Nat) (x:Rat):aW (r.set i x) j=if i=j/\j<r.length then x else aW r j:=by
 unfold aW;simp only [yM,List.getElem?_set];by_cases h:i=j
 ·subst h;by_cases h2:i<r.length
  ·simp [h2]
  ·simp [h2]
 ·simp [h]
def Oh (a b:List Rat) (f:Rat) (k j:Nat) (hj:j<a.length):∀d,aW (jC a b f k d) j=if k<=j/\j<k+d then aW a j-f*aW b j else aW a j
 | 0=>by rw [jC,yo (by omega)]
 | d+1=>by
  rw [jC,ada,FD,Oh a b f k j hj d];by_cases h1:k+d=j
  ·subst h1;rw [yA ⟨rfl,hj⟩,yA ⟨by omega,by omega⟩]
  ·rw [yo (fun q=>h1 q.1)];by_cases h2:k<=j/\j<k+d
   ·rw [yA h2,yA (by omega)]
   ·rw [yo h2,yo (by omega)]
def oQ (n:Nat) (m:Mx) (k i:Nat):Mx:=if i≠k/\aW (gR m i) k≠0 then m.set i (jC (gR m i) (gR m k) (aW (gR m i) k*(aW (gR m k) k)⁻¹) k (n+1-k)) else m
def fy (n:Nat) (m:Mx) (k:Nat):Nat->Mx
 | 0=>m
 | i+1=>oQ n (fy n m k i) k i
def gj (n:Nat) (m:Mx):Nat->Mx
 | 0=>m
 | k+1=>fy n (gj n m k) k n
def kK (n:Nat) (m:Mx):List Rat:=(y5 n).map fun k=>E (gj n m n) k n*(E (gj n m n) k k)⁻¹
def atn (n:Nat) (m:Mx) (k i:Nat):(oQ n m k i).length=m.length:=by unfold oQ;split<;>simp
def Ak (n:Nat) (m:Mx) (k:Nat):∀i,(fy n m k i).length=m.length
 | 0=>rfl
 | i+1=>by rw [fy,atn,Ak n m k i]
def sU (n:Nat) (m:Mx):∀k,(gj n m k).length=m.length
 | 0=>rfl
 | k+1=>by rw [gj,Ak,sU n m k]
def ato {n w:Nat} {m:Mx} {k i:Nat} (hw:wid w m) (hi:i<m.length):wid w (oQ n m k i):=fun j hj=>by
 unfold oQ at hj ⊢
 split
 ·rename_i h;rw [yA h,xD] at hj;rw [ib]
  split
  ·rw [FD];exact hw i hi
  ·exact hw j hj
 ·rename_i h;rw [yo h] at hj;exact hw j hj
def OM {n w:Nat} {m:Mx} {k:Nat} (hw:wid w m):∀i,i<=m.length->wid w (fy n m k i)
 | 0,_=>hw
 | i+1,hi=>ato (OM hw i (by omega)) (by rw [Ak];omega)
def Gh {n w:Nat} {m:Mx} (hw:wid w m) (hn:n<=m.length):∀k,wid w (gj n m k)
 | 0=>hw
 | k+1=>OM (Gh hw hn k) n (by rw [sU];exact hn)
def Al {n:Nat} {m:Mx} {k j:Nat}:∀i,(i<=j\/j=k)->gR (fy n m k i) j=gR m j
 | 0,_=>rfl
 | i+1,h=>by
  rw [fy];unfold oQ
  split
  ·rename_i q;rw [ib,yo (fun e=>by rcases h with h | h<;>omega),Al i (by omega)]
  ·exact Al i (by omega)
def adb {n:Nat} {m:Mx} {k j c:Nat} (hw:wid (n+1) m) (hj:j<m.length) (hk:k<n) (hc:c<n+1) (hz:∀c,c<k->E m k c=0) (hjk:j≠k):∀i,j<i->i<=m.length->E (fy n m k i) j c=E m j c-E m j k*(E m k k)⁻¹*E m k c
 | 0,h,_=>absurd h (vE j)
 | i+1,h,hi=>by
  have hwj:=hw j hj;by_cases jo:j=i
  ·subst jo;have e1:=Al (n:=n) (m:=m) (k:=k) (j:=j) j (.inl (yq j));have e2:=Al (n:=n) (m:=m) (k:=k) (j:=k) j (.inr rfl);rw [fy];unfold oQ;rw [e1,e2];unfold E;by_cases E4:aW (gR m j) k≠0
   ·rw [yA ⟨hjk,E4⟩,ib,yA ⟨rfl,by rw [Ak];exact hj⟩,Oh _ _ _ _ _ (by omega)]
    by_cases jT:k<=c
    ·rw [yA ⟨jT,by omega⟩]
    ·rw [yo (fun q=>jT q.1)]
     have:=hz c (by omega)
     unfold E at this;rw [this];grind
   ·have eF:aW (gR m j) k=0:=by simpa using E4
    rw [yo (fun q=>E4 q.2),e1,eF];grind
  ·have ih:=adb hw hj hk hc hz hjk i (by omega) (by omega);rw [fy];unfold oQ
   split
   ·unfold E at ih ⊢;rw [ib,yo (fun q=>jo q.1.symm)];exact ih
   ·exact ih
def kL (n:Nat) (G:Mx):Prop:=∀t:Nat->Rat,sm (fun c=>sm (fun i=>t i*E G i c) n*t c) n=0->∀k,k<n->t k=0
structure G8 (n:Nat) (G:Mx) (k:Nat) (m:Mx):Prop where
 Qw:∀i,i<n->∃t:Nat->Rat,(∀c,c<n+1->E m i c=sm (fun j=>t j*E G j c) n)/\∀j,k<=j->t j=if j=i then 1 else 0
 zero:∀c,c<k->∀i,i<n->i≠c->E m i c=0
 WL:∀c,c<k->E m c c≠0
def G8.piv {n k:Nat} {G m:Mx} (h:G8 n G k m) (hd:kL n G) (hk:k<n):E m k k≠0:=fun h0=>by
 obtain ⟨t,h1,h2⟩:=h.Qw k hk
 have:=hd t (qC (fun c hc=>by
  rw [<-h1 c (by omega)];rcases Nat.lt_trichotomy c k with q | q | q
  ·rw [h.zero c q k hk (by omega)];grind
  ·rw [q,h0];grind
  ·rw [h2 c (by omega),yo (by omega)];grind)) k hk
 rw [h2 k (yq k),yA rfl] at this;exact absurd this (by decide)
def G8.step {n k:Nat} {G m:Mx} (h:G8 n G k m) (hd:kL n G) (hk:k<n) (hw:wid (n+1) m) (hl:m.length=n):G8 n G (k+1) (fy n m k n):=by
 have hp:=h.piv hd hk;have hz:∀c,c<k->E m k c=0:=fun c hc=>h.zero c hc k hk (by omega)
 have ek:∀c,E (fy n m k n) k c=E m k c:=fun c=>by unfold E;rw [Al n (.inr rfl)]
 have ei:∀i c,i<n->i≠k->c<n+1->E (fy n m k n) i c=E m i c-E m i k*(E m k k)⁻¹*E m k c:=fun i c hi iK hc=>adb hw (by omega) hk hc hz iK n hi (by omega)
 refine ⟨fun i hi=>?_,fun c hc i hi zB=>?_,fun c hc=>?_⟩
 ·obtain ⟨t,h1,h2⟩:=h.Qw i hi;by_cases iK:i=k
  ·subst iK;exact ⟨t,fun c hc=>by rw [ek,h1 c hc],fun j hj=>h2 j (by omega)⟩
  ·obtain ⟨s,s1,s2⟩:=h.Qw k hk;refine ⟨fun j=>t j-E m i k*(E m k k)⁻¹*s j,fun c hc=>?_,fun j hj=>?_⟩
   ·rw [ei i c hi iK hc,h1 c hc,s1 c hc];have e1:=ju (-(E m i k*(E m k k)⁻¹)) (fun j=>s j*E G j c) n;have e2:=sT (fun j=>t j*E G j c) (fun j=> -(E m i k*(E m k k)⁻¹)*(s j*E G j c)) n;rw [e1] at e2;rw [show sm (fun j=>t j*E G j c) n-E m i k*(E m k k)⁻¹*sm (fun j=>s j*E G j c) n=sm (fun j=>t j*E G j c) n+ -(E m i k*(E m k k)⁻¹)*sm (fun j=>s j*E G j c) n by grind,<-e2];exact ep (fun j _=>by grind)
   ·show t j-E m i k*(E m k k)⁻¹*s j=_
    rw [h2 j (by omega),s2 j (by omega),yo (show j≠k by omega)];grind
 ·by_cases jU:c=k
  ·subst jU;rw [ei i c hi zB (by omega)]
   have:=Rat.inv_mul_cancel _ hp
   grind
  ·by_cases iK:i=k
   ·subst iK;rw [ek];exact h.zero c (by omega) i hi zB
   ·rw [ei i c hi iK (by omega),h.zero c (by omega) i hi zB,hz c (by omega)];grind
 ·by_cases jU:c=k
  ·subst jU;rw [ek];exact hp
  ·rw [ei c c (by omega) jU (by omega),hz c (by omega)]
   have:=h.WL c (by omega)
   grind
def O6 {n:Nat} {G:Mx} (hd:kL n G) (hw:wid (n+1) G) (hl:G.length=n):∀k,k<=n->G8 n G k (gj n G k)
 | 0,_=>⟨fun i hi=>⟨fun j=>if j=i then 1 else 0,fun c _=>by
   show E G i c=sm (fun j=>(if j=i then 1 else 0)*E G j c) n
   rw [rQ hi (fun j _ hj=>by rw [yo hj];grind),yA rfl];grind,fun j _=>rfl⟩,fun c hc=>absurd hc (vE c),fun c hc=>absurd hc (vE c)⟩
 | k+1,hk=>(O6 hd hw hl k (by omega)).step hd (by omega) (Gh hw (by omega) k) (by rw [sU];exact hl)
def awl {n:Nat} {G:Mx} (hd:kL n G) (hw:wid (n+1) G) (hl:G.length=n) {x:Nat->Rat} (hx:∀i,i<n->sm (fun c=>E G i c*x c) n=E G i n) {k:Nat} (hk:k<n):E (gj n G n) k n*(E (gj n G n) k k)⁻¹=x k:=by
 have h:=O6 hd hw hl n (yq n);obtain ⟨t,h1,_⟩:=h.Qw k hk;have e1:E (gj n G n) k n=sm (fun c=>E (gj n G n) k c*x c) n:=by
  rw [h1 n (by omega),ep (f:=fun c=>E (gj n G n) k c*x c) (g:=fun c=>sm (fun j=>t j*(E G j c*x c)) n) (fun c hc=>by
   rw [h1 c (by omega)]
   have:=ju (x c) (fun j=>t j*E G j c) n
   rw [show sm (fun j=>t j*E G j c) n*x c=x c*sm (fun j=>t j*E G j c) n by grind,<-this]
   exact ep (fun j _=>by grind)),Aj]
  exact ep (fun j hj=>by rw [ju,hx j hj])
 rw [rQ hk (fun c hc ck=>by rw [h.zero c hc k hk (fun q=>ck q.symm)];grind)] at e1
 have:=Rat.mul_inv_cancel _ (h.WL k hk)
 rw [e1];grind
def KU (x:Nat->Rat):∀n,0<=sm (fun i=>x i*x i) n
 | 0=>Rat.le_refl
 | n+1=>by
  have h1:=KU x n;have h2:0<=x n*x n:=by
   rcases Rat.le_total (a:=0) (b:=x n) with h | h
   ·exact yaa h h
   ·have h3:0<=-(x n):=by grind
    have:=yaa h3 h3
    grind
  rw [sm];grind
def aeR {x:Nat->Rat}:∀{n:Nat},sm (fun i=>x i*x i) n=0->∀i,i<n->x i=0
 | 0,_,i,hi=>absurd hi (vE i)
 | n+1,h,i,hi=>by
  have h1:=KU x n;have h2:=KU (fun _=>x n) 1;simp only [sm] at h2;rw [sm] at h;have e1:x n*x n=0:=by grind
  have e2:sm (fun i=>x i*x i) n=0:=by grind
  by_cases e9:i=n
  ·subst e9;rcases ybm.1 e1 with q | q<;>exact q
  ·exact aeR e2 i (by omega)
def abT {n m:Nat} {G:Mx} {a:Nat->Nat->Rat} {ld:Rat} (hl:0<ld) (hG:∀i c,i<n->c<n->E G i c=sm (fun r=>a i r*a c r) m+if i=c then ld else 0):kL n G:=fun t ht=>by
 have e1:sm (fun c=>sm (fun i=>t i*E G i c) n*t c) n=sm (fun r=>sm (fun i=>t i*a i r) n*sm (fun i=>t i*a i r) n) m+ld*sm (fun c=>t c*t c) n:=by
  rw [ep (g:=fun c=>sm (fun r=>sm (fun i=>t i*a i r) n*(t c*a c r)) m+ld*(t c*t c)) (fun c hc=>by
   rw [ep (f:=fun i=>t i*E G i c) (g:=fun i=>sm (fun r=>t i*a i r*a c r) m+t i*(if i=c then ld else 0)) (fun i hi=>by
    rw [hG i c hi hc]
    have:=ju (t i) (fun r=>a i r*a c r) m
    rw [ep (f:=fun r=>t i*a i r*a c r) (g:=fun r=>t i*(a i r*a c r)) (fun r _=>by grind),this];grind),sT,Aj,rQ hc (fun i _ ck=>by rw [yo ck];grind),yA rfl]
   have e2:sm (fun r=>sm (fun i=>t i*a i r) n*(t c*a c r)) m=t c*sm (fun r=>sm (fun i=>t i*a i r*a c r) n) m:=by
    rw [<-ju];refine ep (fun r _=>?_)
    have:=ju (a c r) (fun i=>t i*a i r) n
    rw [ep (f:=fun i=>t i*a i r*a c r) (g:=fun i=>a c r*(t i*a i r)) (fun i _=>by grind),this];grind
   rw [e2];grind),sT,Aj,ju]
  rw [ep (f:=fun r=>sm (fun c=>sm (fun i=>t i*a i r) n*(t c*a c r)) n) (g:=fun r=>sm (fun i=>t i*a i r) n*sm (fun i=>t i*a i r) n) (fun r _=>by rw [ju])]
 rw [e1] at ht;have h1:=KU (fun r=>sm (fun i=>t i*a i r) n) m;have h2:=KU t n;have h3:=yaa (Rat.le_of_lt hl) h2;have h4:ld*sm (fun c=>t c*t c) n=0:=by grind
 rcases ybm.1 h4 with q | q
 ·rw [q] at hl;exact absurd hl (Rat.lt_irrefl)
 ·exact aeR q
def aqV {n:Nat} {G:Mx} (hd:kL n G) (hw:wid n G) (hl:G.length=n):(ay G n).2.length=n:=by
 have h:=sL hw n (yq n);have jY:=h.pv.pv;refine Nat.le_antisymm (by omega) (Nat.le_of_not_lt fun aU=>?_);obtain ⟨u,⟨i,hi,ck⟩,hu⟩:=under aU (fun j k=>E (ay G n).1 j k);have h0:∀i,i<G.length->sm (fun k=>E G i k*u k) n=0:=fun i hi=>(h.down i hi).dot (fun j hj=>by
  by_cases q:j<(ay G n).2.length
  ·exact hu j q
  ·exact qC (fun k hk=>by rw [h.low j (by omega) hj k hk];grind))
 refine ck (hd u ?_ i hi)
 rw [ep (f:=fun c=>sm (fun i=>u i*E G i c) n*u c) (g:=fun c=>sm (fun i=>u i*(E G i c*u c)) n) (fun c _=>by
  have:=ju (u c) (fun i=>u i*E G i c) n
  rw [show sm (fun i=>u i*E G i c) n*u c=u c*sm (fun i=>u i*E G i c) n by grind,<-this]
  exact ep (fun i _=>by grind)),Aj]
 exact qC (fun i hi=>by rw [ju,h0 i (by omega)];grind)
def ax8 {w:Nat} {m:Mx} {i c:Nat} (h:c<w):E (gK w m) i c=E m i c:=by
 unfold E;rw [B3,Og h]
def kL.cut {n w:Nat} {G:Mx} (h:kL n G) (hw:n<=w):kL n (gK w G):=fun t ht=>h t (by
 rw [<-ht];refine ep (fun c hc=>?_)
 rw [ep (f:=fun i=>t i*E (gK w G) i c) (g:=fun i=>t i*E G i c) (fun i _=>by rw [ax8 (by omega)])])
section
variable {n:Nat} {G:Mx} (hd:kL n G) (hw:wid (n+1) G) (hl:G.length=n)
include hd hw hl
theorem Oi:(ay (gK n G) n).2.length=n:=aqV (hd.cut (yq n)) (Ub hw) (by rw [Of];exact hl)
theorem abU:n∉(ay G (n+1)).2:=fun hm=>by
 have h:=sL hw (n+1) (yq _);have jY:=h.pv.pv;have hf:=Oi hd hw hl
 rcases abS (m:=G) (w:=n) with e | e
 ·have h2:=sL (Ub hw) n (yq n);rw [e] at hm
  have:=h2.pv.lt n hm
  omega
 ·have:(ay G (n+1)).2.length=n+1:=by rw [e,yG,hf];rfl
  omega
theorem aeS:∀i,i<n->sm (fun c=>E G i c*E (ay G (n+1)).1 c n) n=E G i n:=fun i hi=>by
 have h:=sL hw (n+1) (yq _);obtain ⟨p1,p2⟩:=Uc hw (abU hd hw hl) (Oi hd hw hl);obtain ⟨y,hy⟩:=h.down i (by omega);have e0:∀c,c<n->∀j,j<n->E (ay G (n+1)).1 j c=if j=c then 1 else 0:=fun c hc j hj=>by
  have:=h.one c (by omega) j (by omega)
  rwa [p2 c (by omega)] at this
 have e1:∀c,c<n->E G i c=y c:=fun c hc=>by
  rw [hy c (by omega),hl,rQ hc (fun j hj ck=>by rw [e0 c hc j hj,yo ck];grind),e0 c hc c hc,yA rfl];grind
 rw [hy n (by omega),hl];exact ep (fun c hc=>by rw [e1 c hc])
theorem atp {x:Nat->Rat} (hx:∀i,i<n->sm (fun c=>E G i c*x c) n=E G i n):∀k,k<n->E (ay G (n+1)).1 k n=x k:=
 atl hw (fun i hi=>hx i (by omega)) (Oi hd hw hl)
theorem aeT:∀k,k<n->E (gj n G n) k n*(E (gj n G n) k k)⁻¹=E (ay G (n+1)).1 k n:=
 fun _ hk=>awl hd hw hl (aeS hd hw hl) hk
end
def aqW {m n:Nat} {a:Nat->Nat->Rat} {b y:Nat->Rat} {ld:Rat} (hy:∀r,r<m->sm (fun s=>(sm (fun c=>a r c*a s c) n+if r=s then ld else 0)*y s) m=b r) {i:Nat} (hi:i<n):
  sm (fun c=>(sm (fun r=>a r i*a r c) m+if i=c then ld else 0)*sm (fun s=>a s c*y s) m) n=sm (fun r=>a r i*b r) m:=by
 have e1:∀r,r<m->a r i*b r=sm (fun s=>a r i*(sm (fun c=>a r c*a s c) n*y s)) m+ld*(a r i*y r):=fun r hr=>by
  rw [<-hy r hr,ju,ep (f:=fun s=>(sm (fun c=>a r c*a s c) n+if r=s then ld else 0)*y s) (g:=fun s=>sm (fun c=>a r c*a s c) n*y s+(if r=s then ld else 0)*y s) (fun s _=>by grind),sT,rQ (f:=fun s=>(if r=s then ld else 0)*y s) hr (fun s _ ck=>by rw [yo (fun q=>ck q.symm)];grind),yA rfl]
  grind
 rw [ep e1,sT,ju]
 rw [ep (f:=fun c=>(sm (fun r=>a r i*a r c) m+if i=c then ld else 0)*sm (fun s=>a s c*y s) m) (g:=fun c=>sm (fun r=>sm (fun s=>a r i*(a r c*a s c*y s)) m) m+(if i=c then ld else 0)*sm (fun s=>a s c*y s) m) (fun c _=>by
  rw [ep (f:=fun r=>sm (fun s=>a r i*(a r c*a s c*y s)) m) (g:=fun r=>sm (fun s=>a s c*y s) m*(a r i*a r c)) (fun r _=>by
   rw [ep (f:=fun s=>a r i*(a r c*a s c*y s)) (g:=fun s=>(a r i*a r c)*(a s c*y s)) (fun s _=>by grind),ju];grind),ju]
  grind),sT,rQ (f:=fun c=>(if i=c then ld else 0)*sm (fun s=>a s c*y s) m) hi (fun c _ ck=>by rw [yo (fun q=>ck q.symm)];grind),yA rfl]
 congr 1
 rw [Aj];refine ep (fun r _=>?_);rw [Aj];refine ep (fun s _=>?_);rw [ju]
 congr 1
 have:=ju (y s) (fun c=>a r c*a s c) n
 rw [show sm (fun c=>a r c*a s c) n*y s=y s*sm (fun c=>a r c*a s c) n by grind,<-this];exact ep (fun c _=>by grind)
def atq {hp:Hp} {x y:Bool} {sz r:Nat} {W:List Nat} {T:List (List AV)} {live:List Nat} {tm tm':Env} {ct a b w i:Nat} {cs:List AV} (lW:W.length=i) (hi:T.length=i) (hE:et (bP tm live)=[a]) (hb:i<b) (Bo:a≠b) (ha:a=0\/i<a)
  (hm:ao hp a=some (.cells true false x 1 (eR (dT i) W++ .ak b 0 w::yf r .ab))) (hr:∀j,j<i->ao hp (j+1)=some (.cells true true y sz (gT T j))) (hc:ao hp b=some (.cells true true y sz cs)) (hM:i<=1000)
  (hT:∀S,dc a S 0=some 0->fe (pos S) (bP tm live)=tm'):∃ah,aG live ⟨tm,hp,ct,0⟩=⟨tm',ah,1+(i+1),0⟩/\fj ah x y sz (W++[w]) (T++[cs]) r:=by
 have ij:∀j (h:j<(dT i++[b]).length),(dT i++[b])[j]=if j<i then j+1 else b:=fun j h=>by
  by_cases hj:j<i
  ·rw [yA hj,xk (by rw [jM];exact hj),FC]
  ·rw [yo hj,xA (by rw [jM];omega)];simp
 have li:(dT i++[b]).length=i+1:=by simp [jM]
 obtain ⟨ah,e,g,_⟩:=O4 (hp:=hp) (x:=x) (y:=y) (sz:=sz) (r:=r) (T:=T++[cs]) (W:=W++[w]) (ct:=ct) (pl:=[]) (ids:=dT i++[b]) hE (by
  rw [hm];unfold cQ;rw [Jq (by rw [jM,lW]),xm];rfl) (by rw [li];simp [hi]) (by simp [lW,hi]) (fun j hj=>by
  rw [ij j hj];rw [li] at hj;by_cases jo:j<i
  ·rw [yA jo,hr j jo,mG (by omega),mG (by simp;omega),xk]
  ·have A0:j=i:=by omega
   subst A0;rw [yo (by omega),hc,mG (by simp;omega),xA (by omega)];simp [hi]) (by simp;omega) (by
  unfold cL;rw [xT];refine xQ.2 ⟨fun hx=>?_,?_⟩
  ·obtain ⟨j,hj,e⟩:=xG.1 hx;rw [ij j hj] at e;rw [li] at hj;split at e<;>omega
  ·unfold List.Nodup;rw [List.pairwise_iff_getElem];intro u v hu hv huv;rw [ij u hu,ij v hv];rw [li] at hu hv
   split<;>split<;>omega) (fun _ q=>by cases q) (by simp) (fun S q _=>hT S q)
 exact ⟨ah,by rw [e];simp [hi],g⟩
def aaJ {l:List AV} {x:AV} {m i:Nat} (h:l.length=i):over i [x] (l++yf (m+1) .ab)=l++x::yf m .ab:=by
 subst h;unfold over;rw [uH,tn,xP,<-vS,vj]
 simp
def awm {hp:Hp} {ct b w i m:Nat} {pu x:Bool} {W:List Nat} (hW:W.length=i):gP hp ct 0 i 1 [.ak b 0 w] (some (.cells true pu x 1 (cQ (dT i) W (m+1))))=some (.az [],aT hp 0 (.cells true false x 1 (eR (dT i) W++ .ak b 0 w::yf m .ab)),ct):=by
 have hl:(eR (dT i) W).length=i:=by rw [Dz (by rw [jM,hW]),hW]
 unfold cQ
 rw [od (new:=[AV.ak b 0 w]) (by rfl) (by rw [yG,hl];simp) (by rfl),aaJ hl]
 simp [aH,a7]
def am2 {hp:Hp} {e:Bool} {l:List Rat} {cs:List AV} (h:QL cs l):iN hp 4 (.aE e l.length cs)=some (l.length,cs):=by
 simp [iN,h.len]
def aAI {hp:Hp} {ct id:Nat} {ex:Bool} {l:List Rat} {cs:List AV} (h:QL cs l) (hg:ao hp id=some (.cells true true ex 4 (yf (l.length+1) z4).flatten)):LK hp ct 4 (some (l.length,cs)) (.ak id 0 (l.length+1))=some (.int .i64 l.length,aT hp id (.cells true true ex 4 (cs++(yf 1 z4).flatten)),ct):=by
 have hl:=h.len;have e:over 0 (cs.take (min l.length (l.length+1)*4)) (yf (l.length+1) z4).flatten=cs++(yf 1 z4).flatten:=by
  rw [xt (by omega),yC (by omega)];simp only [over,List.take_zero,xp,yg]
  congr 1
  rw [hl,<-List.replicate_append_replicate,List.flatten_append]
  have:=UE l.length
  rw [<-this,vj]
 simp only [LK,hg,ve,yg,UE,yx (yq _),h.one,wm,yD,h.pu];rw [e,xt (by omega)]
section
variable {P:aM} {L:Lib}
def ax9 {y bv:AV} {G:Mx} {b:List Rat} {n:Nat} (hy:cx cS y G) (hb:cS bv b) (hw:wid n G) (lG:G.length=n) (lb:b.length=n) (pL:0<n) (hn:n<=900):
  ∀(d:Nat) (st:St),(∃(i:Nat) (T:List (List AV)) (pu:Bool),i+d=n/\T.length=i/\cF QL T ((bQ G b).take i)/\(0<i->pu=false)/\∃hp,aG [0,1,5,6,19,20] st=⟨[(0,y),(1,bv),(5,aa n),(6,.ak 0 0 n),(19,aa n),(20,aa i)],hp,1+i,0⟩/\ao hp 0=some (.cells true pu true 1 (cQ (dT i) (yf i (n+1)) (n-i)))/\∀j,j<i->ao hp (j+1)=some (.cells true true true 4 (gT T j)))->
   ∃ex s',D P L (.loop [0,1,5,6,19,20] KG) st=some (ex,s')/\∃tm hp ct T,s'=⟨tm,hp,ct,0⟩/\ex= .exit 0/\af tm 5=aa n/\af tm 6= .ak 0 0 n/\cF QL T (bQ G b)/\fj hp true true 4 (yf n (n+1)) T 0:=by
 have lW:=nY (R:=G) (b:=b) (by omega);intro dq sq;generalize bh:aG [0,1,5,6,19,20] sq=s0;revert bh s0 sq dq;apply dj;rintro d st ⟨i,T,pu,hid,lT,hQ,iF,hp,rfl,g0,gr⟩;by_cases hi:i<n
 ·left
  have RR:i<G.length:=by omega
  obtain ⟨row,rest,mc,e0⟩:=hy.bi RR;have wr:=hw i RR;rw [cm RR] at wr;obtain ⟨e,cs,rfl,fo⟩:∃e cs,row= .aE e n cs/\QL cs G[i]:=by
   rcases mc with ⟨_,h2⟩ | ⟨e,cs,h1,h2⟩
   ·rw [h2] at wr;simp at wr;omega
   ·exact ⟨e,cs,by rw [h1,wr],h2⟩
  obtain ⟨q1,q2,q3,q4,qr,e1,hq⟩:=hb.bi (i:=i) (by omega);have gq:=hq.f4;obtain ⟨m,hm⟩:∃m,n-i=m+1:=⟨n-i-1,by omega⟩;rw [hm] at g0;have wn:IntKind.wrap .i64 ((n:Int)+1)=((n+1:Nat):Int):=wrap64 (by omega) (by omega);have wi:IntKind.wrap .i64 ((i:Int)+1)=((i+1:Nat):Int):=wrap64 (by omega) (by omega);have cg:∀ct,om ct 4 64 [.int .i64 0,.ab,.int .i64 0,.ab] (some (n+1)) (some (n+1))=some (.ak ct 0 (n+1),.cells true true true 4 (yf (n+1) z4).flatten):=fun ct=>sQ (by omega) (by omega) rfl rfl
  have aJ:=fun (hp:Hp) (ct:Nat)=>awm (hp:=hp) (ct:=ct) (b:=1+i) (w:=n+1) (i:=i) (m:=m) (pu:=pu) (x:=true) (W:=yf i (n+1)) (by simp)
  have ck:¬(1+i=0):=by omega
  have g00:∀o,ao (aT hp 0 o) 0=some o:=fun o=>by rw [fM g0,yA rfl]
  obtain ⟨q,dq⟩:∃q,vh i (eR (dT i) (yf i (n+1))++ .ak (1+i) 0 (n+1)::yf m .ab)= .ak (1+i) 0 (n+1)::q:=by
   have hl:(eR (dT i) (yf i (n+1))).length=i:=by rw [Dz (by simp [jM])];simp
   exact ⟨_,by
          conv=>lhs;arg 1;rw [<-hl]
          rw [vj]⟩
  have Me:∀hp:Hp,iN hp 4 (.aE e n cs)=some (n,cs):=fun hp=>by
   have:=am2 (hp:=hp) (e:=e) fo;rwa [wr] at this
  have zT:∀(hp:Hp) (ct:Nat),ao hp (1+i)=some (.cells true true true 4 (yf (n+1) z4).flatten)->LK hp ct 4 (some (n,cs)) (.ak (1+i) 0 (n+1))=some (.int .i64 n,aT hp (1+i) (.cells true true true 4 (cs++(yf 1 z4).flatten)),ct):=fun hp ct hg=>by
   have:=aAI (ct:=ct) (id:=1+i) (ex:=true) fo (by rw [wr];exact hg);rwa [wr] at this
  have lcs:cs.length=n*4:=by rw [fo.len,wr]
  have A9:=fun (hp:Hp) (ct id:Nat)=>abI (hp:=hp) (ct:=ct) (id:=id) (i:=n) (m:=0) (ex:=true) (qs:=cs) lcs gq
  simp only [yaF,yba,xT,yg] at A9;have nQ:cF QL (T++[cs++[q1,q2,q3,q4]]) ((bQ G b).take (i+1)):=by
   rw [yT (by omega),JM RR (by omega)];exact hQ.snoc (fo.snoc hq)
  simp only [go_sem,ya,yh,KG,show (i:Int)<n by omega,yu,wn,oS,cg,bA 0 0 hi,yg,ck,g0,aJ,g00,dq,AA,e0,av7,Me,zT,e1,Er,B2,bA (1+i) 0 (Nat.lt_succ_self n),A9];rw [wi];have lT':(T++[cs++[q1,q2,q3,q4]]).length=i+1:=by simp [lT]
  refine ⟨_,d-1,rfl,by omega,i+1,T++[cs++[q1,q2,q3,q4]],false,by omega,lT',nQ,fun _=>rfl,?_⟩
  refine (atq (x:=true) (y:=true) (sz:=4) (r:=m) (W:=yf i (n+1)) (T:=T) (cs:=cs++[q1,q2,q3,q4]) (w:=n+1) (i:=i) (a:=0) (b:=1+i) (by simp) lT (by simp only [go_sem,ya,aq hy.pu,aq hb.pu]<;>rfl) (by omega) (by omega) (.inl rfl) (by rw [cd _ _ (by omega),g00]) (fun j hj=>by rw [cd _ _ (by omega),fM g0,yo (by omega),gr j hj]) (by rw [ej]) (by omega) (fun S q=>by simp only [go_sem,ya,q,au _ hy.pu,au _ hb.pu]<;>rfl)).imp (fun ah h=>⟨h.1,?_,fun j hj=>h.2.r j (by omega)⟩)
  have hm9:=h.2.m;rw [lT',<-uY] at hm9;rw [show n-(i+1)=m by omega];exact hm9
 ·right
  have:i=n:=by omega
  subst this;rw [yC (by omega)] at hQ;have hp0:=iF pL;subst hp0;rw [ub] at g0;simp only [go_sem,ya,KG,show ¬(i:Int)<i by omega,yv];exact ⟨_,_,rfl,by simp,_,_,_,T,rfl,rfl,by simp only [go_sem,ya],by simp only [go_sem,ya],hQ,⟨by simp [lT],by rw [lT];exact g0,fun j hj=>gr j (by omega)⟩⟩
end
def aya {n k i K:Nat} {m:Mx} (hw:wid (n+1) m) (hi:i<m.length) (hk:k<m.length) (hm:∀x,x∈gR m i->Hq K x) (cg:∀x,x∈gR m k->Hq K x) (hK:1<=K):∀x,x∈gR (oQ n m k i) i->Hq (4*K+1) x:=fun x hx=>by
 unfold oQ at hx
 split at hx
 ·rename_i h;rw [ib,yA ⟨rfl,hi⟩] at hx;obtain ⟨j,hj,rfl⟩:=xG.1 hx;rw [FD] at hj;have e:=Oh (gR m i) (gR m k) (aW (gR m i) k*(aW (gR m k) k)⁻¹) k j hj (n+1-k);rw [db (by rw [FD];exact hj)] at e
  rw [e];have wk:=hw k hk;have wi:=hw i hi;have hE:∀{r:List Rat} {c:Nat},(∀x,x∈r->Hq K x)->c<r.length->Hq K (aW r c):=fun h hc=>by
   rw [db hc];exact h _ (yE _)
  split
  ·rename_i hc;have a1:=hE hm hj;have a2:=hE cg (c:=j) (by omega);by_cases rZ:k<n+1
   ·have a3:=hE hm (c:=k) (by omega);have a4:=(hE cg (c:=k) (by omega)).inv
    have:=(a1.sub ((a3.mul a4).mul a2))
    exact this.mono (by omega)
   ·omega
  ·exact (hE hm hj).mono (by omega)
 ·exact (hm x hx).mono (by omega)
def ahj {n k K:Nat} {m:Mx} (hw:wid (n+1) m) (hk:k<m.length) (hm:b9 K m) (hK:1<=K):∀i,i<=m.length->b9 (4*K+1) (fy n m k i)
 | 0,_=>fun j hj x hx=>(hm j hj x hx).mono (by omega)
 | i+1,hi=>fun j hj x hx=>by
  have lg:=Ak n m k i;by_cases jo:j=i
  ·subst jo;rw [fy] at hx;exact aya (OM hw j (by omega)) (by omega) (by omega) (fun x hx=>by rw [Al j (.inl (yq j))] at hx;exact hm j (by omega) x hx) (fun x hx=>by rw [Al j (.inr rfl)] at hx;exact hm k hk x hx) hK x hx
  ·have e:gR (fy n m k (i+1)) j=gR (fy n m k i) j:=by
    rw [fy];unfold oQ
    split
    ·rw [ib,yo (fun q=>jo q.1.symm)]
    ·rfl
   rw [e] at hx;rw [Ak] at hj;exact ahj hw hk hm hK i (by omega) j (by rw [Ak];exact hj) x hx
def Qx {n K:Nat} {G:Mx} (hw:wid (n+1) G) (hl:G.length=n) (hm:b9 K G) (hK:1<=K):∀k,k<=n->∃J,1<=J/\J+1<=4^k*(K+1)/\b9 J (gj n G k)
 | 0,_=>⟨K,hK,by omega,hm⟩
 | k+1,hk=>by
  obtain ⟨J,j1,j2,j3⟩:=Qx hw hl hm hK k (by omega);refine ⟨4*J+1,by omega,?_,?_⟩
  ·have:=Nat.mul_le_mul_left 4 j2
   rw [Nat.pow_succ,Nat.mul_comm (4^k) 4,Nat.mul_assoc];omega
  ·rw [gj];exact ahj (Gh hw (by omega) k) (by rw [sU];omega) j3 j1 n (by rw [sU];omega)
def QL.Gi {l:List Rat} {cs:List AV} (h:QL cs l) {c:Nat} (hc:c<l.length):∃a b x y r,vh (c*4) cs=a::b::x::y::r/\dh (.agg [a,b,x,y]) (aW l c):=by
 obtain ⟨a,b,x,y,r,e,q⟩:=h.get hc;exact ⟨a,b,x,y,r,e,by rw [db hc];exact q⟩
def cF.M3 {T:List (List AV)} {M:Mx} (h:cF QL T M) {i:Nat} (hi:i<M.length):QL (gT T i) (gR M i):=by
 have hl:=h.len;rw [mG (by omega),cm hi];exact h.get (by omega) hi
def Js {n w i:Nat} (h:i<n):(yf n w).getD i 0=w:=by
 simp [yM,h]
section
variable {P:aM} {L:Lib}
def ayb (h:Fr' P L) {m:Mx} {n i k:Nat} (hw:wid (n+1) m) (lm:m.length=n) (hi:i<n) (hk:k<n) (iK:i≠k) (hn:n<=900) {f1 f2 f3 f4:AV} {f:Rat} (hf:dh (.agg [f1,f2,f3,f4]) f) {K:Nat} (ka:∀x,x∈gR m i->Hq K x) (kb:∀x,x∈gR m k->Hq K x) (kf:Hq (2*K) f) (nP:1<=K) (hK:K<=500000000):
  ∀(d:Nat) (st:St),(∃(c:Nat) (T:List (List AV)),k+c+d=n+1/\cF QL T (m.set i (jC (gR m i) (gR m k) f k c))/\∃hp ct,aG [5,6,8,9,10,11,49,50,53,54] st=⟨[(5,aa n),(6,.ak 0 0 n),(8,aa k),(9,aa i),(10,.ptr (n+1) 0),(11,aa (k+c:Nat)),(49,aa n),(50,aa k),(53,aa n),(54,aa i)],hp,ct,0⟩/\fj hp true true 4 (yf n (n+1)) T 0/\ao hp (n+1)=some (.cells true true true 4 [f1,f2,f3,f4]))->
   ∃ex s',D P L (.loop [5,6,8,9,10,11,49,50,53,54] KH) st=some (ex,s')/\∃tm hp ct T,s'=⟨tm,hp,ct,0⟩/\ex= .exit 6/\af tm 5=aa n/\af tm 6= .ak 0 0 n/\af tm 8=aa k/\af tm 49=aa n/\af tm 50=aa k/\af tm 53=aa n/\af tm 54=aa i/\cF QL T (m.set i (jC (gR m i) (gR m k) f k (n+1-k)))/\fj hp true true 4 (yf n (n+1)) T 0:=by
 intro dq sq;generalize bh:aG [5,6,8,9,10,11,49,50,53,54] sq=s0;revert bh s0 sq dq;apply dj;rintro d st ⟨c,T,hcd,hQ,hp,ct,rfl,hG,hfb⟩;have lMs:(m.set i (jC (gR m i) (gR m k) f k c)).length=n:=by rw [xD,lm]
 have lT:T.length=n:=by rw [hQ.len,lMs]
 have wi:=hw i (by omega);have wk:=hw k (by omega);by_cases hc:k+c<=n
 ·left
  have ei:gR (m.set i (jC (gR m i) (gR m k) f k c)) i=jC (gR m i) (gR m k) f k c:=by rw [ib,yA ⟨rfl,by omega⟩]
  have ek:gR (m.set i (jC (gR m i) (gR m k) f k c)) k=gR m k:=by rw [ib,yo (fun q=>iK q.1)]
  have qi:=hQ.M3 (i:=i) (by omega);have qk:=hQ.M3 (i:=k) (by omega);rw [ei] at qi;rw [ek] at qk;have ls:(jC (gR m i) (gR m k) f k c).length=n+1:=by rw [FD,wi]
  obtain ⟨a1,a2,a3,a4,ar,d1,h1⟩:=qi.Gi (c:=k+c) (by omega);obtain ⟨b1,b2,b3,b4,br,d2,h2⟩:=qk.Gi (c:=k+c) (by omega);rw [Oh _ _ _ _ _ (by omega),yo (by omega)] at h1;have hE:∀{r:List Rat} {c:Nat},(∀x,x∈r->Hq K x)->c<r.length->Hq K (aW r c):=fun h hc=>by
   rw [db hc];exact h _ (yE _)
  have k1:=hE ka (c:=k+c) (by omega);have k2:=hE kb (c:=k+c) (by omega);obtain ⟨p,e1,a6⟩:=XY h hf h2 (K:=2*K) kf (k2.mono (by omega)) (by omega);obtain ⟨z,e2,hz⟩:=m50 h h1 a6 (K:=3*K) (k1.mono (by omega)) ((kf.mul k2).mono (by omega)) (by omega);have eF:=hz;have g1:=h1.f4;have g2:=h2.f4;have gf:=hf.f4;obtain ⟨p1,p2,p3,p4,rfl,gp⟩:=a6.gen;obtain ⟨z1,z2,z3,z4',rfl,gz⟩:=hz.gen;obtain ⟨q1,Bt⟩:=Jr (r:=0) (n:=n) (W:=yf n (n+1)) hi (by simp);obtain ⟨q2,M4⟩:=Jr (r:=0) (n:=n) (W:=yf n (n+1)) hk (by simp);rw [Js hi] at Bt;rw [Js hk] at M4;have g0:=hG.m;rw [lT] at g0;have gi:=hG.r i (by omega);have gk:=hG.r k (by omega);have aJ:=fun (hp:Hp) (ct id:Nat)=>stQ (hp:=hp) (ct:=ct) (id:=id) (ex:=true) qi (show k+c<(jC (gR m i) (gR m k) f k c).length by omega) gz
  have wc:IntKind.wrap .i64 (((k+c:Nat):Int)+1)=((k+(c+1):Nat):Int):=by
   rw [show ((k+c:Nat):Int)+1=((k+(c+1):Nat):Int) by omega];exact wrap64 (by omega) (by omega)
  have aU:k+c<n+1:=by omega
  unfold aj at e1 e2;simp only [go_sem,ya,yh,KH,show ((k+c:Nat):Int)<=n by omega,yu,oS,bA 0 0 hi,bA 0 0 hk,yg,g0,Bt,M4,AA,gi,gk,bA (i+1) 0 aU,bA (k+1) 0 aU,d1,d2,fP,hfb,yL,g1.an,g2.an,gf.an,e1,bO,gp.an,e2,aJ,wc];refine ⟨_,d-1,rfl,by omega,c+1,T.set i (VE.over ((k+c)*4) [z1,z2,z3,z4'] (gT T i)),by omega,?_,?_⟩
  ·have hq:=(qi.over (show k+c<(jC (gR m i) (gR m k) f k c).length by omega) eF);have e:m.set i (jC (gR m i) (gR m k) f k (c+1))=(m.set i (jC (gR m i) (gR m k) f k c)).set i (jC (gR m i) (gR m k) f k (c+1)):=by rw [List.set_set]
   rw [e];exact hQ.set i hq
  ·have M5:=hG.set (i:=i) (by omega) (VE.over ((k+c)*4) [z1,z2,z3,z4'] (gT T i))
   refine (M5.PB (p:=n+1) (by simp [lT]) (by rw [fM gi,yo (by omega)];exact hfb) (by simp only [go_sem,ya]<;>rfl) (by simp;omega) (fun S s1 s2=>by simp only [go_sem,ya,s1,s2,xD,lT]<;>rfl)).imp (fun ah h=>⟨_,h.1,h.2.1,?_⟩)
   have:=h.2.2
   rwa [xD,lT] at this
 ·right
  have:c=n+1-k:=by omega
  subst this;simp only [go_sem,ya,KH,show ¬((k+(n+1-k):Nat):Int)<=n by omega,yv];exact ⟨_,_,rfl,by simp,_,_,_,T,rfl,rfl,by simp only [go_sem,ya],by simp only [go_sem,ya],by simp only [go_sem,ya],by simp only [go_sem,ya],by simp only [go_sem,ya],by simp only [go_sem,ya],by simp only [go_sem,ya],hQ,hG⟩
end
def fj.cons {hp:Hp} {x y:Bool} {sz r p:Nat} {W:List Nat} {T:List (List AV)} (h:fj hp x y sz W T r) (ah:T.length<p) (o:Obj):fj ((p,o)::hp) x y sz W T r:=
 ⟨h.l,by rw [cd _ _ (by omega)];exact h.m,fun i hi=>by rw [cd _ _ (by omega)];exact h.r i hi⟩
section
variable {P:aM} {L:Lib}
def ayc (h:Fr' P L) {m:Mx} {n k:Nat} (hw:wid (n+1) m) (lm:m.length=n) (hk:k<n) (hn:n<=900) (hp0:aW (gR m k) k≠0) {K:Nat} (km:b9 K m) (nP:1<=K) (hK:K<=500000000):
  ∀(d:Nat) (st:St),(∃(i:Nat) (T:List (List AV)),i+d=n/\cF QL T (fy n m k i)/\∃hp,aG [5,6,8,49,50,53,54] st=⟨[(5,aa n),(6,.ak 0 0 n),(8,aa k),(49,aa n),(50,aa k),(53,aa n),(54,aa i)],hp,1+n,0⟩/\fj hp true true 4 (yf n (n+1)) T 0)->
   ∃ex s',D P L (.loop [5,6,8,49,50,53,54] D5) st=some (ex,s')/\∃tm hp ct T,s'=⟨tm,hp,ct,0⟩/\ex= .exit 4/\af tm 5=aa n/\af tm 6= .ak 0 0 n/\af tm 49=aa n/\af tm 50=aa k/\cF QL T (fy n m k n)/\fj hp true true 4 (yf n (n+1)) T 0:=by
 intro dq sq;generalize bh:aG [5,6,8,49,50,53,54] sq=s0;revert bh s0 sq dq;apply dj;rintro d st ⟨i,T,hid,hQ,hp,rfl,hG⟩;have lg:=Ak n m k i;have lT:T.length=n:=by rw [hQ.len,lg,lm]
 by_cases hi:i<n
 ·left
  have CO:=OM (n:=n) (k:=k) hw i (by omega);have ri:=Al (n:=n) (m:=m) (k:=k) (j:=i) i (.inl (yq i));have rk:=Al (n:=n) (m:=m) (k:=k) (j:=k) i (.inr rfl);have wi:=hw i (by omega);have wk:=hw k (by omega);have qi:=hQ.M3 (i:=i) (by omega);have qk:=hQ.M3 (i:=k) (by omega);rw [ri] at qi;rw [rk] at qk;obtain ⟨a1,a2,a3,a4,ar,d1,h1⟩:=qi.Gi (c:=k) (by omega);obtain ⟨b1,b2,b3,b4,br,d2,h2⟩:=qk.Gi (c:=k) (by omega);have hE:∀{r:List Rat} {c:Nat},(∀x,x∈r->Hq K x)->c<r.length->Hq K (aW r c):=fun h hc=>by
   rw [db hc];exact h _ (yE _)
  have k1:=hE (km i (by omega)) (c:=k) (by omega);have k2:=hE (km k (by omega)) (c:=k) (by omega);have e0:=ais h h1;have pT:=aAu (aW (gR m i) k);have g1:=h1.f4;have g2:=h2.f4;obtain ⟨q1,Bt⟩:=Jr (r:=0) (n:=n) (W:=yf n (n+1)) hi (by simp);obtain ⟨q2,M4⟩:=Jr (r:=0) (n:=n) (W:=yf n (n+1)) hk (by simp);rw [Js hi] at Bt;rw [Js hk] at M4;have g0:=hG.m;rw [lT] at g0;have gi:=hG.r i (by omega);have gk:=hG.r k (by omega);have aU:k<n+1:=by omega
  have M6:IntKind.wrap .i64 ((i:Int)+1)=((i+1:Nat):Int):=wrap64 (by omega) (by omega);unfold aj at e0;by_cases iK:i=k
  ·have hd:decide ((i:Int)=(k:Int))=true:=xq (by omega);have hr:fy n m k (i+1)=fy n m k i:=by
    rw [fy];unfold oQ;rw [yo (fun q=>q.1 iK)]
   simp only [go_sem,ya,D5,show (i:Int)<n by omega,yu,hd];refine ⟨_,d-1,rfl,by omega,i+1,T,by omega,by rw [hr];exact hQ,?_⟩
   rw [M6];exact (hG.comp (by simp only [go_sem,ya]<;>rfl) (by omega) (fun S s1=>by simp only [go_sem,ya,s1]<;>rfl)).imp (fun ah h=>⟨h.1.trans (by rw [lT]),h.2⟩)
  ·have hd:decide ((i:Int)=(k:Int))=false:=xb (by omega);by_cases hz:aW (gR m i) k=0
   ·have hr:fy n m k (i+1)=fy n m k i:=by
     rw [fy];unfold oQ;rw [yo (fun q=>q.2 (by rw [ri];exact hz))]
    rw [xq hz] at pT;simp only [go_sem,ya,yh,D5,show (i:Int)<n by omega,yu,hd,oS,bA 0 0 hi,yg,g0,Bt,AA,gi,bA (i+1) 0 aU,d1,fP,g1.an,e0,pT];refine ⟨_,d-1,rfl,by omega,i+1,T,by omega,by rw [hr];exact hQ,?_⟩
    rw [M6];exact (hG.comp (by simp only [go_sem,ya]<;>rfl) (by omega) (fun S s1=>by simp only [go_sem,ya,s1]<;>rfl)).imp (fun ah h=>⟨h.1.trans (by rw [lT]),h.2⟩)
   ·rw [xb hz] at pT;obtain ⟨f,e1,hf⟩:=m70 h h1 h2 hp0 k1 k2 (by omega);rw [ycg] at hf;have re:=hf;obtain ⟨f1,f2,f3,f4,rfl,gf⟩:=hf.gen;have hr:fy n m k (i+1)=(fy n m k i).set i (jC (gR m i) (gR m k) (aW (gR m i) k*(aW (gR m k) k)⁻¹) k (n+1-k)):=by
     rw [fy];unfold oQ;rw [ri,rk,yA ⟨iK,hz⟩]
    have f0:=ayb (P:=P) (L:=L) h (m:=fy n m k i) (n:=n) (i:=i) (k:=k) CO (by omega) hi hk iK hn re (K:=K) (by rw [ri];exact km i (by omega)) (by rw [rk];exact km k (by omega)) ((k1.mul k2.inv).mono (by omega)) nP hK (n+1-k)
    rw [ri,rk] at f0;have self:(fy n m k i).set i (jC (gR m i) (gR m k) (aW (gR m i) k*(aW (gR m k) k)⁻¹) k 0)=fy n m k i:=by
     have:=To (m:=fy n m k i) (i:=i) (by omega)
     rwa [ri] at this
    unfold aj at e1;simp only [go_sem,ya,yd,yh,D5,show (i:Int)<n by omega,yu,hd,oS,bA 0 0 hi,bA 0 0 hk,yg,g0,Bt,M4,AA,gi,gk,bA (i+1) 0 aU,bA (k+1) 0 aU,d1,d2,fP,g1.an,g2.an,e0,pT,e1,bO,bc,gf.st];generalize hq:D P L (.loop [5,6,8,9,10,11,49,50,53,54] KH) _=q;have Yu:=hG.cons (p:=1+n) (by omega) (.cells true true true 4 [f1,f2,f3,f4]);obtain ⟨ex,st,rfl,tm,fD,nM,T2,rfl,rfl,t5,t6,t8,t49,t50,t53,t54,De,M7⟩:=bD hq f0 ⟨0,T,by omega,by rw [self];exact hQ,(Yu.PB (p:=1+n) (by omega) (ej _ _ _) (by simp only [go_sem,ya]<;>rfl) (by omega) (fun S s1 s2=>by simp only [go_sem,ya,s1,s2,lT]<;>rfl)).imp (fun ah h=>⟨_,h.1,h.2.1,by have:=h.2.2;rwa [lT] at this⟩)⟩
    have M8:T2.length=n:=by rw [De.len,xD,lg,lm]
    obtain ⟨oM,e3,M9⟩:=M7.comp (ct:=nM) (live:=[5,6,8,49,50,53,54]) (tm:=tm) (tm':=[(5,aa n),(6,.ak 0 0 n),(8,aa k),(49,aa n),(50,aa k),(53,aa n),(54,aa i)]) (by simp only [go_sem,t5,t6,t8,t49,t50,t53,t54]<;>rfl) (by omega) (fun S s1=>by simp only [go_sem,t5,t6,t8,t49,t50,t53,t54,s1]<;>rfl)
    simp only [go_sem,ya,e3,M6];refine ⟨_,d-1,rfl,by omega,i+1,T2,by omega,by rw [hr];exact De,?_⟩
    exact (M9.comp (by simp only [go_sem,ya]<;>rfl) (by omega) (fun S s1=>by simp only [go_sem,ya,s1]<;>rfl)).imp (fun ah h=>⟨h.1.trans (by rw [M8]),h.2⟩)
 ·right
  have:i=n:=by omega
  subst this;simp only [go_sem,ya,D5,show ¬(i:Int)<i by omega,yv];exact ⟨_,_,rfl,by simp,_,_,_,T,rfl,rfl,by simp only [go_sem,ya],by simp only [go_sem,ya],by simp only [go_sem,ya],by simp only [go_sem,ya],hQ,hG⟩
end
def Am (n:Nat) (m:Mx):(kK n m).length=n:=by simp [kK]
def aqX {n i:Nat} {m:Mx} (h:i<n):(kK n m).take (i+1)=(kK n m).take i++[E (gj n m n) i n*(E (gj n m n) i i)⁻¹]:=by
 rw [yT (by rw [Am];exact h)]
 simp [kK]
section
variable {P:aM} {L:Lib}
def ayd (h:Fr' P L) {W:Mx} {n:Nat} (hd:kL n W) (hw:wid (n+1) W) (lw:W.length=n) (hn:n<=900) {K:Nat} (kW:b9 K W) (nP:1<=K) (hK:4^n*(K+1)<=400000000):
  ∀(d:Nat) (st:St),(∃(k:Nat) (T:List (List AV)),k+d=n/\cF QL T (gj n W k)/\∃hp,aG [5,6,49,50] st=⟨[(5,aa n),(6,.ak 0 0 n),(49,aa n),(50,aa k)],hp,1+n,0⟩/\fj hp true true 4 (yf n (n+1)) T 0)->
   ∃ex s',D P L (.loop [5,6,49,50] KI) st=some (ex,s')/\∃tm hp ct T,s'=⟨tm,hp,ct,0⟩/\ex= .exit 2/\af tm 5=aa n/\af tm 6= .ak 0 0 n/\cF QL T (gj n W n)/\fj hp true true 4 (yf n (n+1)) T 0:=by
 intro dq sq;generalize bh:aG [5,6,49,50] sq=s0;revert bh s0 sq dq;apply dj;rintro d st ⟨k,T,hkd,hQ,hp,rfl,hG⟩;have lg:=sU n W k;have lT:T.length=n:=by rw [hQ.len,lg,lw]
 by_cases hk:k<n
 ·left
  have CO:=Gh (n:=n) hw (by omega) k;obtain ⟨J,j1,j2,j3⟩:=Qx hw lw kW nP k (by omega);have Yp:4^k<=4^n:=xh (by decide) (by omega);have hJ:=yS (K+1) Yp;have jY:=(O6 hd hw lw k (by omega)).piv hd hk;have f0:=ayc (P:=P) (L:=L) h (m:=gj n W k) (n:=n) (k:=k) CO (by omega) hk hn jY j3 j1 (by omega) n;have wk:IntKind.wrap .i64 ((k:Int)+1)=((k+1:Nat):Int):=wrap64 (by omega) (by omega);simp only [go_sem,ya,KI,show (k:Int)<n by omega,yu];generalize hq:D P L (.loop [5,6,8,49,50,53,54] D5) _=q;obtain ⟨ex,st,rfl,tm,fD,nM,T2,rfl,rfl,t5,t6,t49,t50,De,M7⟩:=bD hq f0 ⟨0,T,by omega,hQ,(hG.comp (by simp only [go_sem,ya]<;>rfl) (by omega) (fun S s1=>by simp only [go_sem,ya,s1]<;>rfl)).imp (fun ah h=>⟨h.1.trans (by rw [lT]<;>rfl),h.2⟩)⟩
  have M8:T2.length=n:=by rw [De.len,Ak,lg,lw]
  obtain ⟨oM,e3,M9⟩:=M7.comp (ct:=nM) (live:=[5,6,49,50]) (tm:=tm) (tm':=[(5,aa n),(6,.ak 0 0 n),(49,aa n),(50,aa k)]) (by simp only [go_sem,t5,t6,t49,t50]<;>rfl) (by omega) (fun S s1=>by simp only [go_sem,t5,t6,t49,t50,s1]<;>rfl)
  simp only [go_sem,ya,e3,wk];refine ⟨_,d-1,rfl,by omega,k+1,T2,by omega,De,?_⟩;exact (M9.comp (by simp only [go_sem,ya]<;>rfl) (by omega) (fun S s1=>by simp only [go_sem,ya,s1]<;>rfl)).imp (fun ah h=>⟨h.1.trans (by rw [M8]),h.2⟩)
 ·right
  have:k=n:=by omega
  subst this;simp only [go_sem,ya,KI,show ¬(k:Int)<k by omega,yv];exact ⟨_,_,rfl,by simp,_,_,_,T,rfl,rfl,by simp only [go_sem,ya],by simp only [go_sem,ya],hQ,hG⟩
def aye (h:Fr' P L) {W:Mx} {n:Nat} (hd:kL n W) (hw:wid (n+1) W) (lw:W.length=n) (hn:n<=900) {K:Nat} (kW:b9 K W) (nP:1<=K) (hK:4^n*(K+1)<=400000000) {T:List (List AV)} (hQ:cF QL T (gj n W n)):
  ∀(d:Nat) (st:St),(∃(i:Nat) (qs:List AV),i+d=n/\QL qs ((kK n W).take i)/\∃hp,aG [5,6,12,119,120] st=⟨[(5,aa n),(6,.ak 0 0 n),(12,.ak (n+1) 0 n),(119,aa n),(120,aa i)],hp,1+(n+1),0⟩/\fj hp true true 4 (yf n (n+1)) T 0/\ao hp (n+1)=some (.cells true true true 4 (qs++(yf (n-i) z4).flatten)))->
   ∃ex s',D P L (.loop [5,6,12,119,120] KJ) st=some (ex,s')/\∃tm hp ct qs,s'=⟨tm,hp,ct,0⟩/\ex= .exit 8/\af tm 12= .ak (n+1) 0 n/\QL qs (kK n W)/\ao hp (n+1)=some (.cells true true true 4 qs):=by
 intro dq sq;generalize bh:aG [5,6,12,119,120] sq=s0;revert bh s0 sq dq;apply dj;rintro d st ⟨i,qs,hid,hq,hp,rfl,hG,gB⟩;have lg:=sU n W n;have lT:T.length=n:=by rw [hQ.len,lg,lw]
 by_cases hi:i<n
 ·left
  obtain ⟨J,j1,j2,j3⟩:=Qx hw lw kW nP n (yq n);have hv:=O6 hd hw lw n (yq n);have jY:=hv.WL i hi;have wi:=Gh (n:=n) hw (by omega) n i (by omega);have qi:=hQ.M3 (i:=i) (by omega);obtain ⟨a1,a2,a3,a4,ar,d1,h1⟩:=qi.Gi (c:=n) (by omega);obtain ⟨b1,b2,b3,b4,br,d2,h2⟩:=qi.Gi (c:=i) (by omega);have hE:∀c,c<n+1->Hq J (aW (gR (gj n W n) i) c):=fun c hc=>by
   rw [db (by omega)];exact j3 i (by omega) _ (yE _)
  obtain ⟨f,e1,hf⟩:=m70 h h1 h2 jY (hE n (by omega)) (hE i (by omega)) (by omega);rw [ycg] at hf;have re:=hf;obtain ⟨f1,f2,f3,f4,rfl,gf⟩:=hf.gen;have g1:=h1.f4;have g2:=h2.f4;obtain ⟨q1,Bt⟩:=Jr (r:=0) (n:=n) (W:=yf n (n+1)) hi (by simp);rw [Js hi] at Bt;have g0:=hG.m;rw [lT] at g0;have gi:=hG.r i (by omega);have lq:=hq.len;rw [yI,Am,xt (by omega)] at lq;obtain ⟨m,hm⟩:∃m,n-i=m+1:=⟨n-i-1,by omega⟩;rw [hm] at gB;have aJ:=fun (hp:Hp) (ct id:Nat)=>abI (hp:=hp) (ct:=ct) (id:=id) (i:=i) (m:=m) (ex:=true) (qs:=qs) lq gf
  have M6:IntKind.wrap .i64 ((i:Int)+1)=((i+1:Nat):Int):=wrap64 (by omega) (by omega);have bI:QL (qs++[f1,f2,f3,f4]) ((kK n W).take (i+1)):=by
   rw [aqX hi];exact hq.snoc re
  unfold aj at e1;simp only [go_sem,ya,yh,KJ,show (i:Int)<n by omega,yu,oS,bA 0 0 hi,yg,g0,Bt,AA,gi,bA (i+1) 0 (show n<n+1 by omega),bA (i+1) 0 (show i<n+1 by omega),d1,d2,fP,g1.an,g2.an,e1,bO,bA (n+1) 0 hi,gB,aJ,M6];refine ⟨_,d-1,rfl,by omega,i+1,qs++[f1,f2,f3,f4],by omega,bI,?_⟩;have M5:fj (aT hp (n+1) (.cells true true true 4 (qs++[f1,f2,f3,f4]++(yf m z4).flatten))) true true 4 (yf n (n+1)) T 0:=⟨hG.l,by rw [fM gB,yo (by omega)];exact hG.m,fun j hj=>by rw [fM gB,yo (by omega)];exact hG.r j hj⟩
  refine (M5.PB (p:=n+1) (by omega) (by rw [fM gB,yA rfl]) (by simp only [go_sem,ya]<;>rfl) (by omega) (fun S s1 s2=>by simp only [go_sem,ya,s1,s2,lT]<;>rfl)).imp (fun ah h=>⟨h.1.trans (by rw [lT]<;>rfl),h.2.1,?_⟩)
  have:=h.2.2
  rw [lT] at this;rw [show n-(i+1)=m by omega];exact this
 ·right
  have:i=n:=by omega
  subst this;rw [yC (by rw [Am];exact yq _)] at hq
  rw [ub,yaF,yba,xT] at gB;simp only [go_sem,ya,KJ,show ¬(i:Int)<i by omega,yv];exact ⟨_,_,rfl,by simp,_,_,_,qs,rfl,rfl,by simp only [go_sem,ya],hq,gB⟩
def m90 (h:Fr' P L) (RS:Has P L 90 Bc) {y bv:AV} {G:Mx} {b:List Rat} {n:Nat} (hy:cx cS y G) (hb:cS bv b) (hwG:wid n G) (lG:G.length=n) (lb:b.length=n) (pL:0<n) (hn:n<=900) (hd:kL n (bQ G b)) {K:Nat} (kW:b9 K (bQ G b)) (nP:1<=K) (hK:4^n*(K+1)<=400000000):∃r,aj P L 90 [y,bv] r/\cS (shut r) (kK n (bQ G b)):=by
 have hW:=DA hwG (show b.length=G.length by omega);have lw:(bQ G b).length=n:=by rw [nY (by omega)];exact lG
 have f0:=ax9 (P:=P) (L:=L) hy hb hwG lG lb pL hn n;have f1:=ayd (P:=P) (L:=L) h hd hW lw hn kW nP hK n;have cg:∀ct,om ct 1 24 [AV.ab] (some n) (some n)=some (.ak ct 0 n,.cells true true true 1 (yf n [AV.ab]).flatten):=fun ct=>sQ (by omega) (by omega) rfl rfl
 have CJ:(yf n [AV.ab]).flatten=yf n AV.ab:=by
  rw [tx]
 rw [CJ] at cg;have aAJ:∀ct,om ct 4 64 [.int .i64 0,.ab,.int .i64 0,.ab] (some n) (some n)=some (.ak ct 0 n,.cells true true true 4 (yf n z4).flatten):=fun ct=>sQ (by omega) (by omega) rfl rfl
 have lbv:∀hp:Hp,gg hp 1 bv=some (aa n):=fun hp=>by have:=hb.len (hp:=hp);rwa [lb] at this
 have Ve:∃hp T,D P L (mM 4 Bc.body) ⟨dN 0 [y,bv],[],0,0⟩=some (.normal,⟨[(5,aa n),(6,.ak 0 0 n)],hp,1+n,0⟩)/\cF QL T (gj n (bQ G b) n)/\fj hp true true 4 (yf n (n+1)) T 0:=by
  simp only [go_sem,ya,yd,Bc,mM,bw,aB,lbv,oS,cg];generalize hq:D P L (.loop [0,1,5,6,19,20] KG) _=q;obtain ⟨ex,st,rfl,tm,hp,ct,T,rfl,rfl,t5,t6,hQ,hG⟩:=bD hq f0 ⟨0,[],true,by omega,rfl,by simp [cF],fun q=>absurd q (by decide),[(0,.cells true true true 1 (yf n .ab))],by simp only [go_sem,ya,yd,aw,aq hy.pu,au _ hy.pu,aq hb.pu,au _ hb.pu]<;>rfl,by simp [ej,cQ,eR,dT],fun j hj=>absurd hj (vE j)⟩
  have lT:T.length=n:=by rw [hQ.len,lw]
  obtain ⟨oM,e3,M9⟩:=hG.comp (ct:=ct) (live:=[5,6]) (tm:=tm) (tm':=[(5,aa n),(6,.ak 0 0 n)]) (by simp only [go_sem,t5,t6]<;>rfl) (by omega) (fun S s1=>by simp only [go_sem,t5,t6,s1]<;>rfl)
  simp only [go_sem,e3];generalize Bk:D P L (.loop [5,6,49,50] KI) _=q2;obtain ⟨ex,st,rfl,tm,hp,ct,T2,rfl,rfl,t5,t6,De,M7⟩:=bD Bk f1 ⟨0,T,by omega,hQ,(M9.comp (by simp only [go_sem,ya]<;>rfl) (by omega) (fun S s1=>by simp only [go_sem,ya,s1]<;>rfl)).imp (fun ah h=>⟨h.1.trans (by rw [lT]<;>rfl),h.2⟩)⟩
  have M8:T2.length=n:=by rw [De.len,sU,lw]
  obtain ⟨HL,e4,hG4⟩:=M7.comp (ct:=ct) (live:=[5,6]) (tm:=tm) (tm':=[(5,aa n),(6,.ak 0 0 n)]) (by simp only [go_sem,t5,t6]<;>rfl) (by omega) (fun S s1=>by simp only [go_sem,t5,t6,s1]<;>rfl)
  rw [M8] at e4;simp only [go_sem,e4];exact ⟨_,T2,rfl,De,hG4⟩
 obtain ⟨hp,T,hS,hQ,hG⟩:=Ve;have lT:T.length=n:=by rw [hQ.len,sU,lw]
 have hD:D P L Bc.body ⟨dN 0 [y,bv],[],0,0⟩=D P L (qM 4 Bc.body) ⟨[(5,aa n),(6,.ak 0 0 n)],hp,1+n,0⟩:=by
  rw [JH 4 (c:=Bc.body) (by refine ⟨rfl,rfl,rfl,rfl,?_⟩;show _=_;rfl),hS,fN]
 have f2:=aye (P:=P) (L:=L) h hd hW lw hn kW nP hK hQ n;have Yu:=hG.cons (p:=1+n) (by omega) (.cells true true true 4 (yf n z4).flatten);have fin:∃qs,aj P L 90 [y,bv] (.bV true 4 n qs)/\QL qs (kK n (bQ G b)):=by
  unfold aj;rw [aI RS,hD];simp only [go_sem,ya,Bc,qM,aB,oS,aAJ];generalize hq:D P L (.loop [5,6,12,119,120] KJ) _=q;obtain ⟨ex,st,rfl,tm,fD,nM,qs,rfl,rfl,t12,Bk,gB⟩:=bD hq f2 ⟨0,[],by omega,trivial,(Yu.PB (p:=1+n) (by omega) (ej _ _ _) (by simp only [go_sem,ya]<;>rfl) (by omega) (fun S s1 s2=>by simp only [go_sem,ya,s1,s2,lT]<;>rfl)).imp (fun ah h=>⟨h.1.trans (by rw [lT]<;>rfl),h.2.1,by have:=h.2.2;rw [lT] at this;simpa using this⟩)⟩
  refine ⟨qs,?_,Bk⟩;simp only [go_sem,yd,aw,t12,gB];exact p9 (ej _ _ _) (by rw [Bk.len,Am]) (by decide)
 obtain ⟨qs,e,hq⟩:=fin;refine ⟨_,e,?_⟩
 have:=Jn true hq
 rwa [Am] at this
end
def mY (R:Mx) (w:Nat):(cC R w).length=w:=by simp [cC]
def ON {R:Mx} {w i:Nat} (h:i<w):gR (cC R w) i=R.map fun r=>aW r i:=by
 rw [cm (by rw [mY];exact h)];simp [cC]
def OO (R:Mx) (w:Nat):wid R.length (cC R w):=fun i hi=>by
 rw [mY] at hi;rw [ON hi,yk]
def Vf {R:Mx} {w i k:Nat} (h:i<w) (hk:k<R.length):E (cC R w) i k=E R k i:=by
 unfold E;rw [ON h,cm hk,db (by rw [yk];exact hk),yX]
def gL (n:Nat):List Nat:=List.range' 2 n
def rL (n:Nat):(gL n).length=n:=by simp [gL]
def Tv {n i:Nat} (h:i<(gL n).length):(gL n)[i]=i+2:=by
 simp only [gL,List.getElem_range'];omega
def Dq {n i:Nat}:i∈gL n↔2<=i/\i<n+2:=by
 unfold gL;rw [List.mem_range'_1];omega
def aoJ (n:Nat):gL (n+1)=gL n++[n+2]:=by
 unfold gL;rw [List.range'_1_concat];congr 2;omega
structure su (hp:Hp) (bx:AV) (p x y:Bool) (sz:Nat) (W:List Nat) (T:List (List AV)) (r:Nat):Prop where
 l:W.length=T.length
 b:ao hp 0=some (.cells true true true 1 [bx])
 m:ao hp 1=some (.cells true p x 1 (cQ (gL T.length) W r))
 q:0<T.length->p=false
 r:∀i,i<T.length->ao hp (i+2)=some (.cells true true y sz (gT T i))
def UF {hp:Hp} {bx:AV} {p x y:Bool} {sz:Nat} {W:List Nat} {T:List (List AV)} {r:Nat} {live:List Nat} {tm tm':Env} {ct a b:Nat} {ids:List Nat} (hE:et (bP tm live)=[b,a]) (hb:ao hp b=some (.cells true true true 1 [bx])) (hm:ao hp a=some (.cells true p x 1 (cQ ids W r))) (hp0:0<ids.length->p=false) (hl:ids.length=T.length) (hW:W.length=T.length) (hr:∀i (h:i<ids.length),ao hp ids[i]=some (.cells true true y sz (gT T i))) (hM:T.length<=10000) (hn:(b::a::ids).Nodup)
  (hT:∀S,dc b S 0=some 0->dc a S 0=some 1->fe (pos S) (bP tm live)=tm'):
  ∃ah,aG live ⟨tm,hp,ct,0⟩=⟨tm',ah,2+T.length,0⟩/\su ah bx p x y sz W T r:=by
 have ij:∀i,i∈ids->∃o,ao hp i=some o/\iR o=[]:=fun i hi=>by
  obtain ⟨k,hk,rfl⟩:=xG.1 hi;exact ⟨_,hr k hk,rfl⟩
 have gO:=xQ.1 hn;have dE:=xQ.1 gO.2;have hba:b≠a:=fun e=>gO.1 (by rw [e];exact wM)
 have hrf:iR (.cells true p x 1 (cQ ids W r))=ids:=by
  cases p with
  | true=>
   rw [TJ]
   cases ids with
   | nil=>rfl
   | cons i l=>exact absurd (hp0 (by simp)) (by decide)
  | false=>rw [Oy,SN r (by omega)]
 have hR:mo hp 100000 (et (bP tm live)) []=b::a::ids:=by
  rw [hE,show (100000:Nat)=99998+1+1 from rfl,FA,Jh,Gc,hb,Gd,TJ,xp,xp,FA,SI _ hba,Jh,Gc,hm,Gd,hrf]
  rw [OI hp ids _ [] 99998 (by omega) ij dE.2 (fun i hi q=>by
   rcases xL.1 q with q | q
   ·rw [xu.1 q] at hi;exact gO.1 (xY _ hi)
   ·rw [xu.1 q] at hi
    exact dE.1 hi),TY hp (by omega)]
  rfl
 obtain ⟨ah,e,g⟩:=R3 (ct:=ct) hR;have ls:(b::a::ids).length=2+ids.length:=by simp;omega
 have pI:∀i (h:i<ids.length),pos (b::a::ids) ids[i]=some (2+i):=fun i h=>by
  have:=sJ (b::a::ids) 0 (i+2) (by simp;omega) hn
  rw [show (b::a::ids)[i+2]'(by simp;omega)=ids[i] from rfl] at this;rw [pos_eq,this];congr 1;omega
 have q0:dc b (b::a::ids) 0=some 0:=sJ (b::a::ids) 0 0 (by simp) hn;have q1:dc a (b::a::ids) 0=some 1:=sJ (b::a::ids) 0 1 (by simp) hn;refine ⟨ah,by rw [e,hT _ q0 q1,ls,hl],⟨hW,?_,?_,fun h=>hp0 (by omega),fun i hi=>?_⟩⟩
 ·exact g 0 (by simp) _ hb
 ·have:=g 1 (by simp) _ hm
  rw [this]
  cases p with
  | true=>
   cases ids with
   | nil=>rw [<-hl];rfl
   | cons i l=>exact absurd (hp0 (by simp)) (by decide)
  | false=>
   have e2:iT (pos (b::a::ids)) (.cells true false x 1 (cQ ids W r))= .cells true false x 1 (eH (pos (b::a::ids)) (cQ ids W r)):=rfl;rw [e2,Tp r 2 (by omega) pI,hl];rfl
 ·have:=g (i+2) (by simp;omega) _ (hr i (by omega))
  rw [this];rfl
def su.comp {hp:Hp} {bx:AV} {p x y:Bool} {sz:Nat} {W:List Nat} {T:List (List AV)} {r:Nat} {live:List Nat} {tm tm':Env} {ct:Nat} (h:su hp bx p x y sz W T r) (hE:et (bP tm live)=[0,1]) (hM:T.length<=10000)
  (hT:∀S,dc 0 S 0=some 0->dc 1 S 0=some 1->fe (pos S) (bP tm live)=tm'):∃ah,aG live ⟨tm,hp,ct,0⟩=⟨tm',ah,2+T.length,0⟩/\su ah bx p x y sz W T r:=
 UF hE h.b h.m (fun q=>h.q (by rwa [rL] at q)) (rL _) h.l (fun i hi=>by
  rw [Tv];rw [rL] at hi;exact h.r i hi) hM (by
  refine xQ.2 ⟨fun q=>?_,xQ.2 ⟨fun q=>?_,yaX⟩⟩
  ·rcases wJ.1 q with q | q
   ·omega
   ·have:=Dq.1 q;omega
  ·have:=Dq.1 q;omega) hT
def ade {hp:Hp} {bx:AV} {x y:Bool} {sz:Nat} {W:List Nat} {T:List (List AV)} {r:Nat} {live:List Nat} {tm tm':Env} {ct b i w:Nat} {cs:List AV} (hE:et (bP tm live)=[0,1]) (lW:W.length=i) (lT:T.length=i) (hb:i+2<=b) (h0:ao hp 0=some (.cells true true true 1 [bx])) (hm:ao hp 1=some (.cells true false x 1 (eR (gL i) W++ .ak b 0 w::yf r .ab))) (hr:∀j,j<i->ao hp (j+2)=some (.cells true true y sz (gT T j))) (hc:ao hp b=some (.cells true true y sz cs)) (hM:i<=1000)
  (hT:∀S,dc 0 S 0=some 0->dc 1 S 0=some 1->fe (pos S) (bP tm live)=tm'):∃ah,aG live ⟨tm,hp,ct,0⟩=⟨tm',ah,2+(i+1),0⟩/\su ah bx false x y sz (W++[w]) (T++[cs]) r:=by
 have li:(gL i++[b]).length=i+1:=by simp [rL]
 obtain ⟨ah,e,g⟩:=UF (hp:=hp) (bx:=bx) (p:=false) (x:=x) (y:=y) (sz:=sz) (r:=r) (T:=T++[cs]) (W:=W++[w]) (ct:=ct) (a:=1) (b:=0) (ids:=gL i++[b]) hE h0 (by
  rw [hm];unfold cQ;rw [Jq (by rw [rL,lW]),xm];rfl) (fun _=>rfl) (by rw [li];simp [lT]) (by simp [lW,lT]) (fun j hj=>by
  rw [li] at hj;by_cases jo:j<i
  ·rw [xk (by rw [rL];exact jo),Tv,hr j jo,mG (by omega),mG (by simp;omega),xk]
  ·have A0:j=i:=by omega
   subst A0;rw [xA (by rw [rL];omega),mG (by simp;omega),xA (by omega)];simp [rL,lT,hc]) (by simp;omega) (by
  have jV:(gL i++[b]).Nodup:=List.nodup_append.2 ⟨yaX,by simp,fun u hu v hv e=>by
   have h1:=Dq.1 hu
   have:=xu.1 hv
   omega⟩
  refine xQ.2 ⟨fun q=>?_,xQ.2 ⟨fun q=>?_,jV⟩⟩
  ·rcases wJ.1 q with q | q
   ·omega
   ·rcases xL.1 q with q | q
    ·have:=Dq.1 q;omega
    ·have:=xu.1 q;omega
  ·rcases xL.1 q with q | q
   ·have:=Dq.1 q;omega
   ·have:=xu.1 q;omega) hT
 exact ⟨ah,by rw [e];simp [lT],g⟩
def atr {hp:Hp} {ct a b w i m:Nat} {pu x:Bool} {ids W:List Nat} (hW:W.length=i) (hi:ids.length=i):gP hp ct a i 1 [.ak b 0 w] (some (.cells true pu x 1 (cQ ids W (m+1))))=some (.az [],aT hp a (.cells true false x 1 (eR ids W++ .ak b 0 w::yf m .ab)),ct):=by
 have hl:(eR ids W).length=i:=by rw [Dz (by omega),hW]
 unfold cQ
 rw [od (new:=[AV.ak b 0 w]) (by rfl) (by rw [yG,hl];simp) (by rfl),aaJ hl]
 simp [aH,a7]
def ats {l r:List AV} {x y:AV} {i:Nat} (h:l.length=i):over i [y] (l++x::r)=l++y::r:=by
 subst h;unfold over;rw [uH,tn,<-vS,vj]
 simp
def att {hp:Hp} {ct a b b0 w w0 i m:Nat} {x:Bool} {ids W:List Nat} (hW:W.length=i) (hi:ids.length=i):gP hp ct a i 1 [.ak b 0 w] (some (.cells true false x 1 (cQ (ids++[b0]) (W++[w0]) m)))=some (.az [],aT hp a (.cells true false x 1 (eR ids W++ .ak b 0 w::yf m .ab)),ct):=by
 have hl:(eR ids W).length=i:=by rw [Dz (by omega),hW]
 unfold cQ
 rw [Jq (by omega),xm,List.singleton_append,od (new:=[AV.ak b 0 w]) (by rfl) (by rw [yG,hl];simp) (by rfl),ats hl]
 simp [aH,a7]
def atu {ids W:List Nat} {i m:Nat} (hW:W.length=i) (hi:ids.length=i):∃q,vh i (cQ ids W (m+1))= .ab::q:=by
 have hl:(eR ids W).length=i:=by rw [Dz (by omega),hW]
 unfold cQ;rw [<-hl,vj,xP];exact ⟨_,rfl⟩
def aqY {ids W:List Nat} {i m b w:Nat} (hW:W.length=i) (hi:ids.length=i):∃q,vh i (cQ (ids++[b]) (W++[w]) m)= .ak b 0 w::q:=by
 have hl:(eR ids W).length=i:=by rw [Dz (by omega),hW]
 unfold cQ;rw [Jq (by omega),xm,<-hl,vj];exact ⟨_,rfl⟩
section
variable {P:aM} {L:Lib}
def ayf {rv bv bx:AV} (pb:a7 bv=true) {R:Mx} {w i:Nat} (hr:cx cS rv R) (hw:wid w R) (jb:w<=900) (hn:R.length<=900) (h0:0<R.length) (hi:i<w) {T:List (List AV)} (hT:T.length=i):
  ∀(d:Nat) (st:St),(∃k,k+d=R.length/\((k=0/\∃hp p,aG [1,5,9,10,11,46,47,50,51,52] st=⟨[(1,bv),(5,.ptr 0 0),(9,rv),(10,.ak 1 0 w),(11,aa i),(46,aa w),(47,aa i),(50,rv),(51,aa R.length),(52,aa k)],hp,2+i,0⟩/\su hp bx p true false 4 (yf i R.length) T (w-i))\/(0<k/\∃hp cs,aG [1,5,9,10,11,46,47,50,51,52] st=⟨[(1,bv),(5,.ptr 0 0),(9,rv),(10,.ak 1 0 w),(11,aa i),(46,aa w),(47,aa i),(50,rv),(51,aa R.length),(52,aa k)],hp,2+(i+1),0⟩/\QL cs ((R.map fun r=>aW r i).take k)/\su hp bx false true false 4 (yf i R.length++[k]) (T++[cs]) (w-(i+1)))))->
   ∃ex s',D P L (.loop [1,5,9,10,11,46,47,50,51,52] Gp) st=some (ex,s')/\∃tm hp ct cs,s'=⟨tm,hp,ct,0⟩/\ex= .exit 2/\af tm 1=bv/\af tm 5= .ptr 0 0/\af tm 9=rv/\af tm 10= .ak 1 0 w/\af tm 46=aa w/\af tm 47=aa i/\QL cs (R.map fun r=>aW r i)/\su hp bx false true false 4 (yf i R.length++[R.length]) (T++[cs]) (w-(i+1)):=by
 intro dq sq;generalize bh:aG [1,5,9,10,11,46,47,50,51,52] sq=s0;revert bh s0 sq dq;apply dj;rintro d st ⟨k,hkd,aJ⟩;have lr:(yf i R.length).length=i:=by simp
 have lb:=rL i;by_cases hk:k<R.length
 ·left
  obtain ⟨r,rest,mc,e0⟩:=hr.bi hk;have wr:=hw k hk;rw [cm hk] at wr;obtain ⟨q1,q2,q3,q4,pr,e1,hq⟩:=mc.bi (i:=i) (by omega);have gq:=hq.f4;have bz:∀tm,qJ tm [AV.int .i64 0,.ab,.int .i64 0,.ab] 0 4 [q1,q2,q3,q4] []=fill tm [q1,q2,q3,q4] []:=fun tm=>UC gq.o1 gq.o2 gq.o3 gq.o4
  obtain ⟨p1,p2,p3,p4⟩:=gq.E7;have hen:dh (.agg [q1,q2,q3,q4]) (aW R[k] i):=by rw [db (show i<R[k].length by omega)];exact hq
  have eI:(R.map fun r=>aW r i).take (k+1)=(R.map fun r=>aW r i).take k++[aW R[k] i]:=by
   rw [yT (by rw [yk];exact hk),yX]
  have w4:IntKind.wrap .i64 ((k:Int)+1)=((k+1:Nat):Int):=wrap64 (by omega) (by omega);have Fe:(k:Int)<R.length:=by omega
  rcases aJ with ⟨rfl,hp,p,rfl,hM⟩ | ⟨k0,hp,cs,rfl,hQ,hM⟩
  ·obtain ⟨m,hm⟩:∃m,w-i=m+1:=⟨w-i-1,by omega⟩;have QM:w-(i+1)=m:=by omega
   rw [hm] at hM;have g1:=hM.m;rw [hT] at g1;obtain ⟨q5,d0⟩:=atu (m:=m) lr lb;have aJ:=fun (hp:Hp) (ct b:Nat)=>atr (hp:=hp) (ct:=ct) (a:=1) (b:=b) (w:=1) (m:=m) (pu:=p) (x:=true) lr lb
   have m1:=fun (o:Obj) (r:Hp)=>cd (j:=2+i+1) (i:=1) o r (by omega)
   have m0:=fun (o:Obj) (r:Hp)=>cd (j:=2+i) (i:=1) o r (by omega)
   simp only [go_sem,ya,yd,xj,yJ,yp,yh,Gp,Fe,e0,e1,oS,Er,B2,bz,p1,p2,p3,p4,wm,Cf,bA 1 0 hi,yg,g1,d0,AA,fY,m0,m1,aJ,w4];refine ⟨_,d-1,rfl,by omega,1,by omega,.inr ⟨by omega,?_⟩⟩;have sA:ao ((2+i+1,Obj.cells true true false 4 [q1,q2,q3,q4])::(2+i,Obj.cells true true true 4 [q1,q2,q3,q4])::hp) 1=some (.cells true p true 1 (cQ (gL i) (yf i R.length) (m+1))):=by rw [m1,m0];exact g1
   have nQ:QL [q1,q2,q3,q4] ((R.map fun r=>aW r i).take 1):=by
    rw [eI];exact QL.snoc (cs:=[]) trivial hen
   rw [QM]
   exact (ade (i:=i) (b:=2+i+1) (w:=1) (r:=m) (T:=T) (cs:=[q1,q2,q3,q4]) (W:=yf i R.length) (bx:=bx) (x:=true) (y:=false) (sz:=4)
    (by simp only [go_sem,ya,aq pb,aq hr.pu]<;>rfl) lr hT (by omega) (by rw [fM sA,yo (by omega),cd _ _ (by omega),cd _ _ (by omega)];exact hM.b) (by rw [fM sA,yA rfl]) (fun j hj=>by
     rw [fM sA,yo (by omega),cd _ _ (by omega),cd _ _ (by omega)];exact hM.r j (by omega)) (by rw [fM sA,yo (by omega),ej]) (by omega) (fun S s0 s1=>by simp only [go_sem,ya,s0,s1,au _ pb,au _ hr.pu]<;>rfl)).imp (fun ah h=>⟨_,h.1,nQ,h.2⟩)
  ·obtain ⟨m,hm⟩:∃m,w-(i+1)=m:=⟨_,rfl⟩;rw [hm] at hM ⊢;have g1:=hM.m;have lT1:(T++[cs]).length=i+1:=by simp [hT]
   rw [lT1,aoJ] at g1;obtain ⟨q5,d0⟩:=aqY (m:=m) (b:=i+2) (w:=k) lr lb;have aJ:=fun (hp:Hp) (ct b:Nat)=>att (hp:=hp) (ct:=ct) (a:=1) (b:=b) (b0:=i+2) (w:=k+1) (w0:=k) (m:=m) (x:=true) lr lb
   have g2:=hM.r i (by omega);rw [mG (by omega),xA (by omega)] at g2;simp only [hT,ub,xy] at g2;have lq:=hQ.len;rw [yI,yk,xt (by omega)] at lq;simp only [go_sem,ya,yd,xj,yh,Gp,Fe,e0,e1,oS,Er,B2,bz,p1,p2,p3,p4,wm,Cf,bA 1 0 hi,yg,g1,d0,AA]
   rw [fA (ex:=false) (pu:=true) (cs:=cs) (by rw [cd _ _ (by omega)];exact g2) lq (by omega) (by omega) (by decide) (by simp only [go_sem,gq.o1,gq.o2,gq.o3,gq.o4])]
   have m1:=fun (o:Obj) (r:Hp)=>cd (j:=2+(i+1)+1) (i:=1) o r (by omega)
   have m0:=fun (o:Obj) (r:Hp)=>cd (j:=2+(i+1)) (i:=1) o r (by omega)
   have md:∀r:Hp,ao (dJ r (i+2)) 1=ao r 1:=fun r=>by rw [nS,yo (by omega)]
   simp only [go_sem,ya,yh,p1,p2,p3,p4,bA 1 0 hi,yg,m1,m0,md,g1,aJ,w4];refine ⟨_,d-1,rfl,by omega,k+1,by omega,.inr ⟨by omega,?_⟩⟩;have sA:ao ((2+(i+1)+1,Obj.cells true true false 4 (cs++[q1,q2,q3,q4]))::dJ ((2+(i+1),Obj.cells true true true 4 [q1,q2,q3,q4])::hp) (i+2)) 1=some (.cells true false true 1 (cQ (gL i++[i+2]) (yf i R.length++[k]) m)):=by rw [m1,md,m0];exact g1
   have nQ:QL (cs++[q1,q2,q3,q4]) ((R.map fun r=>aW r i).take (k+1)):=by
    rw [eI];exact hQ.snoc hen
   exact (ade (i:=i) (b:=2+(i+1)+1) (w:=k+1) (r:=m) (T:=T) (cs:=cs++[q1,q2,q3,q4]) (W:=yf i R.length) (bx:=bx) (x:=true) (y:=false) (sz:=4)
    (by simp only [go_sem,ya,aq pb,aq hr.pu]<;>rfl) lr hT (by omega) (by rw [fM sA,yo (by omega),cd _ _ (by omega),nS,yo (by omega),cd _ _ (by omega)];exact hM.b) (by rw [fM sA,yA rfl]) (fun j hj=>by
     rw [fM sA,yo (by omega),cd _ _ (by omega),nS,yo (by omega),cd _ _ (by omega),hM.r j (by omega),mG (by omega),mG (by omega),xk]) (by rw [fM sA,yo (by omega),ej]) (by omega) (fun S s0 s1=>by simp only [go_sem,ya,s0,s1,au _ pb,au _ hr.pu]<;>rfl)).imp (fun ah h=>⟨_,h.1,nQ,h.2⟩)
 ·right
  have:k=R.length:=by omega
  subst this;rcases aJ with ⟨mq,_⟩ | ⟨_,hp,cs,rfl,hQ,hM⟩
  ·omega
  ·rw [yC (by rw [yk];exact yq _)] at hQ
   simp only [go_sem,ya,Gp,show ¬(R.length:Int)<R.length by omega];exact ⟨_,_,rfl,by simp,_,_,_,cs,rfl,rfl,by simp only [go_sem,ya],by simp only [go_sem,ya],by simp only [go_sem,ya],by simp only [go_sem,ya],by simp only [go_sem,ya],by simp only [go_sem,ya],hQ,hM⟩
def ayg {rv bv bx:AV} (pb:a7 bv=true) {R:Mx} {w:Nat} (hr:cx cS rv R) (hw:wid w R) (jb:w<=900) (hn:R.length<=900) (h0:0<R.length):
  ∀(d:Nat) (st:St),(∃(i:Nat) (T:List (List AV)),i+d=w/\T.length=i/\cF QL T ((cC R w).take i)/\∃hp p,aG [1,5,9,10,46,47] st=⟨[(1,bv),(5,.ptr 0 0),(9,rv),(10,.ak 1 0 w),(46,aa w),(47,aa i)],hp,2+i,0⟩/\su hp bx p true false 4 (yf i R.length) T (w-i))->
   ∃ex s',D P L (.loop [1,5,9,10,46,47] KD) st=some (ex,s')/\∃tm hp p ct T,s'=⟨tm,hp,ct,0⟩/\ex= .exit 0/\af tm 1=bv/\af tm 5= .ptr 0 0/\af tm 9=rv/\af tm 10= .ak 1 0 w/\T.length=w/\cF QL T (cC R w)/\su hp bx p true false 4 (yf w R.length) T 0:=by
 intro dq sq;generalize bh:aG [1,5,9,10,46,47] sq=s0;revert bh s0 sq dq;apply dj;rintro d st ⟨i,T,hid,hT,hQ,hp,p,rfl,hM⟩;by_cases hi:i<w
 ·left
  have f0:=ayf (P:=P) (L:=L) (bx:=bx) pb hr hw jb hn h0 hi hT R.length;have w4:IntKind.wrap .i64 ((i:Int)+1)=((i+1:Nat):Int):=wrap64 (by omega) (by omega);have iL:(i:Int)<w:=by omega
  have nQ:∀cs,QL cs (R.map fun r=>aW r i)->cF QL (T++[cs]) ((cC R w).take (i+1)):=fun cs fo=>by
   rw [yT (by rw [mY];exact hi)]
   exact hQ.snoc (by simpa [cC] using fo)
  simp only [go_sem,ya,KD,iL,yu,hr.len];generalize hq:D P L (.loop [1,5,9,10,11,46,47,50,51,52] Gp) _=q;obtain ⟨ex,st,rfl,tm,fD,nM,cs,rfl,rfl,t1,t5,t9,t10,t46,t47,fo,fW⟩:=bD hq f0 ⟨0,by omega,.inl ⟨rfl,(hM.comp (by simp only [go_sem,ya,aq pb,aq hr.pu]<;>rfl) (by omega) (fun S s0 s1=>by simp only [go_sem,ya,s0,s1,au _ pb,au _ hr.pu]<;>rfl)).imp (fun ah h=>⟨p,h.1.trans (by rw [hT]<;>rfl),h.2⟩)⟩⟩
  obtain ⟨oM,e3,Ff⟩:=fW.comp (ct:=nM) (live:=[1,5,9,10,46,47]) (tm:=tm) (tm':=[(1,bv),(5,.ptr 0 0),(9,rv),(10,.ak 1 0 w),(46,aa w),(47,aa i)]) (by simp only [go_sem,t1,t5,t9,t10,t46,t47,aq pb,aq hr.pu]<;>rfl) (by simp;omega) (fun S s0 s1=>by simp only [go_sem,t1,t5,t9,t10,t46,t47,s0,s1,au _ pb,au _ hr.pu]<;>rfl)
  simp only [go_sem,ya,e3,w4];refine ⟨_,d-1,rfl,by omega,i+1,T++[cs],by omega,by simp [hT],nQ cs fo,?_⟩;rw [uY];refine (Ff.comp (by simp only [go_sem,ya,aq pb,aq hr.pu]<;>rfl) (by simp;omega) (fun S s0 s1=>by simp only [go_sem,ya,s0,s1,au _ pb,au _ hr.pu]<;>rfl)).imp (fun ah h=>⟨false,h.1.trans (by rw [show (T++[cs]).length=i+1 by simp [hT]]<;>rfl),h.2⟩)
 ·right
  have:i=w:=by omega
  subst this;rw [yC (by rw [mY];exact yq _)] at hQ
  rw [ub] at hM;simp only [go_sem,ya,KD,show ¬(i:Int)<i by omega,yv];exact ⟨_,_,rfl,by simp,_,_,p,_,T,rfl,rfl,by simp only [go_sem,ya],by simp only [go_sem,ya],by simp only [go_sem,ya],by simp only [go_sem,ya],hT,hQ,hM⟩
def abV {l:List (List Nat)} {i:Nat} (h:i<l.length):((l.take (i+1)).map bJ).map aa=((l.take i).map bJ).map aa++[AV.int .i64 (bJ l[i])]:=by
 rw [yT h,xg,xg];rfl
def m85 (hc:Ck P L) (h:Has P L 85 QT) {v:AV} {l:List (List Nat)} (hv:bm v l) (hl:l.length<=1000000) (hs:∀s,s∈l->s.length<=1000000000):
  ∃r,aj P L 85 [v,.fn (.f 86) [] []] r/\bq (shut r) (l.map bJ):=by
 have key:=fk (P:=P) (L:=L) (live:=[1,5,8,9,10]) (a:=D4)
  (I:=fun k st=>∃i:Nat,i+k=l.length/\((i=0/\st=⟨[(1,.fn (.f 86) [] []),(5,.ab),(8,v),(9,aa l.length),(10,aa i)],[],0,0⟩)\/
   (0<i/\st=⟨[(1,.fn (.f 86) [] []),(5,.ak 0 0 i),(8,v),(9,aa l.length),(10,aa i)],[(0,.cells true true false 1 (((l.take i).map bJ).map aa))],1,0⟩)))
  (Q:=fun ex st=>∃tm hp ct,st=⟨tm,hp,ct,0⟩/\ex= .exit 0/\((l.length=0/\af tm 5= .ab)\/(0<l.length/\af tm 5= .ak 0 0 l.length/\ao hp 0=some (.cells true true false 1 ((l.map bJ).map aa))))) ?_
 ·unfold aj;rw [aI h];simp only [go_sem,ya,QT,hv.len];generalize hq:D P L (.loop [1,5,8,9,10] D4) _=q;obtain ⟨ex,st,rfl,tm,hp,ct,rfl,rfl,h2⟩:=bD hq (key l.length) ⟨0,by omega,.inl ⟨rfl,by simp only [go_sem,ya,aw,aq hv.pu,au _ hv.pu]<;>rfl⟩⟩
  rcases h2 with ⟨h2,h3⟩ | ⟨h2,h3,h4⟩
  ·refine ⟨.ab,by simp only [go_sem,aw,h3],?_⟩;rw [yF h2];exact rI
  ·refine ⟨.bV false 1 l.length ((l.map bJ).map aa),?_,?_⟩
   ·simp only [go_sem,yd,aw,h3,h4];exact p9 (ej _ _ _) (by simp) (by decide)
   ·have:=kP false (l.map bJ)
    rwa [yk] at this
 ·rintro k st ⟨i,hk,aJ⟩;by_cases hi:i<l.length
  ·have cB:(i:Int)<l.length:=by omega
   have e1:=X7 hc (hs _ (yE hi));unfold aj at e1;left
   rcases aJ with ⟨h0,rfl⟩ | ⟨h0,rfl⟩
   ·subst h0;simp only [go_sem,ya,yd,xj,yJ,yp,yh,D4,show ((0:Nat):Int)<l.length from cB,hv.bi hi,e1,fY];refine ⟨_,k-1,rfl,by omega,1,by omega,.inr ⟨by omega,?_⟩⟩;rw [wrap64 (by omega) (by omega),abV hi];simp only [go_sem,ya,yd,aw,aq hv.pu,au _ hv.pu]<;>rfl
   ·have hlen:(((l.take i).map bJ).map aa).length=i:=by simp;omega
    simp only [go_sem,ya,yd,yp,yh,D4,cB,hv.bi hi,e1]
    rw [fA (ex:=false) (pu:=true) (cs:=((l.take i).map bJ).map aa) (by simp only [go_sem,ya]) (by rw [hlen,yh]) (by omega) (by omega) (by decide) (by simp only [go_sem])];simp only [go_sem,ya,yd];refine ⟨_,k-1,rfl,by omega,i+1,by omega,.inr ⟨by omega,?_⟩⟩;rw [wrap64 (by omega) (by omega),abV hi];simp only [go_sem,ya,yd,aw,aq hv.pu,au _ hv.pu]<;>rfl
  ·right
   rcases aJ with ⟨h0,rfl⟩ | ⟨h0,rfl⟩
   ·simp only [go_sem,ya,D4,show ¬(i:Int)<l.length by omega];refine ⟨_,_,rfl,by simp,_,_,_,rfl,rfl,.inl ⟨by omega,?_⟩⟩;simp only [go_sem,ya]
   ·simp only [go_sem,ya,D4,show ¬(i:Int)<l.length by omega];refine ⟨_,_,rfl,by simp,_,_,_,rfl,rfl,.inr ⟨by omega,?_,?_⟩⟩
    ·simp only [go_sem,ya];rw [show i=l.length by omega]
    ·simp only [go_sem];rw [yC (by omega)]
def m91 (h:Fr' P L) (Yv:Has P L 91 QW) (oz:Has P L 131 Cj) {u b:AV} {x y:List Rat} {K:Nat} (hu:cS u x) (hb:cS b y) (hl:x.length<=y.length) (hn:x.length<=1000000) (ka:∀q,q∈x->Hq K q) (kb:∀q,q∈y->Hq K q) (cU:2<=K) (hK:2+x.length*(2*K+1)+(2*K+1)<=1000000000) {sp:List AV}:∃r,aj P L 91 [u,.aO (b::sp)] r/\dh r (fI x y x.length):=by
 obtain ⟨r,e,hr⟩:=WK h oz hu hb hl hn ka kb cU hK;have bk:=hr;obtain ⟨r1,r2,r3,r4,rfl,gr⟩:=hr.gen;refine ⟨_,?_,bk⟩;unfold aj at e ⊢;rw [aI Yv];simp only [go_sem,ya,yd,QW,bc,hu.an,hb.an,e,bO,gr.st,eS,eT,yL];exact gr.fm _
def m93 (h:Fr' P L) (Yw:Has P L 93 QY) (oz:Has P L 131 Cj) {u b:AV} {x y:List Rat} {K:Nat} (hu:cS u x) (hb:cS b y) (hl:x.length<=y.length) (hn:x.length<=1000000) (ka:∀q,q∈x->Hq K q) (kb:∀q,q∈y->Hq K q) (cU:2<=K) (hK:2+x.length*(2*K+1)+(2*K+1)<=1000000000) {sp:List AV}:∃r,aj P L 93 [u,.aO (b::sp)] r/\dh r (fI x y x.length):=by
 obtain ⟨r,e,hr⟩:=WK h oz hu hb hl hn ka kb cU hK;have bk:=hr;obtain ⟨r1,r2,r3,r4,rfl,gr⟩:=hr.gen;refine ⟨_,?_,bk⟩;unfold aj at e ⊢;rw [aI Yw];simp only [go_sem,ya,yd,QY,bc,hu.an,hb.an,e,bO,gr.st,eS,eT,yL];exact gr.fm _
end
def jj (R:Mx) (pv:List Nat) (n:Nat):Nat->List Rat
 | 0=>yf n 0
 | i+1=>(jj R pv n i).set (pv.getD i 0) (aW (gR R i) n)
def Oj (R:Mx) (pv:List Nat) (n:Nat):∀i,(jj R pv n i).length=n
 | 0=>vW
 | i+1=>by rw [jj,xD,Oj R pv n i]
def aaK {R:Mx} {pv:List Nat} {n k:Nat} (hk:pv.length<=k) (hR:k<=R.length):∀i,i<=pv.length->jj (R.take k) pv n i=jj R pv n i
 | 0,_=>rfl
 | i+1,hi=>by
  rw [jj,jj,aaK hk hR i (by omega),cm (by rw [yI];omega),cm (by omega),List.getElem_take]
def abW {R:Mx} {pv:List Nat} {n:Nat} (hp:∀i (h:i<pv.length),pv[i]=i) (hl:pv.length=n) (hR:n<=R.length):∀i,i<=n->jj R pv n i=((R.take i).map fun r=>aW r n)++yf (n-i) 0
 | 0,_=>by simp [jj]
 | i+1,hi=>by
  have e:pv.getD i 0=i:=by simp [yM,y9 (show i<pv.length by omega),hp]
  have li:((R.take i).map fun r=>aW r n).length=i:=by rw [yk,yI];omega
  obtain ⟨m,hm⟩:∃m,n-i=m+1:=⟨n-i-1,by omega⟩;rw [jj,abW hp hl hR i (by omega),e,cm (show i<R.length by omega),List.set_append_right _ _ (by omega),li,ub,hm,xP,List.set_cons_zero,yT (show i<R.length by omega),xg,xm];rw [show n-(i+1)=m by omega];rfl
def aqZ {R:Mx} {pv:List Nat} {n:Nat} (hp:∀i (h:i<pv.length),pv[i]=i) (hl:pv.length=n) (hR:n<=R.length):jj R pv n n=(R.take n).map fun r=>aW r n:=by
 rw [abW hp hl hR n (yq n),ub];simp
section
variable {P:aM} {L:Lib}
def awn {rv qv:AV} {R:Mx} {pv:List Nat} {n:Nat} (hr:cx bm rv (R.map (wH RT))) (hq:bq qv (pv.map (fun p:Nat=>(p:Int)))) (hn:n<=1000) (hw:wid (n+1) R) (eJ:pv.length<=R.length) (hl:R.length<=1000) (aU:∀p,p∈pv->p<n+1):
  ∀(d:Nat) (st:St),(∃i:Nat,aG [7,9,10,11,12] st=⟨[(7,aa n),(9,rv),(10,qv),(11,.ak 0 0 n),(12,aa i)],[(0,.cells true true false 1 (cr (jj R pv n i)))],1,0⟩/\i+d=pv.length/\n∉pv.take i)->
   ∃ex s',D P L (.loop [7,9,10,11,12] F7) st=some (ex,s')/\∃tm hp ct,s'=⟨tm,hp,ct,0⟩/\((ex= .ret/\af tm 4= .ab/\af tm 5= .bool false/\n∈pv)\/(ex= .exit 2/\n∉pv/\hp=[(0,.cells true true false 1 (cr (jj R pv n pv.length)))]/\af tm 11= .ak 0 0 n)):=by
 intro dq sq;generalize bh:aG [7,9,10,11,12] sq=s0;revert bh s0 sq dq;apply dj;rintro d st ⟨i,rfl,hid,Ho⟩;have Yx:∀hp:Hp,gg hp 1 qv=some (aa pv.length):=fun hp=>by
  have:=hq.len (hp:=hp);rwa [yk] at this
 by_cases hi:i<pv.length
 ·have RU:i<R.length:=by omega
  have ev:=hq.bi (i:=i) (by rw [yk];exact hi)
  rw [yX] at ev;have iL:(i:Int)<pv.length:=by omega
  by_cases ss:pv[i]=n
  ·right
   have hd:decide ((pv[i]:Int)=(n:Int))=true:=by rw [ss];simp
   simp only [go_sem,ya,F7,Yx,iL,yu,ev,hd];exact ⟨_,_,rfl,by simp,_,_,_,rfl,.inl ⟨rfl,by simp only [go_sem,ya],by simp only [go_sem],by rw [<-ss];exact yE hi⟩⟩
  ·left
   have hd:decide ((pv[i]:Int)=(n:Int))=false:=xb (by omega);have aiZ:pv[i]<n:=by
    have:=aU _ (yE hi);omega
   obtain ⟨r0,rest,fF,e0⟩:=hr.bi (i:=i) (by rw [yk];exact RU)
   rw [yX] at fF;have wr:=hw i RU;rw [cm RU] at wr;have e1:=fF.bi (i:=n) (by rw [yk];omega);rw [yX] at e1;have hkv:jj R pv n (i+1)=(jj R pv n i).set pv[i] (R[i][n]'(by omega)):=by
    rw [jj,show pv.getD i 0=pv[i] by simp [yM,y9 hi],cm RU,db (show n<R[i].length by omega)]
   have aJ:=fun (hp:Hp) (ct id:Nat)=>Pz (hp:=hp) (ct:=ct) (id:=id) (ex:=false) (at_:=pv[i]) (r:= .str (RT (R[i][n]'(by omega)))) (rows:=cr (jj R pv n i)) (by rw [qF,Oj];exact aiZ) rfl rfl
   simp only [O2,<-hkv] at aJ;have w12:IntKind.wrap .i64 ((i:Int)+1)=((i+1:Nat):Int):=wrap64 (by omega) (by omega);simp only [go_sem,ya,yh,F7,Yx,iL,yu,ev,hd,e0,e1,oS,bA _ _ aiZ,yg,aJ];refine ⟨_,d-1,rfl,by omega,i+1,?_,by omega,?_⟩
   ·rw [w12];simp only [go_sem,ya,yd,aw,aq hr.pu,au _ hr.pu,aq hq.pu,au _ hq.pu]<;>rfl
   ·rw [yT hi,xL];simp only [xu,not_or];exact ⟨Ho,fun e=>ss e.symm⟩
 ·right
  have:i=pv.length:=by omega
  subst this;rw [xJ] at Ho;simp only [go_sem,ya,F7,Yx,show ¬(pv.length:Int)<pv.length by omega,yv];exact ⟨_,_,rfl,by simp,_,_,_,rfl,.inr ⟨rfl,Ho,rfl,by simp only [go_sem,ya]⟩⟩
end
structure Na (P:aM) (L:Lib):Prop extends Ck P L where
 MM:Has P L 27 zI
 zM:Has P L 31 CP
 CR:Has P L 33 Hs
 E0:Has P L 61 EK
 RG:Has P L 83 Ml
 RH:Has P L 84 Ht
 h85:Has P L 85 QT
 Yr:Has P L 87 QU
 Da:Has P L 88 Hu
 RQ:Has P L 89 QV
 RS:Has P L 90 Bc
 Yv:Has P L 91 QW
 RP:Has P L 92 QX
 Yw:Has P L 93 QY
 WI:Has P L 122 K1
 WJ:Has P L 123 K2
 G6:Has P L 126 K3
 G7:Has P L 127 K4
 oz:Has P L 131 Cj
 LJ:Has P L 160 GK
 CD:Has P L 161 GL
noncomputable def zu (M:List (List (List Nat))) (l:List (List Nat)) (s:List Nat):Int:=bH [mS M,bH (l.map bJ),nD s 1,if l.length=M.length then 0 else 2]
def A1 (R:Mx) (w:Nat) (b:List Rat):List Rat:=(cC R w).map fun c=>fI c b c.length
def nF (R:Mx) (w:Nat) (b:List Rat) (ld:Rat):List Rat:=if R.length<w then (cC R w).map fun c=>fI c (kK R.length (bQ (fw R ld) b)) c.length else kK w (bQ (fw (cC R w) ld) (A1 R w b))
section
variable {P:aM} {L:Lib}
def ai0 (h:Ck P L) (E0:Has P L 61 EK) (zM:Has P L 31 CP) {s:List Nat} (hl:s.length<=1000000000) (m:Int):aj P L 61 [.str s,aa m] (aa (nD s m)):=by
 have e1:=X7 h hl;unfold aj at e1 ⊢;rw [aI E0];unfold nD;by_cases h0:bJ s=0
 ·obtain ⟨r,e2,hr⟩:=WG h h0;have e3:=ais h.toFr' hr;obtain ⟨s1,w1,s2,w2,rfl,h1,h2⟩:=hr;obtain ⟨l1,u1⟩:=h1.aQ;obtain ⟨l2,u2⟩:=h2.aQ;rw [h0] at e1;rw [yA h0];have e4:=fun b=>Xy zM b 3
  unfold aj at e2 e3 e4;by_cases hm:cJ (aZ s).num<m
  ·rw [yA hm];have e5:=e4 true;simp only [xE] at e5;simp only [go_sem,ya,EK,e1,yu,yR,e2,bO,cy,u1.an,u2.an,e3,hm,e5]
  ·rw [yo hm];have e5:=e4 false;simp only [Bool.false_eq_true,xn] at e5;simp only [go_sem,ya,EK,e1,yu,yR,e2,bO,cy,u1.an,u2.an,e3,hm,yv,e5]
 ·rw [yo h0];simp only [go_sem,ya,EK,e1,h0,yv,yU]
def ayh (h:Na P L) {v bv:AV} {M:List (List (List Nat))} {l:List (List Nat)} {s:List Nat} (hv:cx bm v M) (hb:bm bv l) (hl:M.length<=1000000) (ll:l.length<=1000000) (hr:∀r,r∈M->r.length<=1000000/\∀s,s∈r->s.length<=1000000000) (hs:∀s,s∈l->s.length<=1000000000) (Fg:s.length<=1000000000) (hE:zu M l s≠0):aj P L 27 [v,bv,.str s] (.az [.ab,aa (zu M l s)]):=by
 have e1:=m84 h.toCk h.CD h.G6 h.G7 h.RH hv hl hr;obtain ⟨x2,e2,Nb⟩:=m85 h.toCk h.h85 hb ll hs;have RW:=Rg h.CR Nb (by rw [yk];exact ll)
 have e3:=ai0 h.toCk h.E0 h.zM Fg 1;have e4:=Xy h.zM (!decide ((l.length:Int)=(M.length:Nat))) 2;have q3:(if (!decide ((l.length:Int)=(M.length:Nat)))=true then (2:Int) else 0)=if l.length=M.length then 0 else 2:=by
  simp only [uo,wR];split<;>split<;>omega
 rw [q3] at e4;have e5:=Rg h.CR (kP true [mS M,bH (l.map bJ),nD s 1,if l.length=M.length then 0 else 2]) (by simp);simp only [yy,yO,xd,vN] at e5;unfold zu at hE ⊢;generalize (if l.length=M.length then (0:Int) else 2)=x3 at*
 generalize mS M=x1 at*
 generalize bH (l.map bJ)=y2 at*
 generalize nD s 1=x4 at*
 unfold aj at*;rw [aI h.MM];simp only [go_sem,ya,yd,yJ,yp,yh,zI,bc,hv.len,hv.an,hb.len,hb.an,e1,e2,Nb.an,RW,e3,e4,e5,hE,yv,yU]
def ayi (h:Na P L) {v bv:AV} {M:List (List (List Nat))} {l:List (List Nat)} {s:List Nat} (hv:cx bm v M) (hb:bm bv l) (hl:M.length<=1000000) (ll:l.length<=1000000) (hr:∀r,r∈M->r.length<=1000000/\∀s,s∈r->s.length<=1000000000) (hs:∀s,s∈l->s.length<=1000000000) (Fg:s.length<=1000000000) (hE:zu M l s=0) (hM:mS M=0):
  ∃hp p T x,cx cS x (dP M)/\D P L (mM 5 zI.body) ⟨dN 0 [v,bv,.str s],[],0,0⟩=some (.normal,⟨[(1,bv),(5,.ptr 0 0),(9,x),(10,.ak 1 0 (wd M))],hp,2+wd M,0⟩)/\T.length=wd M/\cF QL T (cC (dP M) (wd M))/\su hp (.str s) p true false 4 (yf (wd M) (dP M).length) T 0:=by
 have e1:=m84 h.toCk h.CD h.G6 h.G7 h.RH hv hl hr;obtain ⟨x2,e2,Nb⟩:=m85 h.toCk h.h85 hb ll hs;have RW:=Rg h.CR Nb (by rw [yk];exact ll)
 have e3:=ai0 h.toCk h.E0 h.zM Fg 1;have e4:=Xy h.zM (!decide ((l.length:Int)=(M.length:Nat))) 2;have q3:(if (!decide ((l.length:Int)=(M.length:Nat)))=true then (2:Int) else 0)=if l.length=M.length then 0 else 2:=by
  simp only [uo,wR];split<;>split<;>omega
 rw [q3] at e4;have e5:=Rg h.CR (kP true [mS M,bH (l.map bJ),nD s 1,if l.length=M.length then 0 else 2]) (by simp);simp only [yy,yO,xd,vN] at e5;unfold zu at hE;rw [hE] at e5;obtain ⟨m0,m64,cI⟩:=Kp hM;have hw:=Jo (M:=M) (fun r bk=>(cI r bk).1);have lM:=Jp M;have aAK:wd M<=64/\0<wd M:=by
  have:=cI _ (yE m0)
  unfold wd;rw [Gw m0];omega
 obtain ⟨x,x1,hx⟩:=m87 h.toCk h.Yr h.Da hv hl (fun r bk=>⟨(hr r bk).1,(cI r bk).2.2.2⟩);have hx:cx cS (shut x) (dP M):=hx;obtain ⟨r0,rest,fF,a0⟩:=hx.bi (i:=0) (by omega);have jq:=hw 0 (by omega);rw [cm (by omega)] at jq;have f0:=ayg (P:=P) (L:=L) (bx:= .str s) hb.pu hx hw (by omega) (by omega) (by omega) (wd M);have cg:∀ct,om ct 1 24 [AV.ab] (some (wd M)) (some (wd M))=some (.ak ct 0 (wd M),.cells true true true 1 (yf (wd M) [AV.ab]).flatten):=fun ct=>sQ (by omega) (by omega) rfl rfl
 have CJ:(yf (wd M) [AV.ab]).flatten=yf (wd M) AV.ab:=by
  rw [tx]
 rw [CJ] at cg;generalize (if l.length=M.length then (0:Int) else 2)=x3 at*
 generalize mS M=y1 at*
 generalize bH (l.map bJ)=y2 at*
 generalize nD s 1=x4 at*
 have h0:¬((M.length:Int)=0):=by omega
 unfold aj at e1 e2 RW e3 e4 e5 x1;simp only [go_sem,ya,yd,yJ,yp,yh,zI,mM,bw,aB,bc,hv.len,hv.an,hb.len,hb.an,e1,e2,Nb.an,RW,e3,e4,e5,yu,yR,h0,yv,x1,a0,fF.len,jq,oS,cg];generalize hq:D P L (.loop [1,5,9,10,46,47] KD) _=q
 obtain ⟨ex,st,rfl,tm,hp,p,ct,T,rfl,rfl,t1,t5,t9,t10,lT,hQ,fW⟩:=bD hq f0 ⟨0,[],by omega,rfl,by simp [cF],(UF (hp:=[(2,Obj.cells true true true 1 (yf (wd M) AV.ab)),(1,Obj.cells false true true 1 [AV.int IntKind.i64 y1,AV.int IntKind.i64 y2,AV.int IntKind.i64 x4,AV.int IntKind.i64 x3]),(0,Obj.cells true true true 1 [AV.str s])]) (a:=2) (b:=0) (bx:= .str s) (p:=true) (x:=true) (y:=false) (sz:=4) (W:=[]) (T:=[]) (r:=wd M) (ids:=[]) (by simp only [go_sem,ya,aq hb.pu,aq hx.pu]<;>rfl) rfl rfl (fun q=>absurd q (by decide)) rfl rfl (fun i hi=>absurd hi (vE i)) (by decide) (by decide) (fun S s0 s1=>by simp only [go_sem,ya,s0,s1,au _ hb.pu,au _ hx.pu]<;>rfl)).imp (fun ah h=>⟨true,h.1.trans (by rfl),h.2⟩)⟩
 obtain ⟨oM,e6,Ff⟩:=fW.comp (ct:=ct) (live:=[1,5,9,10]) (tm:=tm) (tm':=[(1,bv),(5,.ptr 0 0),(9,shut x),(10,.ak 1 0 (wd M))]) (by simp only [go_sem,t1,t5,t9,t10,aq hb.pu,aq hx.pu]<;>rfl) (by omega) (fun S s0 s1=>by simp only [go_sem,t1,t5,t9,t10,s0,s1,au _ hb.pu,au _ hx.pu]<;>rfl)
 rw [lT] at e6;simp only [go_sem,e6];exact ⟨_,p,T,shut x,hx,rfl,lT,hQ,Ff⟩
end
def aaL {sz:Nat} {y:Bool} (hs:0<sz):∀(ids W:List Nat) (T:List (List AV)) (hp:Hp) (n:Nat),ids.length+4<=n->ids.length=T.length->W.length=T.length->(∀i (h1:i<ids.length) (h2:i<T.length) (h3:i<W.length),T[i].length=W[i]*sz/\∃rw,ao hp ids[i]=some (.cells rw true y sz T[i]))->
  ∃ah,cD n hp (eR ids W)=some (xW (fun w r=> .aE y w r) W T,ah)/\(∀j,j∉ids->ao ah j=ao hp j)/\∀j rw y' z cs,ao hp j=some (.cells rw true y' z cs)->∃bS,ao ah j=some (.cells bS true y' z cs)
 | [],[],[],hp,n+1,_,_,_,_=>⟨hp,rfl,fun _ _=>rfl,fun _ rw _ _ _ h=>⟨rw,h⟩⟩
 | [],_,[],hp,0,h,_,_,_=>by simp at h
 | [],_,_::_,_,_,_,h,_,_=>by simp at h
 | [],_::_,[],_,_,_,_,h,_=>by simp at h
 | _::_,_,[],_,_,_,h,_,_=>by simp at h
 | _::_,[],_::_,_,_,_,_,h,_=>by simp at h
 | i::ids,w::W,r::T,hp,n+1,hn,hl,hW,h=>by
  obtain ⟨l0,bS,g0⟩:=h 0 (by simp) (by simp) (by simp);simp only [xy] at l0 g0;simp only [yy] at hn hl hW;obtain ⟨m,rfl⟩:∃m,n=m+1+1:=⟨n-2,by omega⟩;have hz:nT (m+1) hp i=some (y,sz,r,if bS=true then aT hp i (.cells false true y sz r) else hp):=by
   rw [JE,g0];cases bS<;>rfl
  have KR:∃a6,(if bS=true then aT hp i (.cells false true y sz r) else hp)=a6/\∀j,ao a6 j=if j=i then some (.cells false true y sz r) else ao hp j:=by
   refine ⟨_,rfl,fun j=>?_⟩
   cases bS with
   | true=>simp only [xE];rw [fM g0]
   | false=>
    grind
  obtain ⟨a6,e1,g1⟩:=KR;rw [e1] at hz;obtain ⟨ah,e2,g2,g3⟩:=aaL hs ids W T a6 (m+1+1) (by omega) (by omega) (by omega) (fun k h1 h2 h3=>by
   obtain ⟨a,E6,b⟩:=h (k+1) (by simpa using h1) (by simpa using h2) (by simpa using h3);simp only [List.getElem_cons_succ] at a b;refine ⟨a,?_⟩;rw [g1]
   split
   ·rename_i e;rw [e,g0] at b;simp only [ye,Obj.cells.injEq] at b;exact ⟨_,by rw [b.2.2.2.2]⟩
   ·exact ⟨E6,b⟩)
  refine ⟨ah,?_,fun j hj=>?_,fun j E6 y' z cs hj=>?_⟩
  ·have e:eR (i::ids) (w::W)= .ak i 0 w::eR ids W:=rfl;rw [e,NS,JD,hz,lP y l0 hs,OV,e2,OW];rfl
  ·grind
  ·grind
def Vg {hp:Hp} {rw0 x y:Bool} {sz:Nat} {W:List Nat} {T:List (List AV)} (hm:ao hp 1=some (.cells rw0 false x 1 (cQ (gL T.length) W 0))) (hW:W.length=T.length) (hr:∀i,i<T.length->∃rw,ao hp (i+2)=some (.cells rw true y sz (gT T i))) (hs:0<sz) (hw:∀i (h1:i<T.length) (h2:i<W.length),T[i].length=W[i]*sz) {n:Nat} (hn:T.length+4<=n):
  ∃ah,VE.zh n 1 hp (some (.cells rw0 false x 1 (cQ (gL T.length) W 0)))=some (x,1,xW (fun w r=> .aE y w r) W T,ah)/\ao ah 1=some (.cells false false x 1 (cQ (gL T.length) W 0))/\(∀i,i<T.length->∃rw,ao ah (i+2)=some (.cells rw true y sz (gT T i)))/\∀j,(j=0\/T.length+2<=j)->ao ah j=ao hp j:=by
 have e0:cQ (gL T.length) W 0=eR (gL T.length) W:=by unfold cQ;simp
 rw [e0] at hm ⊢;obtain ⟨a6,e1,g1,g2⟩:=aaL hs (gL T.length) W T hp n (by rw [rL];exact hn) (rL _) hW (fun i h1 h2 h3=>by
  obtain ⟨bS,g⟩:=hr i h2;refine ⟨hw i h2 h3,bS,?_⟩;rw [Tv]
  rwa [mG h2] at g)
 have rm:ao a6 1=some (.cells rw0 false x 1 (eR (gL T.length) W)):=by
  rw [g1 1 (fun hq=>by have:=Dq.1 hq;omega)];exact hm
 refine ⟨_,aeP e1,by rw [fM rm,yA rfl],fun i hi=>?_,fun j hj=>?_⟩
 ·obtain ⟨bS,g⟩:=hr i hi;rw [fM rm,yo (by omega)]
  grind
 ·rw [fM rm,yo (by omega),g1 j (fun hq=>by have:=Dq.1 hq;omega)]
def An (R:Mx) (ld:Rat):wid R.length (fw R ld):=fun i hi=>by
 rw [j0] at hi;rw [cm (by rw [j0];exact hi)]
 simp [fw,DB]
def PC {R:Mx} {ld:Rat} {w K:Nat} (hw:wid w R) (kR:b9 K R) (kl:Hq K ld) (cU:2<=K):b9 (2+w*(2*K+1)+K+1) (fw R ld):=fun i hi x hx=>by
 rw [j0] at hi;rw [cm (by rw [j0];exact hi)] at hx
 simp only [fw,yX,List.getElem_range,p7] at hx;obtain ⟨k,hk,rfl⟩:=wA.1 hx;exact ax6 hw hi (yax.1 hk) kR kl cU
def abX (R:Mx) (w:Nat) (b:List Rat):(A1 R w b).length=w:=by unfold A1;rw [yk,mY]
def bm.ai1 {v:AV} {l:List (List Nat)} (h:bm v l) (hp:Hp) (k:IntKind) (e:Int):result hp (.az [v,.int k e])=some (.az [v,.int k e]):=by
 rcases h with ⟨rfl,_⟩ | ⟨x,rfl⟩<;>rfl
def Vh {n K:Nat} {G:Mx} (hw:wid (n+1) G) (hl:G.length=n) (hm:b9 K G) (hK:1<=K):∀x,x∈kK n G->Hq (2*(4^n*(K+1))) x:=fun x hx=>by
 obtain ⟨J,j1,j2,j3⟩:=Qx hw hl hm hK n (yq n);obtain ⟨k,hk,rfl⟩:=wA.1 hx;have hk:=yax.1 hk;have lg:(gj n G n).length=n:=by rw [sU,hl]
 have wk:=Gh (n:=n) hw (by omega) n k (by omega);have hE:∀c,c<n+1->Hq J (E (gj n G n) k c):=fun c hc=>by
  unfold E;rw [db (by omega)];exact j3 k (by omega) _ (yE _)
 exact ((hE n (by omega)).mul (hE k (by omega)).inv).mono (by omega)
section
variable {P:aM} {L:Lib}
def ayj (h:Na P L) {v bv:AV} {M:List (List (List Nat))} {l:List (List Nat)} {s:List Nat} (hv:cx bm v M) (hb:bm bv l) (hl:M.length<=1000000) (ll:l.length<=1000000) (hr:∀r,r∈M->r.length<=1000000/\∀s,s∈r->s.length<=1000000000) (hs:∀s,s∈l->s.length<=1000000000) (Fg:s.length<=1000000000) (hE:zu M l s=0) (hM:mS M=0) (IR:l.length=M.length) (h4:M.length<=10) (w4:wd M<=10) (h6:M.length<wd M->M.length<=6) (w6:¬M.length<wd M->wd M<=6) (hc:∀s,s∈l->bJ s=0) (fo:bJ s=0) {K:Nat} (kR:b9 K (dP M)) (kb:∀x,x∈l.map aZ->Hq K x) (kl:Hq K (aZ s)) (cU:2<=K) (hK:K<=400)
  (gW:kL M.length (bQ (fw (dP M) (aZ s)) (l.map aZ))) (gE:kL (wd M) (bQ (fw (cC (dP M) (wd M)) (aZ s)) (A1 (dP M) (wd M) (l.map aZ)))):
  ∃q,cS q (nF (dP M) (wd M) (l.map aZ) (aZ s))/\∀a t e,bm a t->aj P L 83 [q] (.az [a,aa e])->aj P L 27 [v,bv,.str s] (.az [a,aa e]):=by
 obtain ⟨hp,p,T,x,hx,hS,lT,hQ,fW⟩:=ayi h hv hb hl ll hr hs Fg hE hM;obtain ⟨m0,m64,cI⟩:=Kp hM;have hw:=Jo (M:=M) (fun r bk=>(cI r bk).1);have lM:=Jp M;have aAK:wd M<=64/\0<wd M:=by
  have:=cI _ (yE m0)
  unfold wd;rw [Gw m0];omega
 have hD:D P L zI.body ⟨dN 0 [v,bv,.str s],[],0,0⟩=D P L (qM 5 zI.body) ⟨[(1,bv),(5,.ptr 0 0),(9,x),(10,.ak 1 0 (wd M))],hp,2+wd M,0⟩:=by
  rw [JH 5 (c:=zI.body) (by refine ⟨rfl,rfl,rfl,rfl,rfl,?_⟩;show _=_;rfl),hS,fN]
 obtain ⟨b2,eb,rq⟩:=m88 h.toCk h.Da hb ll hc;have hp0:p=false:=fW.q (by omega);subst hp0;rw [<-lM] at gW;generalize dP M=R at*
 generalize wd M=w at*
 have nR:=OO R w;have p8:=mY R w;have lb:(l.map aZ).length=R.length:=by rw [yk];omega
 have Yy:cx cS (.aE true w (xW (fun w r=>AV.aE false w r) (yf w R.length) T)) (cC R w):=by
  have:=BM true (ZM (k:=R.length) false hQ (fun r bk=>mX nR bk))
  rwa [p8,lT] at this
 have kT:b9 K (cC R w):=fun i hi y hy=>by
  rw [p8] at hi;rw [ON hi] at hy;obtain ⟨r,bk,rfl⟩:=wA.1 hy;obtain ⟨k,hk,rfl⟩:=xG.1 bk
  have:=hw k hk
  rw [cm hk] at this;rw [db (by omega)]
  have:=kR k hk
  rw [cm hk] at this;exact this _ (yE _)
 have g0:=fW.b;have g1:=fW.m;have Ci:∀hp:Hp,kw 0 w (some (true,1,xW (fun w r=>AV.aE false w r) (yf w R.length) T,hp))=some (.aE true w (xW (fun w r=>AV.aE false w r) (yf w R.length) T),hp):=fun hp=>lP true (by rw [SO (by simp [lT]),lT,yh]) (by decide)
 have fa:∀i (h1:i<T.length) (h2:i<(yf w R.length).length),T[i].length=(yf w R.length)[i]*4:=fun i h1 h2=>by
  rw [ac8 hQ (fun r bk=>mX nR bk) _ (yE h1),uM]
 unfold aj at eb;have ahk:R.length*(2*K+1)<=10*(2*400+1):=xU (by omega) (by omega);have ayk:w*(2*K+1)<=10*(2*400+1):=xU (by omega) (by omega);have m1:=fun (o:Obj) (r:Hp)=>cd (j:=2+w) (i:=1) o r (by omega)
 have m0':=fun (o:Obj) (r:Hp)=>cd (j:=2+w) (i:=0) o r (by omega)
 by_cases hnw:R.length<w
 ·have WM:(R.length:Int)<w:=by omega
  obtain ⟨z1,Nc,jE⟩:=m89 h.toCk h.RQ h.oz hx hw (by omega) (by omega) (by omega) fo kR kl cU (by omega) (sp:=[]);have zU:=An R (aZ s);have zV:=j0 R (aZ s);have zk:4^R.length<=4^6:=xh (by decide) (by omega);have PD:=yS (2+w*(2*K+1)+K+1+1) zk;have hkW:=KT (PC hw kR kl cU) (fun x sr=>(kb x sr).mono (show K<=2+w*(2*K+1)+K+1 by omega)) (show (l.map aZ).length=(fw R (aZ s)).length by omega);obtain ⟨z2,Bu,fU⟩:=m90 h.toFr' h.RS jE rq zU zV lb (by omega) (by omega) gW hkW (by omega) (by omega);have ly:=Am R.length (bQ (fw R (aZ s)) (l.map aZ));have kY:=Vh (DA zU (show (l.map aZ).length=(fw R (aZ s)).length by omega)) (by rw [nY (by omega)];exact zV) hkW (by omega)
  have htq:nF R w (l.map aZ) (aZ s)=(cC R w).map fun c=>fI c (kK R.length (bQ (fw R (aZ s)) (l.map aZ))) c.length:=yA hnw
  generalize kK R.length (bQ (fw R (aZ s)) (l.map aZ))=y at*
  obtain ⟨z3,Nf,Ng⟩:=m92 h.RP Yy (by rw [p8];omega) (g:=91) (c:= .aO [shut z2]) rfl (fun n hp=>rfl) (f:=fun c=>fI c y c.length) (fun u r bk hu=>by
   have mP:=mX nR bk
   exact m91 h.toFr' h.Yv h.oz (K:=70000000) hu fU (by omega) (by omega) (fun q hq=>(rN kT bk q hq).mono (by omega)) (fun q hq=>(kY q hq).mono (by omega)) (by omega) (by
    have:r.length*(2*70000000+1)<=6*(2*70000000+1):=xU (by omega) (by omega)
    omega))
  refine ⟨shut z3,by rw [htq];exact Ng,fun a t e ha Nh=>?_⟩
  have s0:=fun (o u:Obj) (r:Hp)=>SH (j:=2+w) (i:=0) o u r (by omega)
  have n1:=fun (o:Obj) (r:Hp)=>cd (j:=2+w+1) (i:=1) o r (by omega)
  have w1:ao ((2+w+1,Obj.cells true true true 1 [shut z2])::(2+w,Obj.cells true true true 1 [shut b2])::aT hp 0 (.cells false true true 1 [.str s])) 1=some (.cells true false true 1 (cQ (gL T.length) (yf w R.length) 0)):=by rw [n1,m1,fM g0,yo (by omega)];exact g1
  obtain ⟨H2,v1,v2,v3,v4⟩:=Vg (n:=997) (T:=T) (sz:=4) (y:=false) w1 (by rw [vW,lT]) (fun i hi=>⟨true,by rw [cd _ _ (by omega),cd _ _ (by omega),fM g0,yo (by omega)];exact fW.r i hi⟩) (by decide) fa (by omega)
  have u2:ao H2 (2+w+1)=some (.cells true true true 1 [shut z2]):=by rw [v4 _ (.inr (by omega)),ej]
  have sA:ao (aT hp 0 (.cells false true true 1 [.str s])) 1=some (.cells true false true 1 (cQ (gL T.length) (yf w R.length) 0)):=by rw [fM g0,yo (by omega)];exact g1
  unfold aj at Nc Bu Nf Nh ⊢;rw [aI h.MM,hD];simp only [go_sem,ya,yd,zI,qM,aB,bc,hb.an,eb,rq.pu,rq.an,rq.one,rq.cells,hx.len,hx.an,WM,yu,g0,m1,m0',n1,s0,Nc,Bu,jE.an,fU.pu,fU.one,fU.cells,sA,v1,Ci,u2,Nf,Ng.an,Nh,ha.bZ];exact ha.ai1 _ _ _
 ·have WM:¬(R.length:Int)<w:=by omega
  obtain ⟨z1,Nc,jE⟩:=m89 h.toCk h.RQ h.oz Yy nR (by omega) (by rw [p8];omega) (by rw [p8];omega) fo kT kl cU (by omega) (sp:=[]);obtain ⟨z2,Bu,fU⟩:=m92 h.RP Yy (by rw [p8];omega) (g:=93) (c:= .aO [shut b2]) rfl (fun n hp=>rfl) (f:=fun c=>fI c (l.map aZ) c.length) (fun u r bk hu=>by
   have mP:=mX nR bk
   exact m93 h.toFr' h.Yw h.oz hu rq (by omega) (by omega) (rN kT bk) kb cU (by
    have:r.length*(2*K+1)<=10*(2*400+1):=xU (by omega) (by omega)
    omega))
  have ltb:=abX R w (l.map aZ);have aAL:cS (shut z2) (A1 R w (l.map aZ)):=fU;have kB:∀q,q∈A1 R w (l.map aZ)->Hq (2+R.length*(2*K+1)+K+1) q:=fun q hq=>by
   obtain ⟨c,fV,rfl⟩:=wA.1 hq;have h1:=Aw (rN kT fV) kb cU cU c.length;rw [mX nR fV,show K+K+1=2*K+1 by omega] at h1;rw [mX nR fV];exact h1.mono (by omega)
  have zU:=An (cC R w) (aZ s);have zV:=j0 (cC R w) (aZ s);rw [p8] at zU zV;have zk:4^w<=4^6:=xh (by decide) (by omega);have PD:=yS (2+R.length*(2*K+1)+K+1+1) zk;obtain ⟨z3,Nf,Ng⟩:=m90 h.toFr' h.RS jE aAL zU zV ltb (by omega) (by omega) gE (KT (PC nR kT kl cU) kB (by omega)) (by omega) (by omega);refine ⟨shut z3,by unfold nF;rw [yo hnw];exact Ng,fun a t e ha Nh=>?_⟩
  obtain ⟨H1,x1,x2,x3,x4⟩:=Vg (hp:=(2+w,Obj.cells true true true 1 [shut b2])::hp) (n:=997) (W:=yf w R.length) (T:=T) (sz:=4) (x:=true) (y:=false) (rw0:=true) (by rw [m1];exact g1) (by rw [vW,lT]) (fun i hi=>⟨true,by rw [cd _ _ (by omega)];exact fW.r i hi⟩) (by decide) fa (by omega)
  have y0:ao H1 0=some (.cells true true true 1 [.str s]):=by rw [x4 0 (.inl rfl),m0'];exact g0
  have y2:ao H1 (2+w)=some (.cells true true true 1 [shut b2]):=by rw [x4 _ (.inr (by omega)),ej]
  have w1:ao (aT H1 0 (.cells false true true 1 [.str s])) 1=some (.cells false false true 1 (cQ (gL T.length) (yf w R.length) 0)):=by rw [fM y0,yo (by omega)];exact x2
  obtain ⟨H2,v1,v2,v3,v4⟩:=Vg (n:=997) (T:=T) (sz:=4) (y:=false) w1 (by rw [vW,lT]) (fun i hi=>by rw [fM y0,yo (by omega)];exact x3 i hi) (by decide) fa (by omega)
  have u2:ao H2 (2+w)=some (.cells true true true 1 [shut b2]):=by rw [v4 _ (.inr (by omega)),fM y0,yo (by omega)];exact y2
  unfold aj at Nc Bu Nf Nh ⊢;rw [aI h.MM,hD];simp only [go_sem,ya,yd,zI,qM,aB,bc,hb.an,eb,rq.pu,rq.one,rq.cells,hx.len,WM,yv,m1,g1,x1,Ci,y0,Nc,w1,v1,u2,Bu,Nf,jE.an,fU.an,Ng.an,Nh,ha.bZ];exact ha.ai1 _ _ _
end
def ayl {R:Mx} {w K:Nat} (hw:wid w R) (kR:b9 K R):b9 K (cC R w):=fun i hi y hy=>by
 rw [mY] at hi;rw [ON hi] at hy;obtain ⟨r,bk,rfl⟩:=wA.1 hy;obtain ⟨k,hk,rfl⟩:=xG.1 bk
 have:=hw k hk
 rw [cm hk] at this;rw [db (by omega)]
 have:=kR k hk
 rw [cm hk] at this
 grind
def aeU {R:Mx} {w K:Nat} {b:List Rat} {ld:Rat} (hw:wid w R) (hn:R.length<=10) (hw4:w<=10) (h6:R.length<w->R.length<=6) (w6:¬R.length<w->w<=6) (lb:b.length=R.length) (kR:b9 K R) (kb:∀x,x∈b->Hq K x) (kl:Hq K ld) (cU:2<=K) (hK:K<=400):∀x,x∈nF R w b ld->Hq 500000000 x:=fun x hx=>by
 have ahk:R.length*(2*K+1)<=10*(2*400+1):=xU (by omega) (by omega);have ayk:w*(2*K+1)<=10*(2*400+1):=xU (by omega) (by omega);have nR:=OO R w;have p8:=mY R w;have kT:=ayl hw kR;unfold nF at hx
 split at hx
 ·have zU:=An R ld;have zV:=j0 R ld;have zk:4^R.length<=4^6:=xh (by decide) (by omega);have PD:=yS (2+w*(2*K+1)+K+1+1) zk;have kY:=Vh (DA zU (show b.length=(fw R ld).length by omega)) (by rw [nY (by omega)];exact zV) (KT (PC hw kR kl cU) (fun x sr=>(kb x sr).mono (show K<=2+w*(2*K+1)+K+1 by omega)) (by omega)) (by omega)
  obtain ⟨c,hc,rfl⟩:=wA.1 hx;have h1:=Aw (K:=K) (J:=70000000) (rN kT hc) (fun q hq=>(kY q hq).mono (by omega)) cU (by omega) c.length
  have:=mX nR hc
  have hm:c.length*(K+70000000+1)<=6*(400+70000000+1):=xU (by omega) (by omega);exact h1.mono (by omega)
 ·have zU:=An (cC R w) ld;have zV:=j0 (cC R w) ld;rw [p8] at zU zV;have ltb:=abX R w b;have kB:∀q,q∈A1 R w b->Hq (2+R.length*(2*K+1)+K+1) q:=fun q hq=>by
   obtain ⟨c,fV,rfl⟩:=wA.1 hq;have h1:=Aw (rN kT fV) kb cU cU c.length;rw [mX nR fV,show K+K+1=2*K+1 by omega] at h1;rw [mX nR fV];exact h1.mono (by omega)
  have zk:4^w<=4^6:=xh (by decide) (by omega);have PD:=yS (2+R.length*(2*K+1)+K+1+1) zk;exact (Vh (DA zU (by omega)) (by rw [nY (by omega)];exact zV) (KT (PC nR kT kl cU) kB (by omega)) (by omega) x hx).mono (by omega)
section
variable {P:aM} {L:Lib}
def m27 (h:Na P L) {v bv:AV} {M:List (List (List Nat))} {l:List (List Nat)} {s:List Nat} (hv:cx bm v M) (hb:bm bv l) (hl:M.length<=1000000) (ll:l.length<=1000000) (hr:∀r,r∈M->r.length<=1000000/\∀s,s∈r->s.length<=1000000000) (hs:∀s,s∈l->s.length<=1000000000) (Fg:s.length<=1000000000) (hE:zu M l s=0) (hM:mS M=0) (IR:l.length=M.length) (h4:M.length<=10) (w4:wd M<=10) (h6:M.length<wd M->M.length<=6) (w6:¬M.length<wd M->wd M<=6) (hc:∀s,s∈l->bJ s=0) (fo:bJ s=0) {K:Nat} (kR:b9 K (dP M)) (kb:∀x,x∈l.map aZ->Hq K x) (kl:Hq K (aZ s)) (cU:2<=K) (hK:K<=400)
  (gW:kL M.length (bQ (fw (dP M) (aZ s)) (l.map aZ))) (gE:kL (wd M) (bQ (fw (cC (dP M) (wd M)) (aZ s)) (A1 (dP M) (wd M) (l.map aZ)))):
  ((nF (dP M) (wd M) (l.map aZ) (aZ s)).any LG=true->aj P L 27 [v,bv,.str s] (.az [.ab,aa 4]))/\
  ((nF (dP M) (wd M) (l.map aZ) (aZ s)).any LG=false->∃r,bm r ((nF (dP M) (wd M) (l.map aZ) (aZ s)).map RT)/\aj P L 27 [v,bv,.str s] (.az [r,aa 0])):=by
 obtain ⟨q,hq,hf⟩:=ayj h hv hb hl ll hr hs Fg hE hM IR h4 w4 h6 w6 hc fo kR kb kl cU hK gW gE;obtain ⟨m0,m64,cI⟩:=Kp hM;have hw:=Jo (M:=M) (fun r bk=>(cI r bk).1);have lM:=Jp M;have kQ:=aeU hw (by omega) w4 (by rw [lM];exact h6) (by rw [lM];exact w6) (by rw [yk];omega) kR kb kl cU hK
 have lq:(nF (dP M) (wd M) (l.map aZ) (aZ s)).length<=1000000:=by
  unfold nF
  split
  ·rw [yk,mY];omega
  ·rw [Am];omega
 obtain ⟨a1,a2⟩:=m83 h.RG h.WI h.WJ h.LJ h.toTx hq lq kQ (by omega);refine ⟨fun ha=>hf _ [] _ (.inl ⟨rfl,rfl⟩) (a1 ha),fun ha=>?_⟩
 grind
end
def atv {hp:Hp} {ct sz bX id n m:Nat} {bS pu:Bool} {cs new:List AV} (hg:ao hp id=some (.cells bS pu true sz cs)) (hl:cs.length=n*sz) (hm:0<m) (h1:n+m<=1099511627776) (h2:(n+m)*bX<=1099511627776) (hs:0<sz):
  n8 hp ct sz bX (.ak id 0 n) (some (m,new))=some (.ak ct 0 (n+m),.cells true (pu&&aH new) false sz (cs++new)):=by
 have e2:Nat.blt 0 sz=true:=yx hs;have e3:Nat.blt 0 m=true:=yx hm;simp only [n8,hg];simp [e2,e3,yx (show n+m<=room from h1),yx (show (n+m)*bX<=room from h2),<-hl,slice]
def awo (a b:List Rat):cr (a++b)=cr a++cr b:=xg
def awp (r:List Rat):cw (cr r)=true/\aH (cr r)=true:=by
 unfold cr
 induction r with
 | nil=>exact ⟨rfl,rfl⟩
 | cons x l ih=>exact ⟨by simp [cw,ih.1,TH],by simp [aH,ih.2,Uq]⟩
def aym {r:AV} {l:List Rat} (h:bm r (l.map RT)) (h0:0<l.length) (hp:Hp):iP hp 1 r=some (l.length,cr l):=by
 rcases h with ⟨_,h2⟩ | ⟨e,h2⟩
 ·have:=congrArg List.length h2
  rw [yk,yk,yO] at this;omega
 ·have lc:((l.map RT).map AV.str).length=l.length:=by simp
  have e2:(l.map RT).map AV.str=cr l:=by simp [cr]
  rw [h2,lc];rw [e2] at lc ⊢;rw [Zx];simp only [iN,yh,lc,ve,yD]
section
variable {P:aM} {L:Lib}
def awq {v bv:AV} {R:Mx} {b:List Rat} {w:Nat} (hv:cx bm v (R.map (wH RT))) (hb:bm bv (b.map RT)) (hw:wid w R) (jq:0<w) (jb:w<=1000) (lb:b.length=R.length) (hn:R.length<=1000) (h0:0<R.length):
  ∀(d:Nat) (st:St),(∃i:Nat,i+d=R.length/\((i=0/\aG [0,1,6,7,8] st=⟨[(0,v),(1,bv),(6,.ab),(7,aa w),(8,aa i)],[],0,0⟩)\/(0<i/\∃hp,aG [0,1,6,7,8] st=⟨[(0,v),(1,bv),(6,.ak 0 0 i),(7,aa w),(8,aa i)],hp,1+i,0⟩/\fj hp false false 1 (yf i (w+1)) (((bQ R b).take i).map cr) 0)))->
   ∃ex s',D P L (.loop [0,1,6,7,8] F6) st=some (ex,s')/\∃tm hp ct,s'=⟨tm,hp,ct,0⟩/\ex= .exit 0/\af tm 6= .ak 0 0 R.length/\af tm 7=aa w/\fj hp false false 1 (yf R.length (w+1)) ((bQ R b).map cr) 0:=by
 intro dq sq;generalize bh:aG [0,1,6,7,8] sq=s0;revert bh s0 sq dq;apply dj;rintro d st ⟨i,hid,aJ⟩;have lW:=nY (R:=R) lb;have lv:∀hp:Hp,gg hp 1 v=some (aa R.length):=fun hp=>by
  have:=hv.len (hp:=hp);rwa [yk] at this
 by_cases hi:i<R.length
 ·left
  obtain ⟨r,rest,mc,e0⟩:=hv.bi (i:=i) (by rw [yk];exact hi)
  rw [yX] at mc;have wr:=hw i hi;rw [cm hi] at wr;have lk:=aym mc (by omega);rw [wr] at lk;have e1:=hb.bi (i:=i) (by rw [yk];omega);rw [yX] at e1;have w8:IntKind.wrap .i64 ((i:Int)+1)=((i+1:Nat):Int):=wrap64 (by omega) (by omega);have iL:(i:Int)<R.length:=by omega
  have RM:(cr R[i]).length=w:=by rw [qF,wr]
  have oC:=awp R[i];have Ba:∀(hp:Hp) (ct id:Nat),ao hp id=some (.cells true true true 1 [])->n8 hp ct 1 16 (.ak id 0 0) (some (w,cr R[i]))=some (.ak ct 0 (0+w),.cells true true false 1 ([]++cr R[i])):=fun hp ct id hg=>by
   rw [atv hg rfl (by omega) (by omega) (by omega) (by decide),oC.2];rfl
  have ahl:cr R[i]++[AV.str (RT (b[i]'(by omega)))]=cr (bQ R b)[i]:=by rw [JM hi (by omega),awo];rfl
  have hT:((bQ R b).take (i+1)).map cr=((bQ R b).take i).map cr++[cr (bQ R b)[i]]:=by
   rw [yT (by omega),xg];rfl
  rcases aJ with ⟨mq,rfl⟩ | ⟨mq,hp,rfl,hM⟩
  ·subst mq;simp only [go_sem,ya,yd,yp,yh,F6,lv,iL,e0,e1,aeN,aeO,Dv,lk,Ba,yg,xp]
   rw [fA (sz:=1) (ex:=false) (pu:=true) (cs:=cr R[0]) (by simp only [go_sem,ya]) (by rw [RM,yh]) (by omega) (by omega) (by decide) (by simp only [go_sem])];simp only [go_sem,ya,yd,xj,yJ,yp,yh,fY,w8];refine ⟨_,d-1,rfl,by omega,1,by omega,.inr ⟨by omega,?_⟩⟩;rw [hT,ahl.symm];refine ⟨[(1,.cells true true false 1 (cr R[0]++[.str (RT (b[0]'(by omega)))])),(0,.cells true false false 1 [.ak 1 0 (w+1)])],by simp only [go_sem,ya,yd,aw,aq hv.pu,au _ hv.pu,aq hb.pu,au _ hb.pu]<;>rfl,⟨rfl,rfl,fun k hk=>?_⟩⟩
   have:k=0:=by simp at hk;omega
   subst this;rfl
  ·have lT:(((bQ R b).take i).map cr).length=i:=by rw [yk,yI];omega
   have g0:=hM.m;rw [lT] at g0;simp only [go_sem,ya,yp,yh,F6,lv,iL,e0,e1,aeN,aeO,Dv,lk,Ba,yg,xp]
   rw [fA (sz:=1) (ex:=false) (pu:=true) (cs:=cr R[i]) (by rw [cd _ _ (by omega),ej]) (by rw [RM,yh]) (by omega) (by omega) (by decide) (by simp only [go_sem])];simp only [go_sem,ya,yd,yp,yh]
   rw [fA (sz:=1) (ex:=false) (pu:=false) (cs:=cQ (dT i) (yf i (w+1)) 0) (by rw [cd _ _ (by omega),cd _ _ (by omega),nS,yo (by omega),cd _ _ (by omega),cd _ _ (by omega),cd _ _ (by omega)];exact g0) (by simp [cQ,eR,jM]) (by omega) (by omega) (by decide) (by simp only [go_sem])]
   simp only [go_sem,ya,w8];refine ⟨_,d-1,rfl,by omega,i+1,by omega,.inr ⟨by omega,?_⟩⟩;rw [hT,uY,<-ahl]
   refine atg (x:=false) (r:=0) hM lT (a:=1+i+1+1+1+1+1) (b:=1+i+1+1+1) (by simp only [go_sem,ya,aq hv.pu,aq hb.pu]<;>rfl) (by omega) (by omega) (by omega) (by rw [ej];simp [cQ]) (fun j hj=>?_) ?_ (by omega) (fun S q=>by simp only [go_sem,ya,q,au _ hv.pu,au _ hb.pu]<;>rfl)
   ·rw [cd _ _ (by omega),cd _ _ (by omega),cd _ _ (by omega),nS,yo (by omega),nS,yo (by omega),cd _ _ (by omega),cd _ _ (by omega),cd _ _ (by omega)]
   ·rw [cd _ _ (by omega),cd _ _ (by omega),ej]
 ·right
  have:i=R.length:=by omega
  subst this;rcases aJ with ⟨mq,rfl⟩ | ⟨mq,hp,rfl,hM⟩
  ·omega
  ·rw [yC (by omega)] at hM;simp only [go_sem,ya,F6,lv,show ¬(R.length:Int)<R.length by omega];exact ⟨_,_,rfl,by simp,_,_,_,rfl,rfl,by simp only [go_sem,ya],by simp only [go_sem,ya],hM⟩
def SP {k:Nat} (y:Bool):∀{W:Mx},(∀r,r∈W->r.length=k)->cF bm (xW (fun w r=>AV.aE y w r) (yf W.length k) (W.map cr)) (W.map (wH RT))
 | [],_=>trivial
 | r::W,hw=>by
  rw [yy,xP,xd,xd,List.zipWith_cons_cons]
  have:=O3 y r
  rw [hw r wM] at this;exact ⟨this,SP y (fun q hq=>hw q (xY _ hq))⟩
def aAM (h:Rxi P L) (Et:Has P L 332 GP) (LR:Has P L 350 ze) (mf:Has P L 351 nv) (CE:Has P L 353 AP) (AZ:Has P L 354 AQ) (mN:Has P L 355 zg) {v bv:AV} {R:Mx} {b:List Rat} {w:Nat} (hv:cx bm v (R.map (wH RT))) (hb:bm bv (b.map RT)) (hw:wid w R) (jq:0<w) (jb:w<=900) (lb:b.length=R.length) (hn:R.length<=900) (h0:0<R.length) {K:Nat} (hk:b9 K (bQ R b)) (nP:1<=K) (hK:4^R.length*(K+1)<=400000000):
  (w∈(ay (bQ R b) (w+1)).2->aj P L 350 [v,bv] (.az [.ab,.bool false]))/\
  (w∉(ay (bQ R b) (w+1)).2->∃r,aj P L 350 [v,bv] (.az [r,.bool true])/\bm (bZ r) ((jj (ay (bQ R b) (w+1)).1 (ay (bQ R b) (w+1)).2 w (ay (bQ R b) (w+1)).2.length).map RT)):=by
 have lW:=nY (R:=R) lb;have hW:=DA hw lb;have Fb:∀r,r∈bQ R b->r.length=w+1:=fun r hr=>mX hW hr
 have f0:=awq (P:=P) (L:=L) hv hb hw jq (by omega) lb (by omega) h0 R.length;have e1:=aiY (P:=P) (L:=L) mf hv (by rw [yk];exact h0)
 have hwd:wd (R.map (wH RT))=w:=by
  unfold wd;rw [Gw (by rw [yk];exact h0),yX,yk]
  exact mX hw (yE h0)
 rw [hwd] at e1;unfold aj at e1;have Ve:∃hp ct,D P L (mM 3 ze.body) ⟨dN 0 [v,bv],[],0,0⟩=some (.normal,⟨[(6,.ak 0 0 R.length),(7,aa w)],hp,ct,0⟩)/\fj hp false false 1 (yf R.length (w+1)) ((bQ R b).map cr) 0:=by
  simp only [go_sem,ya,ze,mM,bw,aB,hv.an,e1];generalize hq:D P L (.loop [0,1,6,7,8] F6) _=q;obtain ⟨ex,st,rfl,tm,hp,ct,rfl,rfl,t6,t7,hG⟩:=bD hq f0 ⟨0,by omega,.inl ⟨rfl,by simp only [go_sem,ya,aw,aq hv.pu,au _ hv.pu,aq hb.pu,au _ hb.pu]<;>rfl⟩⟩
  obtain ⟨ah,e,M5⟩:=hG.comp (ct:=ct) (live:=[6,7]) (tm:=tm) (tm':=[(6,.ak 0 0 R.length),(7,aa w)]) (by simp only [go_sem,t6,t7]<;>rfl) (by rw [yk];omega) (fun S q=>by simp only [go_sem,t6,t7,q]<;>rfl)
  simp only [go_sem,e];exact ⟨_,_,rfl,M5⟩
 obtain ⟨hp,ct,hS,hG⟩:=Ve;have hD:D P L ze.body ⟨dN 0 [v,bv],[],0,0⟩=D P L (qM 3 ze.body) ⟨[(6,.ak 0 0 R.length),(7,aa w)],hp,ct,0⟩:=by
  rw [JH 3 (c:=ze.body) (by refine ⟨rfl,rfl,rfl,?_⟩;show _=_;rfl),hS,fN]
 have lT:((bQ R b).map cr).length=R.length:=by rw [yk,lW]
 have Yz:cx bm (.aE false R.length (xW (fun w r=>AV.aE false w r) (yf R.length (w+1)) ((bQ R b).map cr))) ((bQ R b).map (wH RT)):=by
  have h1:=SP (k:=w+1) false Fb;rw [lW] at h1
  have:=BM false h1
  rwa [yk,lW] at this
 have Ci:∀hp:Hp,kw 0 R.length (some (false,1,xW (fun w r=>AV.aE false w r) (yf R.length (w+1)) ((bQ R b).map cr),hp))=some (.aE false R.length (xW (fun w r=>AV.aE false w r) (yf R.length (w+1)) ((bQ R b).map cr)),hp):=fun hp=>lP false (by rw [SO (by simp [lW]),lT,yh]) (by decide)
 obtain ⟨fD,ez⟩:=hG.zh (n:=997) (by decide) (fun i h1 h2=>by
  rw [uM,yX,qF,Fb _ (yE _)];omega) (by omega)
 have g0:=hG.m;obtain ⟨r3,q3,e3,YA,ET⟩:=aAG h mf CE AZ mN Yz hW (by omega) (by omega) (by omega) (by omega) hk nP (by rw [lW];exact hK)
 have hP:=Gg hW (w+1);have jY:=hP.pv;have Bu:=aAw (P:=P) (L:=L) Et (n:=w) jq (by omega);rw [aqR] at Bu;have f1:=awn (P:=P) (L:=L) YA ET (n:=w) (by omega) (aqM hP.wid _) (by rw [yI,BS];omega) (by rw [yI,BS];omega) hP.lt (ay (bQ R b) (w+1)).2.length;rw [aaK (yq _) (by rw [BS];exact jY) _ (yq _)] at f1
 unfold aj at e3 Bu;have fin:(w∈(ay (bQ R b) (w+1)).2/\aj P L 350 [v,bv] (.az [.ab,.bool false]))\/(w∉(ay (bQ R b) (w+1)).2/\aj P L 350 [v,bv] (.az [.bV false 1 w (cr (jj (ay (bQ R b) (w+1)).1 (ay (bQ R b) (w+1)).2 w (ay (bQ R b) (w+1)).2.length)),.bool true])):=by
  unfold aj;rw [aI LR,hD];simp only [go_sem,ya,ze,qM,aB,g0,ez,Ci,e3,Fz,Fs,Fv,Bu,Px];generalize hq:D P L (.loop [7,9,10,11,12] F7) _=q;obtain ⟨ex,st,rfl,tm,hp,ct,rfl,h2⟩:=bD hq f1 ⟨0,by simp only [go_sem,ya,yd,aw,aq YA.pu,au _ YA.pu,aq ET.pu,au _ ET.pu]<;>rfl,by omega,by simp⟩
  rcases h2 with ⟨rfl,t4,t5,hm⟩ | ⟨rfl,hm,rfl,t11⟩
  ·exact .inl ⟨hm,by simp only [go_sem,t4,t5]⟩
  ·right
   refine ⟨hm,?_⟩;simp only [go_sem,ya,yd,aw,t11];exact alG (ej _ _ _) (by rw [qF,Oj,yh]) (by decide)
 have hI:=O3 false (jj (ay (bQ R b) (w+1)).1 (ay (bQ R b) (w+1)).2 w (ay (bQ R b) (w+1)).2.length);rw [Oj] at hI;rcases fin with ⟨h1,h2⟩ | ⟨h1,h2⟩
 ·exact ⟨fun _=>h2,fun q=>absurd h1 q⟩
 ·exact ⟨fun q=>absurd q h1,fun _=>⟨_,h2,hI⟩⟩
end
def jd (m:Mx) (ld:Rat):Nat->Mx
 | 0=>m
 | k+1=>(jd m ld k).set k ((gR (jd m ld k) k).set k (aW (gR (jd m ld k) k) k+ld))
def BT (m:Mx) (ld:Rat):∀k,(jd m ld k).length=m.length
 | 0=>rfl
 | k+1=>by rw [jd,xD,BT m ld k]
def FL {m:Mx} {w:Nat} (ld:Rat) (hw:wid w m):∀k,wid w (jd m ld k)
 | 0=>hw
 | k+1=>fun i hi=>by
  rw [jd,xD] at hi;rw [jd,ib]
  split
  ·rename_i h;rw [xD,FL ld hw k k (by omega)]
  ·exact FL ld hw k i hi
def KV {m:Mx} {w:Nat} (ld:Rat) (hw:wid w m) (hl:m.length=w) {i j:Nat} (hi:i<w) (hj:j<w):∀k,k<=w->E (jd m ld k) i j=if i=j/\i<k then E m i j+ld else E m i j
 | 0,_=>by rw [yo (by omega)];rfl
 | k+1,hk=>by
  have ih:=KV ld hw hl hi hj k (by omega);have ih2:=KV ld hw hl (i:=k) (j:=k) (by omega) (by omega) k (by omega);have hlen:=BT m ld k;unfold E at ih ih2 ⊢;rw [jd,ib];by_cases h:k=i
  ·subst h;rw [yA ⟨rfl,by omega⟩,ada];by_cases h2:k=j
   ·subst h2;rw [yA ⟨rfl,by rw [FL ld hw k k (by omega)];exact hi⟩,yA ⟨rfl,by omega⟩,ih2,yo (by omega)]
   ·rw [yo (fun q=>h2 q.1),yo (fun q=>h2 q.1),ih,yo (fun q=>h2 q.1)]
  ·rw [yo (fun q=>h q.1),ih];by_cases h3:i=j/\i<k
   ·rw [yA h3,yA ⟨h3.1,by omega⟩]
   ·rw [yo h3,yo (fun q=>h3 ⟨q.1,by omega⟩)]
def ayn {m:Mx} {w K:Nat} {ld:Rat} (hw:wid w m) (hl:m.length=w) (kR:b9 K m) (kl:Hq K ld):b9 (K+K+1) (jd m ld w):=fun i hi x hx=>by
 rw [BT] at hi;obtain ⟨j,hj,rfl⟩:=xG.1 hx;have He:j<w:=by rw [FL ld hw w i (by rw [BT];exact hi)] at hj;exact hj
 have:=KV ld hw hl (show i<w by omega) He w (yq w)
 have hE:Hq K (E m i j):=by
  unfold E;rw [db (by rw [hw i hi];exact He)]
  exact kR i hi _ (yE _)
 unfold E at this;rw [db hj] at this;rw [this]
 split
 ·exact hE.add kl
 ·exact hE.mono (by omega)
def bE.toG {hp:Hp} {w:Nat} {M:Mx} (h:bE hp w M):fj hp false false 1 (yf M.length w) (M.map cr) 0:=by
 refine ⟨by simp,?_,fun i hi=>?_⟩
 ·rw [h.m,yk]
  have:=ac3 w (dT M.length)
  rw [jM] at this;unfold cQ;rw [this];simp [dT,Function.comp_def]
 ·rw [yk] at hi;rw [h.r i hi,mG (by rw [yk];exact hi),yX,cm hi]
section
variable {P:aM} {L:Lib}
def awr (h:Rn P L) {bv tv:AV} (pb:a7 bv=true) (pt:a7 tv=true) {m:Mx} {ld:Rat} {w:Nat} (hw:wid w m) (hl:m.length=w) (jb:w<=900) {K:Nat} (kR:b9 K m) (kl:Hq K ld) (hK:K<=1000000000):
  ∀(d:Nat) (st:St),(∃(i:Nat) (hp:Hp) (ct:Nat),aG [1,2,7,8,9] st=⟨[(1,bv),(2,.str (RT ld)),(7,tv),(8,.ak 0 0 w),(9,aa i)],hp,ct,0⟩/\bE hp w (jd m ld i)/\i+d=w)->
   ∃ex s',D P L (.loop [1,2,7,8,9] Kg) st=some (ex,s')/\∃tm hp ct,s'=⟨tm,hp,ct,0⟩/\ex= .exit 0/\bE hp w (jd m ld w)/\af tm 1=bv/\af tm 7=tv/\af tm 8= .ak 0 0 w:=by
 intro dq sq;generalize bh:aG [1,2,7,8,9] sq=s0;revert bh s0 sq dq;apply dj;rintro d st ⟨i,hp,ct,rfl,hM,hid⟩;have lg:=BT m ld i;by_cases hi:i<w
 ·left
  have wi:=FL ld hw i i (by omega);obtain ⟨r,d0⟩:=bE.drop (n:=(jd m ld i).length) (p:=i) (w:=w) (by omega);have g0:=hM.m;have ga:=hM.r i (by omega);have dp:=Dy (r:=gR (jd m ld i) i) (c:=i) (by omega);have hE:Hq K (aW (gR (jd m ld i) i) i):=by
   have:=KV ld hw hl hi hi i (by omega)
   rw [yo (by omega)] at this;unfold E at this;rw [this,db (by rw [hw i (by omega)];exact hi)]
   exact kR i (by omega) _ (yE _)
  have e1:=Vb h.toRp hE kl (by omega);have aJ:=fun (ct:Nat)=>Pz (hp:=hp) (ct:=ct) (id:=i+1) (ex:=false) (at_:=i) (r:= .str (RT (aW (gR (jd m ld i) i) i+ld))) (rows:=cr (gR (jd m ld i) i)) (by rw [qF];omega) rfl rfl
  simp only [O2] at aJ;have fW:=hM.set (i:=i) (by omega) ((gR (jd m ld i) i).set i (aW (gR (jd m ld i) i) i+ld));have Ff:bE _ w (jd m ld (i+1)):=fW;have w9:IntKind.wrap .i64 ((i:Int)+1)=((i+1:Nat):Int):=wrap64 (by omega) (by omega);unfold aj at e1;simp only [go_sem,ya,yh,Kg,show (i:Int)<w by omega,yu,bA 0 0 hi,yg,g0,d0,ga,bA (i+1) 0 hi,dp,e1,aJ,w9];refine ⟨_,d-1,rfl,by omega,i+1,?_⟩
  suffices hq:∃ah aK,aG [1,2,7,8,9] _=_/\bE ah w (jd m ld (i+1))/\dV ah w 0 []/\i+1+(d-1)=w by
   obtain ⟨ah,aK,q1,q2,_,q4⟩:=hq;exact ⟨ah,aK,q1,q2,q4⟩
  exact kS Ff (.inl rfl) (by rw [BT,hl]) (by omega) (by simp only [go_sem,ya,di,aq pb,aq pt]<;>rfl) (fun S q3 q4=>by simp only [go_sem,ya,q3,au _ pb,au _ pt]<;>rfl) (by omega)
 ·right
  have:i=w:=by omega
  subst this;simp only [go_sem,ya,Kg,show ¬(i:Int)<i by omega];exact ⟨_,_,rfl,by simp,_,_,_,rfl,rfl,hM,by simp only [go_sem,ya],by simp only [go_sem,ya],by simp only [go_sem,ya]⟩
def aws {K J:Nat} {m:Mx} (h:b9 K m) (hJ:K<=J):b9 J m:=fun i hi x hx=>(h i hi x hx).mono hJ
def gC (R:Mx) (w:Nat) (ld:Rat):Mx:=jd (iE (cC R w) R w) ld w
def ik (R:Mx) (w:Nat) (b:List Rat):List Rat:=nE (cC R w) b
def awt {l:List (List Nat)} (h:∀s,s∈l->bJ s=0):(l.map aZ).map RT=l:=by
 rw [List.map_map]
 have:∀s,s∈l->(RT∘aZ) s=s:=fun s hs=>(BL (h s hs)).1.symm
 rw [List.map_congr_left this];exact List.map_id l
def FE (R:Mx) (w:Nat) (ld:Rat):wid w (gC R w ld):=FL ld (Tt _ _ _) w
def BN (R:Mx) (w:Nat) (ld:Rat):(gC R w ld).length=w:=by unfold gC;rw [BT,Tu];simp [cC]
def Jt (R:Mx) (w:Nat) (b:List Rat):(ik R w b).length=w:=by simp [ik,nE,cC]
def aAN (h:Rxi P L) (Et:Has P L 332 GP) (WO:Has P L 346 Qa) (AY:Has P L 347 Eg) (LP:Has P L 348 Cq) (zq:Has P L 349 Eh) (LR:Has P L 350 ze) (mf:Has P L 351 nv) (qX:Has P L 352 Cr) (CE:Has P L 353 AP) (AZ:Has P L 354 AQ) (mN:Has P L 355 zg) {v bv:AV} {M:List (List (List Nat))} {l:List (List Nat)} {s:List Nat} (hv:cx bm v M) (hb:bm bv l) (hM:mS M=0) (hc:∀s,s∈l->bJ s=0) (hs:bJ s=0) (lb:l.length=M.length) (h4:M.length<=4) (w4:wd M<=4) {K:Nat} (kR:b9 K (dP M)) (kb:∀x,x∈l.map aZ->Hq K x) (kl:Hq K (aZ s)) (cU:2<=K) (hK:K<=1000)
  (hd:wd M∉(ay (bQ (gC (dP M) (wd M) (aZ s)) (ik (dP M) (wd M) (l.map aZ))) (wd M+1)).2):
  ∃r,bm r ((jj (ay (bQ (gC (dP M) (wd M) (aZ s)) (ik (dP M) (wd M) (l.map aZ))) (wd M+1)).1 (ay (bQ (gC (dP M) (wd M) (aZ s)) (ik (dP M) (wd M) (l.map aZ))) (wd M+1)).2 (wd M) (ay (bQ (gC (dP M) (wd M) (aZ s)) (ik (dP M) (wd M) (l.map aZ))) (wd M+1)).2.length).map RT)/\aj P L 346 [v,bv,.str s] r:=by
 obtain ⟨m0,m64,ho⟩:=Kp hM;have lM:=Jp M;have hWm:=ho _ (yE m0);have hW:M[0].length=wd M:=hWm.1;have hw:=Jo (M:=M) (fun r bk=>(ho r bk).1);have jq:0<wd M:=by omega
 obtain ⟨t,e1,ht⟩:=aAE (P:=P) (L:=L) mf AY hv m0 (by omega) (fun r hr=>(ho r hr).1) (by omega);rw [aqO (fun r hr=>⟨(ho r hr).1,(ho r hr).2.2.2⟩)] at ht;have hRT:=ata (A:=M) (fun r hr=>(ho r hr).2.2.2);have hsR:=(BL hs).1;have hbR:bm bv ((l.map aZ).map RT):=by rw [awt hc];exact hb
 generalize dP M=R at*
 generalize wd M=w at*
 have p8:(cC R w).length=w:=by simp [cC]
 have Eu:∀r,r∈cC R w->r.length=R.length:=fun r hr=>by
  obtain ⟨c,_,rfl⟩:=wA.1 hr;rw [yk]
 have kT:b9 K (cC R w):=fun i hi y hy=>by
  rw [cm hi] at hy;obtain ⟨c,_,hr⟩:=wA.1 (yE hi);rw [<-hr] at hy;obtain ⟨q,hq,rfl⟩:=wA.1 hy;exact KQ (rN kR hq) cU
 have nR:wid R.length (cC R w):=fun i hi=>by rw [cm hi];exact Eu _ (yE hi)
 have lQ:=Tu (cC R w) R w;rw [p8] at lQ;have wQ:=Tt (cC R w) R w;have kQ:=atm (w:=w) nR kT kR cU;have ahk:R.length*(2*K+1)<=4*(2*1000+1):=xU (by omega) (by omega);obtain ⟨hp,ct,e2,hMt⟩:=ax2 h.toRn AY LP zq mf qX (u:=shut t) (v:=v) (A:=cC R w) (B:=R) (w:=w) ht e1 ht hv (fun r hr=>Eu r hr) (by omega) (by omega) (by omega) jq (by omega) kT kT cU (by omega);rw [p8] at e2;have kQ1:=aws kQ (show 2+R.length*(2*K+1)<=2+R.length*(2*K+1)+K by omega);have kl1:=kl.mono (show K<=2+R.length*(2*K+1)+K by omega);have f0:=awr (P:=P) (L:=L) h.toRn hb.pu ht.pu wQ lQ (by omega) kQ1 kl1 (by omega) w;have kN:b9 (2+R.length*(2*K+1)+K+(2+R.length*(2*K+1)+K)+1) (gC R w (aZ s)):=ayn wQ lQ kQ1 kl1;have wN:=FE R w (aZ s);have lN:=BN R w (aZ s);have lR:=Jt R w (l.map aZ)
 have IS:(l.map aZ).length=R.length:=by rw [yk];omega
 have kC:∀x,x∈ik R w (l.map aZ)->Hq (2+R.length*(2*K+1)+K+(2+R.length*(2*K+1)+K)+1) x:=fun x hx=>by
  obtain ⟨c,fV,rfl⟩:=wA.1 hx;have h1:=Aw (rN kT fV) kb cU cU c.length;rw [Eu c fV,show K+K+1=2*K+1 by omega] at h1;rw [Eu c fV];exact h1.mono (by omega)
 have e3:=ahi h.toRn qX zq (M:=cC R w) (x:=l.map aZ) ht hbR (fun r hr=>by rw [Eu r hr,IS]) (by omega) (by omega) (by omega) (fun r hr=>rN kT hr) kb cU cU (by omega);rw [p8,show nE (cC R w) (l.map aZ)=ik R w (l.map aZ) from rfl] at e3;have hC:bm (.aE false w (cr (ik R w (l.map aZ)))) ((ik R w (l.map aZ)).map RT):=by
  have:=O3 false (ik R w (l.map aZ))
  rwa [lR] at this
 have Fb:∀r,r∈gC R w (aZ s)->r.length=w:=fun r hr=>mX wN hr
 have Yz:cx bm (.aE false w (xW (fun w r=>AV.aE false w r) (yf w w) ((gC R w (aZ s)).map cr))) ((gC R w (aZ s)).map (wH RT)):=by
  have h1:=SP (k:=w) false Fb;rw [lN] at h1
  have:=BM false h1
  rwa [yk,lN] at this
 have zk:4^w<=4^4:=xh (by decide) w4;have PD:=yS (2+R.length*(2*K+1)+K+(2+R.length*(2*K+1)+K)+1+1) zk;obtain ⟨r5,e5,hr5⟩:=(aAM h Et LR mf CE AZ mN Yz hC wN jq (by omega) (by omega) (by omega) (by omega) (KT kN kC (by omega)) (by omega) (by rw [lN];omega)).2 hd;refine ⟨bZ r5,hr5,?_⟩;unfold aj at e1 e3 e5 ⊢;rw [aI WO,hsR];have ec:∀tm,bg P L (D P L) tm [] 0 (.call .heap (.c (.fn (.f 348) [] [])) [.t 14,.t 15])=er P L (D P L) [] 0 .heap (.fn (.f 348) [] []) [af tm 14,af tm 15]:=fun tm=>rfl
 simp only [go_sem,ya,Qa,hv.an,e1,ec,e2];generalize hq:D P L (.loop [1,2,7,8,9] Kg) _=q;obtain ⟨ex,st,rfl,tm,fD,nM,rfl,rfl,fW,t1,t7,t8⟩:=bD hq f0 (by
  refine ⟨0,?_⟩
  suffices hq:∃ah aK,aG [1,2,7,8,9] _=_/\bE ah w (iE (cC R w) R w)/\dV ah w 0 []/\0+w=w by
   obtain ⟨ah,aK,q1,q2,_,q4⟩:=hq;exact ⟨ah,aK,q1,q2,q4⟩
  exact kS hMt (.inl rfl) lQ (by omega) (by simp only [go_sem,ya,di,aq hb.pu,aq ht.pu]<;>rfl) (fun S q3 q4=>by simp only [go_sem,ya,q3,au _ hb.pu,au _ ht.pu]<;>rfl) (by omega))
 obtain ⟨oM,ct3,e6,Ff,_⟩:=kS (live:=[1,7,8]) (tm:=tm) (tm':=[(1,bv),(7,shut t),(8,.ak 0 0 w)]) (ct:=nM) (k:=0) (pvs:=[]) (R:=True) fW (.inl rfl) (by rw [BT,lQ]) (by omega) (by simp only [go_sem,t1,t7,t8,di,aq hb.pu,aq ht.pu]<;>rfl) (fun S q3 q4=>by simp only [go_sem,t1,t7,t8,q3,au _ hb.pu,au _ ht.pu]<;>rfl) trivial
 have hM4:bE oM w (gC R w (aZ s)):=Ff;have hG:=hM4.toG;rw [lN] at hG;have lT:((gC R w (aZ s)).map cr).length=w:=by rw [yk,lN]
 have Ci:∀hp:Hp,kw 0 w (some (false,1,xW (fun w r=>AV.aE false w r) (yf w w) ((gC R w (aZ s)).map cr),hp))=some (.aE false w (xW (fun w r=>AV.aE false w r) (yf w w) ((gC R w (aZ s)).map cr)),hp):=fun hp=>lP false (by rw [SO (by simp [lN]),lT,yh]) (by decide)
 obtain ⟨HL,ez⟩:=hG.zh (n:=997) (by decide) (fun i h1 h2=>by
  rw [uM,yX,qF,Fb _ (yE _)];omega) (by omega)
 have g0:=hG.m;simp only [go_sem,ya,e6,ht.an,hb.an,e3,g0,ez,Ci,e5,Fz,Fs,Fv,hr5.fm]
end
end VE
