import Derived.Test.YtfohkkaphnfgoaaGreatDoorTau
import Derived.Test.YtfohkkaphnfgoaaGreatDoorTat
import Derived.Test.YtfohkkaphnfgoaaGreatDoorTak
import Derived.Test.YtfohkkaphnfgoaaGreatDoorTap
import Derived.Test.YtfohkkaphnfgoaaGreatDoorTaq
set_option linter.all false
set_option maxRecDepth 100000
open Bool renaming not_false→yI,not_true→yJ
open Int renaming emod_lt_of_pos→we,emod_nonneg→wm,natCast_mul→xL,reduceEq→vC,reduceLT→yaE
open List renaming any_append→tD,any_cons→tu,drop→xg,drop_zero→yg,flatten_cons→xT,getElem_map→vW,getElem_mem→yR,length_append→yW,length_cons→yC,length_map→yL,length_nil→yK,length_take→yQ,map_append→xq,map_cons→yV,mem_append→wH,mem_cons_of_mem→xS,mem_cons_self→wA,mem_map→wb,mem_singleton→wT,take_of_length_le→yp,take_succ_eq_append_getElem→yB
open Nat renaming le_refl→yr,mul_le_mul→xB,mul_one→yh,reduceAdd→yb,reduceEqDiff→ya,reduceLT→yt,reduceLeDiff→yi,zero_add→yd
namespace VE
section
open Go (IntKind)
def rH (row:List AV):List AV->Hp
 | []=>[(0,.cells true true false 1 row)]
 | a::r=>[(1,.cells true true false 1 row),(0,.cells true true false 1 (a::r))]
section
variable {P:aG} {L:Lib}
def as4 (h:Rz P L) (pR:Has P L 309 rh) (nF:Has P L 315 sI) {v sv w:AV} {l:List Lay} {sl:List cU} {pl:List cV} (hv:dh v l) (hl:l.length<=4) (hs:er sv sl) (hw:eT w pl) {si pi:Nat} (X4:si<sl.length) (hpi:pi<pl.length) {fr:Int} (ok:∀a,a∈l->a.Ok sl[si].1 sl[si].2.1 sl[si].2.2 pl[pi].1 pl[pi].2 fr) {N:Nat} (hN:N<=64) (hT:∀j,j<=l.length->(fS sl[si].1 sl[si].2.1 sl[si].2.2 pl[pi].1 pl[pi].2 fr (l.take j)).1<=N) (rows:List AV):
  ∀d s,(∃j:Nat,j+d=l.length/\aT [0,1,2,3,9,10,11,12,13,14] s=⟨[(0,v),(1,sv),(2,w),(3,aa fr),(9,mO rows),(10,aa si),(11,aa pi),(12,.aC (nC rows) 0 N),(13,aa (fS sl[si].1 sl[si].2.1 sl[si].2.2 pl[pi].1 pl[pi].2 fr (l.take j)).1),(14,aa j)],rH ((ir (fS sl[si].1 sl[si].2.1 sl[si].2.2 pl[pi].1 pl[pi].2 fr (l.take j)).2 N).map .str) rows,nC rows+1,0⟩)->
   ∃ex s',D P L (.loop [0,1,2,3,9,10,11,12,13,14] De) s=some (ex,s')/\∃tm hp ct,s'=⟨tm,hp,ct,0⟩/\ex= .exit 4/\hp=rH ((ir (fS sl[si].1 sl[si].2.1 sl[si].2.2 pl[pi].1 pl[pi].2 fr l).2 N).map .str) rows/\ct=nC rows+1/\ah tm 0=v/\ah tm 1=sv/\ah tm 2=w/\ah tm 3=aa fr/\ah tm 9=mO rows/\ah tm 10=aa si/\ah tm 11=aa pi/\ah tm 12= .aC (nC rows) 0 N:=by
 intro dq sq;generalize bw:aT [0,1,2,3,9,10,11,12,13,14] sq=s0;revert bw s0 sq dq;apply dn;rintro d s ⟨j,hjd,rfl⟩;by_cases hj:j<l.length
 ·left
  obtain ⟨rest,e1⟩:=hv.aZ hj;obtain ⟨rs,e2⟩:=hs.aZ X4;obtain ⟨rp,e3⟩:=hw.aZ hpi;have hI:=hv.get hj;have bY:=ok _ (yR hj);have hS:=TJ hI bY.scr;have n0:=hS.pos;have n1:=hS.le;have lV:∀a,a∈l->0<a.s.length/\a.s.length<=16:=fun a ha=>by
   obtain ⟨a1,a2,_⟩:=CD (ok a ha).scr;exact ⟨a1,a2⟩
  obtain ⟨q1,q2,_⟩:=run_eq (dx:=sl[si].1) (dy:=sl[si].2.1) (sh:=sl[si].2.2) (x:=pl[pi].1) (y:=pl[pi].2) (fr:=fr) lV j (by omega);have kC:∀q,Hq 1700000 ((fS sl[si].1 sl[si].2.1 sl[si].2.2 pl[pi].1 pl[pi].2 fr (l.take j)).2 q):=fun q=>by
   rw [q1];exact (N4 hl ok j (by omega) q).mono (by omega)
  rw [<-q1] at q2;have t1:=hT (j+1) (by omega);have aP:=Sc (dx:=sl[si].1) (dy:=sl[si].2.1) (sh:=sl[si].2.2) (x:=pl[pi].1) (y:=pl[pi].2) (fr:=fr) hj;have h3:(l[j].s.length:Int)*l[j].s.length=((l[j].s.length*l[j].s.length:Nat):Int):=(xL _ _).symm;have h2:l[j].s.length*l[j].s.length<=16*16:=xB n1 n1;have bB:(fS sl[si].1 sl[si].2.1 sl[si].2.2 pl[pi].1 pl[pi].2 fr (l.take (j+1))).1=(fS sl[si].1 sl[si].2.1 sl[si].2.2 pl[pi].1 pl[pi].2 fr (l.take j)).1+((l[j].s.length*l[j].s.length:Nat):Int):=by rw [aP,<-h3];rfl
  have e4:=axa h.toRp pR nF (x:=sl[si].1) (y:=sl[si].2.1) (ki bY.sh (yr 2400)) (ki bY.hh (yr 2400)) (by decide);rw [<-(A6 bY.sh).1,<-(A6 bY.hh).1,show Dp (bf sl[si].2.2) (bf l[j].hh)=Lay.low sl[si].2.2 l[j] from rfl] at e4;have o1:=hI.one;have p1:=hI.pu;unfold jX at e4;unfold ae at e4
  cases hb:Lay.low sl[si].2.2 l[j] with
  | false=>
   rw [hb] at e4;have eJ:(fS sl[si].1 sl[si].2.1 sl[si].2.2 pl[pi].1 pl[pi].2 fr (l.take (j+1))).2=(fS sl[si].1 sl[si].2.1 sl[si].2.2 pl[pi].1 pl[pi].2 fr (l.take j)).2:=by
    rw [aP];unfold JY;rw [hb];rfl
   cases rows
   all_goals
    simp only [mO,nC,rH]
    simp only [go_sem,ya,yb,De,hv.len,show (j:Int)<l.length by omega,e1,nI,aK,Bm hI,hI.len,aV,yd,bX,yg,e2,ru,a8,e4,h3,wrap64 (n:=((l[j].s.length*l[j].s.length:Nat):Int)) (by omega) (by omega),<-bB,wrap64 (n:=(fS sl[si].1 sl[si].2.1 sl[si].2.2 pl[pi].1 pl[pi].2 fr (l.take (j+1))).1) (by omega) (by omega)];refine ⟨_,d-1,rfl,by omega,j+1,by omega,?_⟩
    rw [show (j:Int)+1=((j+1:Nat):Int) from rfl,wrapN (n:=j+1) (by omega),eJ];simp only [go_sem,ya,yb,an,ak hv.pu,ao _ hv.pu,ak hs.pu,ao _ hs.pu,ak hw.pu,ao _ hw.pu]<;>rfl
  | true=>
   rw [hb] at e4;have eJ:(fS sl[si].1 sl[si].2.1 sl[si].2.2 pl[pi].1 pl[pi].2 fr (l.take (j+1))).2=gh (fS sl[si].1 sl[si].2.1 sl[si].2.2 pl[pi].1 pl[pi].2 fr (l.take j)).2 (fS sl[si].1 sl[si].2.1 sl[si].2.2 pl[pi].1 pl[pi].2 fr (l.take j)).1 l[j].s.length ((fk l[j].hh l[j].sc l[j].ox l[j].wx sl[si].1 sl[si].2.2 pl[pi].1 fr).floor%l[j].s.length) ((fk l[j].hh l[j].sc l[j].oy l[j].wy sl[si].2.1 sl[si].2.2 pl[pi].2 fr).floor%l[j].s.length) (gZ (fk l[j].hh l[j].sc l[j].ox l[j].wx sl[si].1 sl[si].2.2 pl[pi].1 fr)) (gZ (fk l[j].hh l[j].sc l[j].oy l[j].wy sl[si].2.1 sl[si].2.2 pl[pi].2 fr)) (bf l[j].st) 4:=by
    rw [aP];unfold JY;rw [hb];rfl
   have e5:=auR h hI bY;have kX:=bY.kX;have kY:=bY.kY;have kf:=BB kX (by omega);have kg:=BB kY (by omega);generalize fk l[j].hh l[j].sc l[j].ox l[j].wx sl[si].1 sl[si].2.2 pl[pi].1 fr=X at*
   generalize fk l[j].hh l[j].sc l[j].oy l[j].wy sl[si].2.1 sl[si].2.2 pl[pi].2 fr=Y at*
   have e6:=axk h.toAr (n:=(l[j].s.length:Int)) kX kY (by omega) (by omega) (by omega) (by omega);have f0:=as3 h.toRn (fr:=(fS sl[si].1 sl[si].2.1 sl[si].2.2 pl[pi].1 pl[pi].2 fr (l.take j)).1) (n:=(l[j].s.length:Int)) (i:=X.floor%(l[j].s.length:Int)) (j:=Y.floor%(l[j].s.length:Int)) (f:=gZ X) (g:=gZ Y) (N:=N) ⟨wm _ (by omega),we _ (by omega)⟩ ⟨wm _ (by omega),we _ (by omega)⟩ (by omega) ⟨q2,by omega⟩ (by omega) (by omega) kf kg (B:=1700000) (by omega) kC bY.st (l0:=l[j].w) (l1:=l[j].hh) (l2:=l[j].sc) (l4:=l[j].ox) (l5:=l[j].oy) (l6:=l[j].wx) (l7:=l[j].wy) o1 p1 hv.pu hs.pu hw.pu fr si pi j rows 4;unfold zu jX qw at e5;unfold nU at e5 e6;unfold Ta at e6;unfold ae at e5 e6;generalize X.floor%(l[j].s.length:Int)=ci at*
   generalize Y.floor%(l[j].s.length:Int)=cj at*
   cases rows
   all_goals
    simp only [mO,nC,rH,qH] at f0 ⊢;simp only [go_sem,ya,yb,De,hv.len,show (j:Int)<l.length by omega,e1,nI,aK,Bm hI,hI.len,hI.af,aV,yd,bX,yg,e2,ru,e3,BX,FN,a8,e4,e5,bC,e6,adC];generalize hq:D P L (.loop [0,1,2,3,9,10,11,12,13,14,15,16,17,18] Bi) _=q;obtain ⟨ex,st,rfl,tm,hp,ct,rfl,rfl,rfl,t0,t1',t2,t3,t9,t10,t11,t12,t13,t14,t16⟩:=bD hq f0 ⟨0,by omega,by
     show _=_
     simp only [go_sem,ya,yb,an,gh,ak hv.pu,ao _ hv.pu,ak hs.pu,ao _ hs.pu,ak hw.pu,ao _ hw.pu]<;>rfl⟩
    simp only [go_sem,ya,yb,an,t0,t1',t2,t3,t9,t10,t11,t12,t13,t14,t16,ak hv.pu,ao _ hv.pu,ak hs.pu,ao _ hs.pu,ak hw.pu,ao _ hw.pu,h3,wrap64 (n:=((l[j].s.length*l[j].s.length:Nat):Int)) (by omega) (by omega),<-bB,wrap64 (n:=(fS sl[si].1 sl[si].2.1 sl[si].2.2 pl[pi].1 pl[pi].2 fr (l.take (j+1))).1) (by omega) (by omega)];refine ⟨_,d-1,rfl,by omega,j+1,by omega,?_⟩
    rw [show (j:Int)+1=((j+1:Nat):Int) from rfl,wrapN (n:=j+1) (by omega),eJ];simp only [go_sem,ya,yb,an,ak hv.pu,ao _ hv.pu,ak hs.pu,ao _ hs.pu,ak hw.pu,ao _ hw.pu]<;>rfl
 ·right
  have h4:j=l.length:=by omega
  subst h4;rw [yp (yr _)];cases rows
  all_goals
   simp only [mO,nC,rH];simp only [go_sem,ya,yb,De,hv.len,show ¬(l.length:Int)<l.length by omega,yk];exact ⟨_,_,rfl,by simp,_,_,_,rfl,rfl,rfl,rfl,by simp only [go_sem,ya],by simp only [go_sem,ya],by simp only [go_sem,ya],by simp only [go_sem,ya],by simp only [go_sem,ya],by simp only [go_sem,ya],by simp only [go_sem,ya],by simp only [go_sem,ya]⟩
end
end
section
open Go (IntKind)
def as5 (N:Nat):ir (fun _=>0) N=List.replicate N [48]:=by
 unfold ir nK;apply List.ext_getElem
 ·simp
 ·intro i h1 h2;simp [VO]
def Td:∀{m:List Int},(∀x,x∈m->0<=x)->∀j,gG (m.take j)<=gG m/\0<=gG (m.take j)
 | [],_,j=>by simp [gG]
 | a::m,h,0=>by
  have h1:=h a wA;have h2:=Td (fun x hx=>h x (xS _ hx)) m.length;simp only [List.take_zero,gG];omega
 | a::m,h,j+1=>by
  have h1:=h a wA;have h2:=Td (fun x hx=>h x (xS _ hx)) j;simp only [List.take_succ_cons,gG];omega
def adH {dx dy sh x y:List Nat} {fr:Int} {l:List Lay}:∀j,j<=l.length->(fS dx dy sh x y fr (l.take j)).1=gG ((l.map fun a=>(a.s.length:Int)*a.s.length).take j)
 | 0,_=>rfl
 | j+1,hj=>by
  rw [Sc (by omega),MW (by rw [yL];omega),<-adH j (by omega),vW];rfl
def as6 {dx dy sh x y:List Nat} {fr:Int} {l:List Lay} {N:Nat} (hN:iq l=N) (j:Nat) (hj:j<=l.length):(fS dx dy sh x y fr (l.take j)).1<=N:=by
 rw [adH j hj,<-hN];refine (Td (fun x hx=>?_) j).1
 grind
def as7 {l:List Lay} {fr:Int} {N:Nat} {s:cU} {p:cV} (h:∀a,a∈l->0<a.s.length/\a.s.length<=16):ir (fS s.1 s.2.1 s.2.2 p.1 p.2 fr l).2 N=(fC l fr N s p).map RT:=by
 have:=(run_eq (dx:=s.1) (dy:=s.2.1) (sh:=s.2.2) (x:=p.1) (y:=p.2) (fr:=fr) h l.length (yr _)).1
 rw [yp (yr _)] at this;unfold ir fC;rw [this]
section
variable {P:aG} {L:Lib}
def as8 (h:Rz P L) (pR:Has P L 309 rh) (nF:Has P L 315 sI) (pT:Has P L 331 BJ) (As:Has P L 332 DQ) {v sv w:AV} {l:List Lay} {sl:List cU} {pl:List cV} (hv:dh v l) (hl:l.length<=4) (hs:er sv sl) (hw:eT w pl) (fm:pl.length<=256) {si:Nat} (X4:si<sl.length) {fr:Int} (hb:∀a,a∈l->0<a.s.length/\a.s.length<=16) (ok:∀p,p∈pl->∀a,a∈l->a.Ok sl[si].1 sl[si].2.1 sl[si].2.2 p.1 p.2 fr) {N:Nat} (zx:0<N) (hN:N<=64) (Io:iq l=N) {M0:List (List (List Nat))} (Hb:M0.length<=100000):
  ∀d st,(∃(k:Nat) (rows:List AV),k+d=pl.length/\di cN rows (M0++(pl.take k).map fun p=>(fC l fr N sl[si] p).map RT)/\aT [0,1,2,3,9,10,11] st=⟨[(0,v),(1,sv),(2,w),(3,aa fr),(9,mO rows),(10,aa si),(11,aa k)],nH rows,nC rows,0⟩)->
   ∃ex s',D P L (.loop [0,1,2,3,9,10,11] FA) st=some (ex,s')/\∃tm hp ct rows,s'=⟨tm,hp,ct,0⟩/\ex= .exit 2/\di cN rows (M0++pl.map fun p=>(fC l fr N sl[si] p).map RT)/\hp=nH rows/\ct=nC rows/\ah tm 0=v/\ah tm 1=sv/\ah tm 2=w/\ah tm 3=aa fr/\ah tm 9=mO rows/\ah tm 10=aa si:=by
 intro dq sq;generalize bw:aT [0,1,2,3,9,10,11] sq=s0;revert bw s0 sq dq;apply dn;rintro d st ⟨k,rows,hkd,hR,rfl⟩;by_cases hk:k<pl.length
 ·left
  have mJ:=yR hk;have e1:=agA pT hv (by omega) (fun a ha=>by have:=(hb a ha).2;omega);rw [Io] at e1;have e2:=axE As zx (show N<=1000000 by omega);rw [<-as5] at e2;have f0:=as4 h pR nF hv hl hs hw X4 hk (ok _ mJ) hN (fun j hj=>as6 Io j hj) rows l.length;have hT:cN (.aJ false N ((ir (fS sl[si].1 sl[si].2.1 sl[si].2.2 pl[k].1 pl[k].2 fr l).2 N).map .str)) ((fC l fr N sl[si] pl[k]).map RT):=by
   have:=Fe false (ir (fS sl[si].1 sl[si].2.1 sl[si].2.2 pl[k].1 pl[k].2 fr l).2 N)
   rw [A7] at this
   rwa [as7 hb] at this ⊢
  have oW:di cN (rows++[.aJ false N ((ir (fS sl[si].1 sl[si].2.1 sl[si].2.2 pl[k].1 pl[k].2 fr l).2 N).map .str)]) (M0++(pl.take (k+1)).map fun p=>(fC l fr N sl[si] p).map RT):=by
   rw [yB hk,xq,<-List.append_assoc];exact hR.snoc hT
  have Qw:rows.length<=200000:=by
   rw [hR.len,yW,yL,yQ];omega
  have Ch:((ir (fS sl[si].1 sl[si].2.1 sl[si].2.2 pl[k].1 pl[k].2 fr l).2 N).map AV.str).length=N*1:=by rw [yL,A7,yh]
  have z0:(fS sl[si].1 sl[si].2.1 sl[si].2.2 pl[k].1 pl[k].2 fr (l.take 0))=(0,fun _=>0):=rfl;generalize (ir (fS sl[si].1 sl[si].2.1 sl[si].2.2 pl[k].1 pl[k].2 fr l).2 N).map AV.str=RW at*
  unfold ae at e1 e2;cases rows
  ·simp only [mO,nC,nH,rH] at f0 ⊢;simp only [go_sem,ya,yb,FA,hw.len,hv.af,show (k:Int)<pl.length by omega,e1,e2,Ug];generalize hq:D P L (.loop [0,1,2,3,9,10,11,12,13,14] De) _=q;obtain ⟨ex,st,rfl,tm,hp,ct,rfl,rfl,rfl,rfl,t0,t1,t2,t3,t9,t10,t11,t12⟩:=bD hq f0 ⟨0,by omega,by
    rw [z0]
    simp only [go_sem,ya,yb,an,ak hv.pu,ao _ hv.pu,ak hs.pu,ao _ hs.pu,ak hw.pu,ao _ hw.pu]<;>rfl⟩
   simp only [go_sem,ya,yb,Nat.reduceMul,yt,yi,yh,an,t0,t1,t2,t3,t9,t10,t11,t12,ak hv.pu,ao _ hv.pu,ak hs.pu,ao _ hs.pu,ak hw.pu,ao _ hw.pu,qK false Ch (show 0<1 by decide),gC];refine ⟨_,d-1,rfl,by omega,k+1,_,by omega,oW,?_⟩
   rw [show (k:Int)+1=((k+1:Nat):Int) from rfl,wrapN (n:=k+1) (by omega)];simp only [go_sem,ya,yb,an,List.nil_append,ak hv.pu,ao _ hv.pu,ak hs.pu,ao _ hs.pu,ak hw.pu,ao _ hw.pu]<;>rfl
  ·rename_i a r;simp only [mO,nC,nH,rH] at f0 ⊢;simp only [yC] at Qw;simp only [go_sem,ya,yb,FA,hw.len,hv.af,show (k:Int)<pl.length by omega,e1,e2,Ug];generalize hq:D P L (.loop [0,1,2,3,9,10,11,12,13,14] De) _=q;obtain ⟨ex,st,rfl,tm,hp,ct,rfl,rfl,rfl,rfl,t0,t1,t2,t3,t9,t10,t11,t12⟩:=bD hq f0 ⟨0,by omega,by
    rw [z0]
    simp only [go_sem,ya,yb,an,ak hv.pu,ao _ hv.pu,ak hs.pu,ao _ hs.pu,ak hw.pu,ao _ hw.pu]<;>rfl⟩
   simp only [go_sem,ya,yb,yi,yh,an,t0,t1,t2,t3,t9,t10,t11,t12,ak hv.pu,ao _ hv.pu,ak hs.pu,ao _ hs.pu,ak hw.pu,ao _ hw.pu,qK false Ch (show 0<1 by decide)]
   rw [fV (ex:=false) (pu:=true) (sz:=1) (by simp only [go_sem,ya];rfl) (by simp) (by omega) (by omega) (by decide) (by simp only [go_sem])]
   simp only [go_sem,ya,yb];refine ⟨_,d-1,rfl,by omega,k+1,_,by omega,oW,?_⟩
   rw [show (k:Int)+1=((k+1:Nat):Int) from rfl,wrapN (n:=k+1) (by omega)];simp only [go_sem,ya,yb,an,List.cons_append,yW,ak hv.pu,ao _ hv.pu,ak hs.pu,ao _ hs.pu,ak hw.pu,ao _ hw.pu]<;>rfl
 ·right
  have oF:k=pl.length:=by omega
  subst oF;rw [yp (yr _)] at hR
  all_goals
   simp only [go_sem,ya,FA,hw.len,show ¬(pl.length:Int)<pl.length by omega,yk];exact ⟨_,_,rfl,by simp,_,_,_,_,rfl,rfl,hR,rfl,rfl,by simp only [go_sem,ya],by simp only [go_sem,ya],by simp only [go_sem,ya],by simp only [go_sem,ya],by simp only [go_sem,ya]<;>rfl,by simp only [go_sem,ya]⟩
def as9 (h:Rz P L) (pR:Has P L 309 rh) (nF:Has P L 315 sI) (pT:Has P L 331 BJ) (As:Has P L 332 DQ) {v sv w:AV} {l:List Lay} {sl:List cU} {pl:List cV} (hv:dh v l) (hl:l.length<=4) (hs:er sv sl) (nP:sl.length<=6) (hw:eT w pl) (fm:pl.length<=256) {fr:Int} (hb:∀a,a∈l->0<a.s.length/\a.s.length<=16) (ok:∀s,s∈sl->∀p,p∈pl->∀a,a∈l->a.Ok s.1 s.2.1 s.2.2 p.1 p.2 fr) {N:Nat} (zx:0<N) (hN:N<=64) (Io:iq l=N):
  ∀d st,(∃(i:Nat) (rows:List AV),i+d=sl.length/\di cN rows (gE l fr N (sl.take i) pl)/\aT [0,1,2,3,9,10] st=⟨[(0,v),(1,sv),(2,w),(3,aa fr),(9,mO rows),(10,aa i)],nH rows,nC rows,0⟩)->
   ∃ex s',D P L (.loop [0,1,2,3,9,10] Jw) st=some (ex,s')/\∃tm hp ct rows,s'=⟨tm,hp,ct,0⟩/\ex= .exit 0/\di cN rows (gE l fr N sl pl)/\hp=nH rows/\ah tm 9=mO rows:=by
 intro dq sq;generalize bw:aT [0,1,2,3,9,10] sq=s0;revert bw s0 sq dq;apply dn;rintro d st ⟨i,rows,hid,hR,rfl⟩;by_cases hi:i<sl.length
 ·left
  have mJ:=yR hi;have Hb:(gE l fr N (sl.take i) pl).length<=100000:=by
   rw [CG,yQ]
   have:=xB (show min i sl.length<=6 by omega) fm
   omega
  have f0:=as8 h pR nF pT As hv hl hs hw fm hi hb (ok _ mJ) zx hN Io Hb pl.length;have main:∀(q:Option (Ex×St)),(∃ex s',q=some (ex,s')/\∃tm hp ct rows,s'=⟨tm,hp,ct,0⟩/\ex= .exit 2/\di cN rows (gE l fr N (sl.take i) pl++pl.map fun p=>(fC l fr N sl[i] p).map RT)/\hp=nH rows/\ct=nC rows/\ah tm 0=v/\ah tm 1=sv/\ah tm 2=w/\ah tm 3=aa fr/\ah tm 9=mO rows/\ah tm 10=aa i)->
    ∃s' k',iQ P L (mB 1 (iQ P L (mB 2 q) (.kp [0,1,2,3,9,10]))) (.aM [qm 24 10,qa 25 24 1,qm 10 25])=some (.normal,s')/\k'<d/\∃(i:Nat) (rows:List AV),i+k'=sl.length/\di cN rows (gE l fr N (sl.take i) pl)/\aT [0,1,2,3,9,10] s'=⟨[(0,v),(1,sv),(2,w),(3,aa fr),(9,mO rows),(10,aa i)],nH rows,nC rows,0⟩:=by
   rintro q ⟨ex,s',rfl,tm,hp,ct,qZ,rfl,rfl,oW,rfl,rfl,t0,t1,t2,t3,t9,t10⟩;have Mr:di cN qZ (gE l fr N (sl.take (i+1)) pl):=by rw [Z5 hi];exact oW
   cases qZ with
   | nil=>
    simp only [mO,nH,nC] at t9 ⊢;simp only [go_sem,ya,an,t0,t1,t2,t3,t9,t10,ak hv.pu,ao _ hv.pu,ak hs.pu,ao _ hs.pu,ak hw.pu,ao _ hw.pu];refine ⟨_,d-1,rfl,by omega,i+1,[],by omega,Mr,?_⟩
    rw [show (i:Int)+1=((i+1:Nat):Int) from rfl,wrapN (n:=i+1) (by omega)];simp only [go_sem,ya,an,ak hv.pu,ao _ hv.pu,ak hs.pu,ao _ hs.pu,ak hw.pu,ao _ hw.pu]<;>rfl
   | cons a r=>
    simp only [mO,nH,nC] at t9 ⊢;simp only [go_sem,ya,yb,an,t0,t1,t2,t3,t9,t10,ak hv.pu,ao _ hv.pu,ak hs.pu,ao _ hs.pu,ak hw.pu,ao _ hw.pu];refine ⟨_,d-1,rfl,by omega,i+1,a::r,by omega,Mr,?_⟩
    rw [show (i:Int)+1=((i+1:Nat):Int) from rfl,wrapN (n:=i+1) (by omega)];simp only [go_sem,ya,yb,an,ak hv.pu,ao _ hv.pu,ak hs.pu,ao _ hs.pu,ak hw.pu,ao _ hw.pu]<;>rfl
  have aP:∀st',aT [0,1,2,3,9,10,11] st'=⟨[(0,v),(1,sv),(2,w),(3,aa fr),(9,mO rows),(10,aa i),(11,aa ((0:Nat):Int))],nH rows,nC rows,0⟩->_:=fun st' V3=>f0 st' ⟨0,rows,by omega,by simpa using hR,V3⟩
  cases rows
  all_goals
   simp only [go_sem,ya,Jw,hs.len,show (i:Int)<sl.length by omega];generalize hq:D P L (.loop [0,1,2,3,9,10,11] FA) _=q;refine main q ?_;rw [<-hq];refine aP _ ?_;simp only [go_sem,ya,yb,an,ak hv.pu,ao _ hv.pu,ak hs.pu,ao _ hs.pu,ak hw.pu,ao _ hw.pu]<;>rfl
 ·right
  have bL:i=sl.length:=by omega
  subst bL;rw [yp (yr _)] at hR
  all_goals
   simp only [go_sem,ya,Jw,hs.len,show ¬(sl.length:Int)<sl.length by omega,yk];exact ⟨_,_,rfl,by simp,_,_,_,_,rfl,rfl,hR,rfl,by simp only [go_sem,ya]<;>rfl⟩
def axH (h:Rz P L) (pR:Has P L 309 rh) (nF:Has P L 315 sI) (V4:Has P L 325 Pg) (pT:Has P L 331 BJ) (As:Has P L 332 DQ) {v sv w:AV} {l:List Lay} {sl:List cU} {pl:List cV} (hv:dh v l) (hs:er sv sl) (hw:eT w pl) {fr:Int} (hE:nL l sl pl fr=0) {N:Nat} (hN:N<=64) (Io:iq l=N):
  ∃rows,ae P L 325 [v,sv,w,aa fr] (.bW false 1 rows.length rows)/\di cN rows (gE l fr N sl pl):=by
 obtain ⟨l0,l4,s0,CA,p6,p0,Q5,hle,bY⟩:=I8 hE;have lV:∀a,a∈l->0<a.s.length/\a.s.length<=16:=fun a ha=>by
  obtain ⟨a1,a2,_⟩:=CD (Ff (hle a ha)).1;exact ⟨a1,a2⟩
 have X3:=N5 lV l0 l4;have key:=as9 h pR nF pT As hv l4 hs CA hw p6 lV bY (N:=N) (by omega) hN Io sl.length;unfold ae;rw [ay V4];simp only [go_sem,Pg];generalize hq:D P L (.loop [0,1,2,3,9,10] Jw) _=q;obtain ⟨ex,st,rfl,tm,hp,ct,rows,rfl,rfl,hR,rfl,t9⟩:=bD hq key ⟨0,[],by omega,by simpa [gE] using (show di cN [] [] from trivial),by simp only [go_sem,ya,an,mO,nH,nC,ak hv.pu,ao _ hv.pu,ak hs.pu,ao _ hs.pu,ak hw.pu,ao _ hw.pu]<;>rfl⟩
 refine ⟨rows,?_,hR⟩;have hlen:=hR.len;rw [CG] at hlen;have sO:0<sl.length*pl.length:=Nat.mul_pos s0 p0
 cases rows with
 | nil=>simp at hlen;omega
 | cons a r=>
  simp only [go_sem,yb,an,t9];exact oX (nd _ _ _) (by simp) (by decide)
end
end
section
open Go (IntKind)
def di.at {α β:Type} {p:α->β->Prop}:∀{l:List α} {m:List β} {i:Nat},di p l m->∀(h1:i<l.length) (h2:i<m.length),p l[i] m[i]
 | _::_,_::_,0,h,_,_=>h.1
 | _::_,_::_,i+1,h,h1,h2=>di.at (i:=i) h.2 (by simpa using h1) (by simpa using h2)
section
variable {P:aG} {L:Lib}
def axI (h:Rl P L) (KT:Has P L 316 Kv) (V5:Has P L 326 Ph) {e:Bool} {rows:List AV} {Q:List (List Rat)} (hR:di cN rows (Q.map fun r=>r.map RT)) (hl:rows.length<=1000000) (hq:∀r,r∈Q->r.length<=1000000) {K:Nat} (hK:K<=4000000000) (hs:∀r,r∈Q->∀x,x∈r->Hq K x):ae P L 326 [.aJ e rows.length rows] (aa (if Q.any (fun r=>r.any LG)=true then 4 else 0)):=by
 have hlen:rows.length=Q.length:=by have:=hR.len;rwa [yL] at this
 have hv:=CW e rows;have key:=eF (P:=P) (L:=L) (live:=[0,3]) (a:=FB)
  (I:=fun k st=>∃i:Nat,i+k=rows.length/\(Q.take i).any (fun r=>r.any LG)=false/\st=⟨[(0,.aJ e rows.length rows),(3,aa i)],[],0,0⟩)
  (Q:=fun ex st=>∃tm hp ct,st=⟨tm,hp,ct,0⟩/\((ex= .ret/\ah tm 2=aa 4/\Q.any (fun r=>r.any LG)=true)\/(ex= .exit 0/\Q.any (fun r=>r.any LG)=false))) ?_
 ·unfold ae;rw [ay V5];simp only [go_sem,Ph];generalize bK:D P L (.loop [0,3] FB) _=q;obtain ⟨ex,st,rfl,tm,hp,ct,rfl,h2⟩:=bD bK (key rows.length) ⟨0,by omega,by simp,by simp only [go_sem,ya,an,ak hv.pu,ao _ hv.pu]<;>rfl⟩
  rcases h2 with ⟨rfl,h2,h3⟩ | ⟨rfl,h3⟩
  ·simp only [go_sem,h2,h3,xm]
  ·simp only [go_sem,an,h3];rfl
 ·rintro k st ⟨i,hk,hd,rfl⟩;by_cases hi:i<rows.length
  ·have Q8:i<Q.length:=by omega
   have ri:=hR.at hi (by rw [yL];omega);rw [vW] at ri;have e1:=auK h KT ri (hq _ (yR Q8)) (hs _ (yR Q8)) hK;have ev:=hv.aZ hi;unfold ae at e1
   cases hb:(Q[i]).any LG with
   | false=>
    left
    rw [hb,yA (by decide)] at e1;simp only [go_sem,ya,FB,hv.len,show (i:Int)<rows.length by omega,ev,ri.af,e1];refine ⟨_,k-1,rfl,by omega,i+1,by omega,?_,?_⟩
    ·rw [yB Q8,tD,hd,Bool.false_or,tu,hb];rfl
    ·rw [wrap64 (by omega) (by omega)];simp only [go_sem,ya,an,ak hv.pu,ao _ hv.pu]<;>rfl
   | true=>
    right
    rw [hb,yH rfl] at e1;simp only [go_sem,ya,FB,hv.len,show (i:Int)<rows.length by omega,ev,ri.af,e1,vC,yk];exact ⟨_,_,rfl,by simp,_,_,_,rfl,.inl ⟨rfl,by simp only [go_sem],List.any_eq_true.2 ⟨_,yR Q8,hb⟩⟩⟩
  ·right
   simp only [go_sem,ya,FB,hv.len,show ¬(i:Int)<rows.length by omega];refine ⟨_,_,rfl,by simp,_,_,_,rfl,.inr ⟨rfl,?_⟩⟩
   rwa [yp (by omega)] at hd
def a28 (LZ:Has P L 28 P6) (L2:Has P L 29 Lm) {e f:Bool} {u w:List AV} {M:List (List (List Nat))} (hu:di cN u M) (hw:di cN w M) (hl:u.length<=1000000) (hm:∀r,r∈M->r.length<=1000000):ae P L 28 [.aJ e u.length u,.aJ f w.length w] (.bool true):=by
 have l1:=hu.len;have l2:=hw.len;have CC:=CW e u;have Ip:=CW f w;have key:=eF (P:=P) (L:=L) (live:=[0,1,5]) (a:=JO)
  (I:=fun k st=>∃i:Nat,i+k=u.length/\st=⟨[(0,.aJ e u.length u),(1,.aJ f w.length w),(5,aa i)],[],0,0⟩)
  (Q:=fun ex st=>∃tm hp ct,st=⟨tm,hp,ct,0⟩/\ex= .exit 0) ?_
 ·unfold ae;rw [ay LZ];simp only [go_sem,ya,P6,CC.len,Ip.len,show (u.length:Int)=w.length by omega,ym,yJ];generalize bK:D P L (.loop [0,1,5] JO) _=q;obtain ⟨ex,st,rfl,tm,hp,ct,rfl,rfl⟩:=bD bK (key u.length) ⟨0,by omega,by simp only [go_sem,ya,an,ak CC.pu,ao _ CC.pu,ak Ip.pu,ao _ Ip.pu]<;>rfl⟩
  simp only [go_sem,an]
 ·rintro k st ⟨i,hk,rfl⟩;by_cases hi:i<u.length
  ·left
   have r1:=hu.at hi (by omega);have r2:=hw.at (show i<w.length by omega) (by omega);have e1:=a29 L2 r1 r2 (hm _ (yR (by omega)));unfold ae at e1;simp only [go_sem,ya,JO,CC.len,show (i:Int)<u.length by omega,CC.aZ hi,Ip.aZ (show i<w.length by omega),r1.af,r2.af,e1,yJ];refine ⟨_,k-1,rfl,by omega,i+1,by omega,?_⟩;rw [wrap64 (by omega) (by omega)];simp only [go_sem,ya,an,ak CC.pu,ao _ CC.pu,ak Ip.pu,ao _ Ip.pu]<;>rfl
  ·right
   simp only [go_sem,ya,JO,CC.len,show ¬(i:Int)<u.length by omega];exact ⟨_,_,rfl,by simp,_,_,_,rfl,rfl⟩
end
end
section
open Go (IntKind)
noncomputable def V6 (l:List Lay) (sl:List cU) (pl:List cV) (fr:Int):Int:=
 if nL l sl pl fr=0 then (if 64<sl.length*pl.length\/64<iq l then 22 else 0) else nL l sl pl fr
section
variable {P:aG} {L:Lib}
def axJ (h:S0 P L) (h3:Has P L 3 c3) (rK:Has P L 11 ix) (Ev:Has P L 13 jU) (mX:Has P L 30 rC) (KZ:Has P L 258 Kh) (PP:Has P L 323 DO) (PQ:Has P L 324 Kw) (Gz:Has P L 328 Gi) (D5:Has P L 329 DP) (GA:Has P L 330 Gj) (pT:Has P L 331 BJ) (D3:Has P L 335 Gk)
  {v sv w:AV} {l:List Lay} {sl:List cU} {pl:List cV} {fr:Int} (hv:dh v l) (hl:l.length<=1000000) (hf:∀a,a∈l->a.Fit) (hs:er sv sl) (nP:sl.length<=1000000) (rO:∀s,s∈sl->s.1.length<=1000000000/\s.2.1.length<=1000000000/\s.2.2.length<=1000000000) (hw:eT w pl) (fm:pl.length<=1000000) (rG:∀p,p∈pl->p.1.length<=1000000000/\p.2.length<=1000000000):
  ae P L 323 [v,.agg [sv,w,aa fr]] (aa (V6 l sl pl fr)):=by
 have cz:∀{n:Nat} {a:Int},(if decide ((n:Int)=0)=true then a else 0)=if n=0 then a else 0:=fun {n a}=>by
  by_cases q:n=0
  ·rw [yH q,yH (by simp [q])]
  ·rw [yA q,yA (by simp [q])]
 have e1:=W0 Ev (decide ((l.length:Int)=0)) 12;have e2:=axA h h3 mX D3 Gz hv hl hf;obtain ⟨r,e3,hr⟩:=agz PQ hs (by omega);have e4:=axD h D5 hr rO;have e5:=W0 Ev (decide ((pl.length:Int)=0)) 12;have X1:∀a b c d:Int,ae P L 11 [.aJ true 4 [.int .i64 a,.int .i64 b,.int .i64 c,.int .i64 d]] (aa (bn [a,b,c,d])):=fun a b c d=>s11 rK h.Cf (fy true [a,b,c,d]) (by simp)
 have hf3:∀a b c:Int,ae P L 11 [.aJ true 3 [.int .i64 a,.int .i64 b,.int .i64 c]] (aa (bn [a,b,c])):=fun a b c=>s11 rK h.Cf (fy true [a,b,c]) (by simp)
 have e6:=axB h GA hw fm rG;have e7:=axC KZ mX fr;rw [cz] at e1 e5;have e8:=X1 (if l.length=0 then 12 else 0) (nJ l) (GB sl) (if pl.length=0 then 12 else 0);have e9:=hf3 (bn [if l.length=0 then 12 else 0,nJ l,GB sl,if pl.length=0 then 12 else 0]) (sP pl) (nm fr);rw [an5] at e9;have os:=hs.one;have ow:=hw.one;have ps:=hs.pu;have pw:=hw.pu;have d1:∀a b c:AV,xg 1 [a,b,c]=[b,c]:=fun _ _ _=>rfl
 have d2:∀a b c:AV,xg 2 [a,b,c]=[c]:=fun _ _ _=>rfl
 unfold V6;unfold ae at e1 e2 e3 e4 e5 e6 e7 e8 e9;by_cases hE:nL l sl pl fr=0
 ·rw [yH hE];rw [hE] at e9;obtain ⟨l0,l4,s0,CA,p6,p0,Q5,hle,bY⟩:=I8 hE;have lV:∀a,a∈l->0<a.s.length/\a.s.length<=16:=fun a ha=>by
   obtain ⟨a1,a2,_⟩:=CD (Ff (hle a ha)).1;exact ⟨a1,a2⟩
  have eA:=agA pT hv (by omega) (fun a ha=>by have:=(lV a ha).2;omega);have BC:(sl.length:Int)*pl.length=((sl.length*pl.length:Nat):Int):=(xL _ _).symm;have Hc:sl.length*pl.length<=6*256:=xB CA p6;have eB:=fun b=>W0 Ev b 22
  unfold ae at eA eB ⊢;rw [ay PP];by_cases hX:64<sl.length*pl.length
  ·rw [yH (.inl hX)]
   simp only [go_sem,ya,yb,yt,yi,yh,DO,aK,os,ow,ps,pw,aV,yd,d1,d2,yg,fG,hv.len,hv.af,hs.len,hs.af,hw.len,hw.af,e1,e2,e3,hr.af,e4,e5,e6,e7,e8,e9,BC,wrap64 (n:=((sl.length*pl.length:Nat):Int)) (by omega) (by omega),show (64:Int)<((sl.length*pl.length:Nat):Int) by omega,ym,eB,xm]
  ·by_cases hY:64<iq l
   ·rw [yH (.inr hY)]
    simp only [go_sem,ya,yb,yt,yi,yh,DO,aK,os,ow,ps,pw,aV,yd,d1,d2,yg,fG,hv.len,hv.af,hs.len,hs.af,hw.len,hw.af,e1,e2,e3,hr.af,e4,e5,e6,e7,e8,e9,BC,wrap64 (n:=((sl.length*pl.length:Nat):Int)) (by omega) (by omega),show ¬(64:Int)<((sl.length*pl.length:Nat):Int) by omega,eA,hY,ym,yk,eB,xm]
   ·rw [yA (by omega)]
    simp only [go_sem,ya,yb,yt,yi,yh,DO,aK,os,ow,ps,pw,aV,yd,d1,d2,yg,fG,hv.len,hv.af,hs.len,hs.af,hw.len,hw.af,e1,e2,e3,hr.af,e4,e5,e6,e7,e8,e9,BC,wrap64 (n:=((sl.length*pl.length:Nat):Int)) (by omega) (by omega),show ¬(64:Int)<((sl.length*pl.length:Nat):Int) by omega,eA,hY,ym,yk,eB,Bool.false_eq_true,xh]
 ·rw [yA hE];unfold ae;rw [ay PP];simp only [go_sem,ya,yb,yt,yi,yh,DO,aK,os,ow,ps,pw,aV,yd,d1,d2,yg,fG,hv.len,hv.af,hs.af,hw.len,hw.af,e1,e2,e3,hr.af,e4,e5,e6,e7,e8,e9,hE,yk]
end
end
section
open Go (IntKind)
abbrev EK (sv w:AV) (fr:Int):Obj:= .cells true true true 3 [sv,w,aa fr]
def Um (s:cU):Prop:=s.1.length<=40/\s.2.1.length<=40/\s.2.2.length<=40
def JZ (s:cU):Prop:=s.1.length<9223372036854775808/\s.2.1.length<9223372036854775808/\s.2.2.length<9223372036854775808
def Un (p:cV):Prop:=p.1.length<=40/\p.2.length<=40
def Uo (p:cV):Prop:=p.1.length<9223372036854775808/\p.2.length<9223372036854775808
section
variable {P:aG} {L:Lib}
def ata (h:Sr0 P L) {v r w sv:AV} {fr:Int} {sl:List cU} (pv:aU v=true) (pr:aU r=true) (hs:er sv sl) (pw:aU w=true) (hl:sl.length<=1000) (hf:∀s,s∈sl->JZ s):
  ∀d st,(∃i:Nat,i+d=sl.length/\(∀s,s∈sl.take i->Um s)/\aT [0,3,5,66,67] st=⟨[(0,v),(3,.ptr 0 0),(5,r),(66,aa sl.length),(67,aa i)],[(0,EK sv w fr)],1,0⟩)->
   ∃ex s',D P L (.loop [0,3,5,66,67] Fy) st=some (ex,s')/\∃tm hp ct,s'=⟨tm,hp,ct,0⟩/\
    ((ex= .ret/\ah tm 4= .bool true)\/(ex= .exit 0/\(∀s,s∈sl->Um s)/\ah tm 0=v/\ah tm 3= .ptr 0 0/\ah tm 5=r/\hp=[(0,EK sv w fr)]/\ct=1)):=by
 intro dq sq;generalize bw:aT [0,3,5,66,67] sq=s0;revert bw s0 sq dq;apply dn;rintro d st ⟨i,hid,oe,rfl⟩;have os:=hs.one;by_cases hi:i<sl.length
 ·obtain ⟨rest,e1⟩:=hs.aZ hi;obtain ⟨b1,b2,b3⟩:=hf _ (yR hi);have e2:=aw8 h b1 b2 b3;unfold ae at e2
  cases hb:iF [sl[i].1,sl[i].2.1,sl[i].2.2] with
  | false=>
   right
   rw [hb] at e2;simp only [go_sem,ya,Fy,aV,yd,yg,fG,show (i:Int)<sl.length by omega,e1,ru,a8,e2,yI];exact ⟨_,_,rfl,by simp,_,_,_,rfl,.inl ⟨rfl,by simp only [go_sem]⟩⟩
  | true=>
   left
   rw [hb] at e2;simp only [go_sem,ya,Fy,aV,yd,yg,fG,show (i:Int)<sl.length by omega,e1,ru,a8,e2,yJ];refine ⟨_,d-1,rfl,by omega,i+1,by omega,fun s hs=>?_,?_⟩
   ·rw [yB hi] at hs;rcases wH.1 hs with hs | hs
    ·exact oe s hs
    ·rw [wT.1 hs];exact asY hb
   ·rw [show (i:Int)+1=((i+1:Nat):Int) from rfl,wrapN (n:=i+1) (by omega)];simp only [go_sem,ya,yb,an,ak pv,ao _ pv,ak pr,ao _ pr]<;>rfl
 ·right
  have bL:i=sl.length:=by omega
  subst bL;rw [yp (yr _)] at oe;simp only [go_sem,ya,Fy,show ¬(sl.length:Int)<sl.length by omega,yk];exact ⟨_,_,rfl,by simp,_,_,_,rfl,.inr ⟨rfl,oe,by simp only [go_sem,ya],by simp only [go_sem,ya],by simp only [go_sem,ya],rfl,rfl⟩⟩
def atb (Ap:Has P L 305 DM) {v r w sv:AV} {fr:Int} {pl:List cV} (pv:aU v=true) (pr:aU r=true) (hw:eT w pl) (ps:aU sv=true) (hl:pl.length<=1000) (hf:∀p,p∈pl->Uo p):
  ∀d st,(∃i:Nat,i+d=pl.length/\(∀s,s∈pl.take i->Un s)/\aT [0,3,5,80,81] st=⟨[(0,v),(3,.ptr 0 0),(5,r),(80,aa pl.length),(81,aa i)],[(0,EK sv w fr)],1,0⟩)->
   ∃ex s',D P L (.loop [0,3,5,80,81] Fz) st=some (ex,s')/\∃tm hp ct,s'=⟨tm,hp,ct,0⟩/\
    ((ex= .ret/\ah tm 4= .bool true)\/(ex= .exit 2/\(∀s,s∈pl->Un s)/\ah tm 0=v/\ah tm 3= .ptr 0 0/\ah tm 5=r/\hp=[(0,EK sv w fr)]/\ct=1)):=by
 intro dq sq;generalize bw:aT [0,3,5,80,81] sq=s0;revert bw s0 sq dq;apply dn;rintro d st ⟨i,hid,oe,rfl⟩;have ow:=hw.one;have d1:∀a b c:AV,xg 1 [a,b,c]=[b,c]:=fun _ _ _=>rfl
 have o1:∀(a:AV) (cs:List AV),Dr 1 (.aQ (a::cs))=some (.aQ cs):=fun _ _=>rfl
 by_cases hi:i<pl.length
 ·obtain ⟨rest,e1⟩:=hw.aZ hi;obtain ⟨b1,b2⟩:=hf _ (yR hi);have e2:=VM Ap (Fe true [pl[i].1,pl[i].2]) (by simp) (fun t ht=>by
   simp at ht
   rcases ht with rfl | rfl<;>omega)
  simp only [yC,yK,yd,yb,yV,List.map_nil] at e2;unfold ae at e2
  cases hb:iF [pl[i].1,pl[i].2] with
  | false=>
   right
   rw [hb] at e2;simp only [go_sem,ya,yb,yt,yi,yh,Fz,aV,TM,o1,yd,d1,fG,show (i:Int)<pl.length by omega,e1,e2,yI];exact ⟨_,_,rfl,by simp,_,_,_,rfl,.inl ⟨rfl,by simp only [go_sem]⟩⟩
  | true=>
   left
   rw [hb] at e2;simp only [go_sem,ya,yb,yt,yi,yh,Fz,aV,TM,o1,yd,d1,fG,show (i:Int)<pl.length by omega,e1,e2,yJ];refine ⟨_,d-1,rfl,by omega,i+1,by omega,fun s hs=>?_,?_⟩
   ·rw [yB hi] at hs;rcases wH.1 hs with hs | hs
    ·exact oe s hs
    ·rw [wT.1 hs];exact asZ hb
   ·rw [show (i:Int)+1=((i+1:Nat):Int) from rfl,wrapN (n:=i+1) (by omega)];simp only [go_sem,ya,yb,an,ak pv,ao _ pv,ak pr,ao _ pr]<;>rfl
 ·right
  have bL:i=pl.length:=by omega
  subst bL;rw [yp (yr _)] at oe;simp only [go_sem,ya,Fz,show ¬(pl.length:Int)<pl.length by omega,yk];exact ⟨_,_,rfl,by simp,_,_,_,rfl,.inr ⟨rfl,oe,by simp only [go_sem,ya],by simp only [go_sem,ya],by simp only [go_sem,ya],rfl,rfl⟩⟩
end
end
section
open Go (IntKind)
structure Iz (P:aG) (L:Lib):Prop where
 r:Rz P L
 p:Mtx P L
 h2:Has P L 2 c2
 rK:Has P L 11 ix
 Ev:Has P L 13 jU
 LZ:Has P L 28 P6
 L2:Has P L 29 Lm
 KZ:Has P L 258 Kh
 pR:Has P L 309 rh
 nF:Has P L 315 sI
 KT:Has P L 316 Kv
 axK:Has P L 320 eI
 axL:Has P L 321 Pf
 axM:Has P L 322 DN
 PP:Has P L 323 DO
 PQ:Has P L 324 Kw
 V4:Has P L 325 Pg
 V5:Has P L 326 Ph
 KX:Has P L 327 Gh
 Gz:Has P L 328 Gi
 D5:Has P L 329 DP
 GA:Has P L 330 Gj
 pT:Has P L 331 BJ
 As:Has P L 332 DQ
 auZ:ae P L 1 [] (.bool true)
noncomputable def GC (l:List Lay) (fr:Int) (N:Nat) (sl:List cU) (pl:List cV):List (List Rat):=(sl.map fun s=>pl.map fun p=>fC l fr N s p).flatten
def Sd {l:List Lay} {fr:Int} {N:Nat} {pl:List cV}:∀(sl:List cU),gE l fr N sl pl=(GC l fr N sl pl).map fun r=>r.map RT
 | []=>rfl
 | s::sl=>by
  have ih:=Sd (l:=l) (fr:=fr) (N:=N) (pl:=pl) sl;unfold gE GC at*
  rw [yV,xT,ih,yV,xT,xq];simp [Ns]
def aa2 {l:List Lay} {fr:Int} {N:Nat} {pl:List cV}:∀(sl:List cU),(GC l fr N sl pl).any (fun r=>r.any LG)=sl.any (pE l fr N pl)
 | []=>rfl
 | s::sl=>by
  have ih:=aa2 (l:=l) (fr:=fr) (N:=N) (pl:=pl) sl;unfold GC at*
  rw [yV,xT,tD,ih,tu]
  congr 1
  simp [pE,List.any_map];rfl
def SH {l:List Lay} {fr:Int} {N:Nat} {pl:List cV} {sl:List cU} {r:List Rat} (h:r∈GC l fr N sl pl):∃s,s∈sl/\∃p,p∈pl/\r=fC l fr N s p:=by
 unfold GC at h;obtain ⟨a,h1,h2⟩:=List.mem_flatten.1 h;obtain ⟨s,hs,rfl⟩:=wb.1 h1;obtain ⟨p,hp,rfl⟩:=wb.1 h2;exact ⟨s,hs,p,hp,rfl⟩
section
variable {P:aG} {L:Lib}
def an7 (h:Iz P L) {v r w sv:AV} {l:List Lay} {sl:List cU} {pl:List cV} {fr:Int} (hv:dh v l) (hl:l.length<=1000000) (hr:dh r l) (hf:∀a,a∈l->a.Fit) (hs:er sv sl) (nP:sl.length<=1000) (rO:∀s,s∈sl->Um s) (hw:eT w pl) (fm:pl.length<=1000) (rG:∀p,p∈pl->Un p):
  fj [.t 4] (D P L (kG 4 eI.body) ⟨[(0,v),(3,.ptr 0 0),(5,r)],[(0,EK sv w fr)],1,0⟩)=some (.bool true):=by
 have sf:∀s,s∈sl->s.1.length<=1000000000/\s.2.1.length<=1000000000/\s.2.2.length<=1000000000:=fun s hs=>by obtain ⟨a,b,c⟩:=rO s hs;omega
 have pf:∀p,p∈pl->p.1.length<=1000000000/\p.2.length<=1000000000:=fun p hp=>by obtain ⟨a,b⟩:=rG p hp;omega
 obtain ⟨m1,m2,m3⟩:=m26 h.p (fr:=fr) hv hl hf hs (by omega) sf hw (by omega) pf;have e2:=axJ h.r.toS0 h.r.h3 h.rK h.Ev h.r.mX h.KZ h.PP h.PQ h.Gz h.D5 h.GA h.pT h.r.D3 (fr:=fr) hr hl hf hs (by omega) sf hw (by omega) pf;have os:=hs.one;have ow:=hw.one;have ps:=hs.pu;have pw:=hw.pu;have d1:∀a b c:AV,xg 1 [a,b,c]=[b,c]:=fun _ _ _=>rfl
 have d2:∀a b c:AV,xg 2 [a,b,c]=[c]:=fun _ _ _=>rfl
 show fj [.t 4] (D P L (kG 4 eI.body) _)=_
 unfold V6 at e2;by_cases hE:nL l sl pl fr=0
 ·rw [yH hE] at e2;by_cases hX:64<sl.length*pl.length\/64<iq l
  ·rw [yH hX] at e2;have e1:=m2 hE hX.symm;unfold ae at e1 e2;simp only [go_sem,ya,eI,kG,aw,aV,yd,yg,d1,d2,fG,jI,a8,hv.af,hr.af,hs.af,hw.af,e1,rV,e2,vC,ym,yk,yI]
  ·rw [yA hX] at e2;obtain ⟨k1,k2⟩:=m3 hE (by omega) (by omega);obtain ⟨l0,l4,s0,CA,p6,p0,Q5,hle,bY⟩:=I8 hE;have lV:∀a,a∈l->0<a.s.length/\a.s.length<=16:=fun a ha=>by
    obtain ⟨a1,a2,_⟩:=CD (Ff (hle a ha)).1;exact ⟨a1,a2⟩
   have X3:=N5 lV l0 l4;obtain ⟨N,hN⟩:∃N:Nat,iq l=N:=⟨(iq l).toNat,(Int.toNat_of_nonneg (by omega)).symm⟩;rw [hN,Int.toNat_natCast] at k1 k2;obtain ⟨r3,e3,X5⟩:=agz h.PQ hs (by omega);obtain ⟨rows,e4,hR⟩:=axH h.r h.pR h.nF h.V4 h.pT h.As hr X5 hw hE (N:=N) (by omega) hN;have hlen:=hR.len;rw [CG] at hlen;have hb:rows.length<=1000000:=by omega
   rw [Sd] at hR;have e5:=axI h.r.toSr0.toRl h.KT h.V5 (e:=false) hR hb (fun r hr=>by
    obtain ⟨s,_,p,_,rfl⟩:=SH hr;unfold fC;rw [CR];omega) (K:=1700000) (by decide) (fun r hr x hx=>by
    obtain ⟨s,lJ,p,ap,rfl⟩:=SH hr;unfold fC nK at hx;obtain ⟨q,_,rfl⟩:=wb.1 hx
    have:=N4 l4 (bY s lJ p ap) l.length (yr _) (q:Int)
    rw [yp (yr _)] at this
    exact this.mono (by omega))
   rw [aa2] at e5
   cases hA:sl.any (pE l fr N pl) with
   | true=>
    have e1:=k1 hA;rw [hA,yH rfl] at e5;unfold ae at e1 e2 e3 e4 e5;simp only [go_sem,ya,eI,kG,aw,aV,yd,yg,d1,d2,fG,jI,a8,hv.af,hr.af,hs.af,hw.af,X5.af,e1,rV,e2,e3,e4,E3,e5,vC,ym,yk,yI]
   | false=>
    obtain ⟨qZ,oW,e1⟩:=k2 hA;have JU:=oW.len;rw [CG] at JU;rw [Sd] at oW;rw [hA,yA (by decide)] at e5;have e6:=a28 h.LZ h.L2 (e:=false) (f:=false) oW hR (by omega) (fun r hr=>by
     obtain ⟨q,hq,rfl⟩:=wb.1 hr;obtain ⟨s,_,p,_,rfl⟩:=SH hq
     unfold fC;rw [yL,CR];omega)
    unfold ae at e1 e2 e3 e4 e5 e6;simp only [go_sem,ya,eI,kG,aw,aV,yd,yg,d1,d2,fG,jI,a8,hv.af,hr.af,hs.af,hw.af,X5.af,e1,rV,e2,e3,e4,E3,e5,e6,ym,yJ]
 ·rw [yA hE] at e2;have e1:=m1 hE;unfold ae at e1 e2;simp only [go_sem,ya,eI,kG,aw,aV,yd,yg,d1,d2,fG,jI,a8,hv.af,hr.af,hs.af,hw.af,e1,rV,e2,hE,ym,yk,yI]
end
end
section
open Go (IntKind)
def alL {n:Nat} {l:List Lay} (h:Fh n l=true):l.length<=6/\∀a,a∈l->a.Fit:=by
 unfold Fh at h
 split at h
 ·grind
 ·rename_i hc;refine ⟨by omega,fun a ha=>?_⟩
  have:=List.all_eq_true.1 h a ha
  obtain ⟨h1,h2⟩:=Bool.and_eq_true_iff.1 this;obtain ⟨s1,s2⟩:=alJ h1;obtain ⟨l1,l2,l3,l4,l5,l6,l7⟩:=as0 h2
  exact ⟨by omega,fun i hi=>by have:=s2 i hi;omega,by omega,by omega,by omega,by omega,by omega,by omega,by omega⟩
section
variable {P:aG} {L:Lib}
def aqm (h:Iz P L) {v r w sv:AV} {l:List Lay} {sl:List cU} {pl:List cV} {fr:Int} (hv:dh v l) (hl:l.length<=1000000) (hr:dh r l) (hf:∀a,a∈l->a.Fit) (hs:er sv sl) (nP:sl.length<=1000) (rO:∀s,s∈sl->JZ s) (hw:eT w pl) (fm:pl.length<=1000) (rG:∀p,p∈pl->Uo p) {tm:Env} (t0:ah tm 0=v) (t3:ah tm 3= .ptr 0 0) (t5:ah tm 5=r):
  fj [.t 4] (D P L (kG 2 eI.body) ⟨tm,[(0,EK sv w fr)],1,0⟩)=some (.bool true):=by
 have tail:=fun a b=>an7 h (fr:=fr) hv hl hr hf hs nP a hw fm b
 have k0:=ata h.r.toSr0 (r:=r) (fr:=fr) hv.pu hr.pu hs hw.pu nP rO sl.length;have k1:=atb h.r.toSr0.Ap (r:=r) (fr:=fr) hv.pu hr.pu hw hs.pu fm rG pl.length;have d1:∀a b c:AV,xg 1 [a,b,c]=[b,c]:=fun _ _ _=>rfl
 rw [show kG 2 eI.body= .seq (bk (kG 2 eI.body)) (.seq (bk (kG 3 eI.body)) (kG 4 eI.body)) from rfl];generalize kG 4 eI.body=T at tail ⊢;simp only [go_sem,eI,kG,aw,bk,aV,yd,yg,fG,hs.len,t3];generalize hq:D P L (.loop [0,3,5,66,67] Fy) _=q;obtain ⟨ex,st,rfl,tm,hp,ct,rfl,hd⟩:=bD hq k0 ⟨0,by omega,by simp,by simp only [go_sem,ya,yb,an,t0,t3,t5,ak hv.pu,ao _ hv.pu,ak hr.pu,ao _ hr.pu]<;>rfl⟩
 rcases hd with ⟨rfl,t4⟩ | ⟨rfl,hA,u0,u3,u5,rfl,rfl⟩
 ·simp only [go_sem,t4]
 ·simp only [go_sem,ya,an,u0,u3,u5,aV,yd,d1,fG,hw.len,ak hv.pu,ao _ hv.pu,ak hr.pu,ao _ hr.pu];generalize hq:D P L (.loop [0,3,5,80,81] Fz) _=q;obtain ⟨ex,st,rfl,tm,hp,ct,rfl,hd⟩:=bD hq k1 ⟨0,by omega,by simp,by simp only [go_sem,ya,yb,an,ak hv.pu,ao _ hv.pu,ak hr.pu,ao _ hr.pu]<;>rfl⟩
  rcases hd with ⟨rfl,t4⟩ | ⟨rfl,hB,y0,y3,y5,rfl,rfl⟩
  ·simp only [go_sem,t4]
  ·have:=tail hA hB
   simp only [go_sem,yb,an,y0,y3,y5,ak hv.pu,ao _ hv.pu,ak hr.pu,ao _ hr.pu];exact this
def aiI (h:Iz P L) {v w sv:AV} {l:List Lay} {sl:List cU} {pl:List cV} {fr:Int} (hv:dh v l) (hlen:∀a,a∈l->a.PO) (jB:l.length<=1500000) (hs:er sv sl) (rO:∀s,s∈sl->JZ s) (hw:eT w pl) (rG:∀p,p∈pl->Uo p):
  ae P L 320 [v,.agg [sv,w,aa fr]] (.bool true):=by
 have ea:=h.auZ;obtain ⟨r,e0,hr⟩:=axx h.axL hv jB;have eg:=axy h.axM h.h2 h.r.toSr0.Ap h.KX hr hlen 9;have eg:ae P L 322 [shut r,.int .i64 9] (.bool (Fh 9 l)):=eg;have os:=hs.one;have ow:=hw.one;have ps:=hs.pu;have pw:=hw.pu;have d1:∀a b c:AV,xg 1 [a,b,c]=[b,c]:=fun _ _ _=>rfl
 unfold ae at ea e0 eg ⊢;rw [ay h.axK];show fj [.t 4] (D P L eI.body ⟨[(0,v),(1,.agg [sv,w,aa fr])],[],0,0⟩)=_
 rw [abO 2 (c:=eI.body) (by refine ⟨rfl,rfl,?_⟩;show _=_;rfl)]
 have bad:∀{tm:Env} {hp:Hp} {ct:Nat},D P L (ik 2 eI.body) ⟨[(0,v),(1,.agg [sv,w,aa fr])],[],0,0⟩=some (.ret,⟨tm,hp,ct,0⟩)->ah tm 4= .bool true->fj [.t 4] (iQ P L (D P L (ik 2 eI.body) ⟨[(0,v),(1,.agg [sv,w,aa fr])],[],0,0⟩) (kG 2 eI.body))=some (.bool true):=fun e t4=>by
  rw [e];simp only [go_sem,t4]
 cases jS:Fh 9 l with
 | false=>
  rw [jS] at eg;refine bad (by simp only [go_sem,ya,yb,eI,ik,bk,aw,os,ow,ps,pw,aK,yd,hv.af,hr.af,e0,ea,eg,yJ,yI]<;>rfl) (by simp only [go_sem])
 | true=>
  rw [jS] at eg;obtain ⟨hl,oe⟩:=alL jS;have iH:∀{tm:Env},sl.length<=1000->pl.length<=1000->D P L (ik 2 eI.body) ⟨[(0,v),(1,.agg [sv,w,aa fr])],[],0,0⟩=some (.normal,⟨tm,[(0,EK sv w fr)],1,0⟩)->ah tm 0=v->ah tm 3= .ptr 0 0->ah tm 5=shut r->fj [.t 4] (iQ P L (D P L (ik 2 eI.body) ⟨[(0,v),(1,.agg [sv,w,aa fr])],[],0,0⟩) (kG 2 eI.body))=some (.bool true):=fun a b e t0 t3 t5=>by
   rw [e,gD];exact aqm h hv (by omega) hr oe hs a rO hw b rG t0 t3 t5
  by_cases c1:sl.length<=3
  ·by_cases q1:pl.length<=8
   ·exact iH (by omega) (by omega) (by simp only [go_sem,ya,yb,eI,ik,bk,aw,os,ow,ps,pw,aK,aV,yd,yg,d1,fG,hv.af,hs.len,hw.len,hr.af,e0,ea,eg,show ¬(3:Int)<sl.length by omega,show ¬(8:Int)<sl.length by omega,show ¬(8:Int)<pl.length by omega,show ¬(258:Int)<pl.length by omega,yk,yJ]<;>rfl) (by simp only [go_sem,ya]) (by simp only [go_sem,ya]) (by simp only [go_sem,ya])
   ·by_cases q2:pl.length=65
    ·exact iH (by omega) (by omega) (by simp only [go_sem,ya,yb,eI,ik,bk,aw,os,ow,ps,pw,aK,aV,yd,yg,d1,fG,hv.af,hs.len,hw.len,hr.af,e0,ea,eg,show ¬(3:Int)<sl.length by omega,show ¬(8:Int)<sl.length by omega,show (pl.length:Int)=65 by omega,yaE,ym,yk,yJ]<;>rfl) (by simp only [go_sem,ya]) (by simp only [go_sem,ya]) (by simp only [go_sem,ya])
    ·by_cases q3:pl.length<=256
     ·exact bad (by simp only [go_sem,ya,yb,eI,ik,bk,aw,os,ow,ps,pw,aK,aV,yd,yg,d1,fG,hv.af,hs.len,hw.len,hr.af,e0,ea,eg,show ¬(3:Int)<sl.length by omega,show ¬(8:Int)<sl.length by omega,show (8:Int)<pl.length by omega,show ¬(pl.length:Int)=65 by omega,show (pl.length:Int)<=256 by omega,ym,yk,yJ,yI]<;>rfl) (by simp only [go_sem])
     ·by_cases q4:pl.length<=258
      ·exact iH (by omega) (by omega) (by simp only [go_sem,ya,yb,eI,ik,bk,aw,os,ow,ps,pw,aK,aV,yd,yg,d1,fG,hv.af,hs.len,hw.len,hr.af,e0,ea,eg,show ¬(3:Int)<sl.length by omega,show ¬(8:Int)<sl.length by omega,show (8:Int)<pl.length by omega,show ¬(pl.length:Int)=65 by omega,show ¬(pl.length:Int)<=256 by omega,show ¬(258:Int)<pl.length by omega,ym,yk,yJ,yI]<;>rfl) (by simp only [go_sem,ya]) (by simp only [go_sem,ya]) (by simp only [go_sem,ya])
      ·exact bad (by simp only [go_sem,ya,yb,eI,ik,bk,aw,os,ow,ps,pw,aK,aV,yd,yg,d1,fG,hv.af,hs.len,hw.len,hr.af,e0,ea,eg,show ¬(3:Int)<sl.length by omega,show ¬(8:Int)<sl.length by omega,show (8:Int)<pl.length by omega,show ¬(pl.length:Int)=65 by omega,show ¬(pl.length:Int)<=256 by omega,show (258:Int)<pl.length by omega,ym,yk,yJ,yI]<;>rfl) (by simp only [go_sem])
  ·by_cases c2:sl.length<=6
   ·exact bad (by simp only [go_sem,ya,yb,eI,ik,bk,aw,os,ow,ps,pw,aK,aV,yd,yg,fG,hv.af,hs.len,hr.af,e0,ea,eg,show (3:Int)<sl.length by omega,show (sl.length:Int)<=6 by omega,ym,yJ]<;>rfl) (by simp only [go_sem])
   ·by_cases c3:sl.length<=8
    ·by_cases q1:pl.length<=8
     ·exact iH (by omega) (by omega) (by simp only [go_sem,ya,yb,eI,ik,bk,aw,os,ow,ps,pw,aK,aV,yd,yg,d1,fG,hv.af,hs.len,hw.len,hr.af,e0,ea,eg,show (3:Int)<sl.length by omega,show ¬(sl.length:Int)<=6 by omega,show ¬(8:Int)<sl.length by omega,show ¬(8:Int)<pl.length by omega,show ¬(258:Int)<pl.length by omega,ym,yk,yJ]<;>rfl) (by simp only [go_sem,ya]) (by simp only [go_sem,ya]) (by simp only [go_sem,ya])
     ·by_cases q2:pl.length=65
      ·exact iH (by omega) (by omega) (by simp only [go_sem,ya,yb,eI,ik,bk,aw,os,ow,ps,pw,aK,aV,yd,yg,d1,fG,hv.af,hs.len,hw.len,hr.af,e0,ea,eg,show (3:Int)<sl.length by omega,show ¬(sl.length:Int)<=6 by omega,show ¬(8:Int)<sl.length by omega,show (pl.length:Int)=65 by omega,yaE,ym,yk,yJ]<;>rfl) (by simp only [go_sem,ya]) (by simp only [go_sem,ya]) (by simp only [go_sem,ya])
      ·by_cases q3:pl.length<=256
       ·exact bad (by simp only [go_sem,ya,yb,eI,ik,bk,aw,os,ow,ps,pw,aK,aV,yd,yg,d1,fG,hv.af,hs.len,hw.len,hr.af,e0,ea,eg,show (3:Int)<sl.length by omega,show ¬(sl.length:Int)<=6 by omega,show ¬(8:Int)<sl.length by omega,show (8:Int)<pl.length by omega,show ¬(pl.length:Int)=65 by omega,show (pl.length:Int)<=256 by omega,ym,yk,yJ,yI]<;>rfl) (by simp only [go_sem])
       ·by_cases q4:pl.length<=258
        ·exact iH (by omega) (by omega) (by simp only [go_sem,ya,yb,eI,ik,bk,aw,os,ow,ps,pw,aK,aV,yd,yg,d1,fG,hv.af,hs.len,hw.len,hr.af,e0,ea,eg,show (3:Int)<sl.length by omega,show ¬(sl.length:Int)<=6 by omega,show ¬(8:Int)<sl.length by omega,show (8:Int)<pl.length by omega,show ¬(pl.length:Int)=65 by omega,show ¬(pl.length:Int)<=256 by omega,show ¬(258:Int)<pl.length by omega,ym,yk,yJ,yI]<;>rfl) (by simp only [go_sem,ya]) (by simp only [go_sem,ya]) (by simp only [go_sem,ya])
        ·exact bad (by simp only [go_sem,ya,yb,eI,ik,bk,aw,os,ow,ps,pw,aK,aV,yd,yg,d1,fG,hv.af,hs.len,hw.len,hr.af,e0,ea,eg,show (3:Int)<sl.length by omega,show ¬(sl.length:Int)<=6 by omega,show ¬(8:Int)<sl.length by omega,show (8:Int)<pl.length by omega,show ¬(pl.length:Int)=65 by omega,show ¬(pl.length:Int)<=256 by omega,show (258:Int)<pl.length by omega,ym,yk,yJ,yI]<;>rfl) (by simp only [go_sem])
    ·exact bad (by simp only [go_sem,ya,yb,eI,ik,bk,aw,os,ow,ps,pw,aK,aV,yd,yg,fG,hv.af,hs.len,hr.af,e0,ea,eg,show (3:Int)<sl.length by omega,show ¬(sl.length:Int)<=6 by omega,show (8:Int)<sl.length by omega,ym,yk,yJ]<;>rfl) (by simp only [go_sem])
end
end
section
open Go (IntKind)
abbrev au0:Ty:= .cat (.sl Ot) (.cat (.sl Dn) (.cat (.int .i64) .nil))
abbrev A0:List Ty:=[.sl NZ,au0]
def Z7:∀{ps:List (List AV)},(∀p,p∈ps->iz Ot p)->∃l:List cU,ps=l.map sQ/\∀p,p∈l->JZ p
 | [],_=>⟨[],rfl,(fun _ h=>by cases h)⟩
 | p::ps,h=>by
  obtain ⟨x,y,z,rfl,hx,hy,hz⟩:=anF (h p wA);obtain ⟨l,h1,h2⟩:=Z7 (ps:=ps) (fun q hq=>h q (xS _ hq));refine ⟨(x,y,z)::l,by rw [h1];rfl,fun q hq=>?_⟩
  rcases List.mem_cons.1 hq with rfl | hq
  ·exact ⟨hx,hy,hz⟩
  ·exact h2 q hq
def aqn {l:List AV} (h:iz (.sl Ot) l):∃(v:AV) (m:List cU),l=[v]/\er v m/\∀p,p∈m->JZ p:=by
 rcases h with rfl | ⟨x,ps,rfl,h⟩
 ·exact ⟨_,[],rfl,IX,fun _ h=>by cases h⟩
 ·obtain ⟨m,rfl,h2⟩:=Z7 h
  exact ⟨_,m,rfl,Fg x (fun p hp=>by obtain ⟨a,_,rfl⟩:=wb.1 hp;rfl),h2⟩
def aiw {P:aG} {L:Lib} (h:Iz P L) {ls:List (List AV)} (hs:di iz A0 ls) (hB:∀x k cs,(BA A0 ls).head? =some (.aJ x k cs)->k<=1048576):ae P L 320 (BA A0 ls) (.bool true):=by
 obtain ⟨_,_,rfl,h1,h2⟩:=asA hs;obtain ⟨v,m,rfl,hv,hm⟩:=aqi h1;obtain ⟨_,_,rfl,k1,_,_,rfl,k2,_,_,rfl,⟨fr,rfl,_⟩,rfl⟩:=h2;obtain ⟨sv,sl,rfl,XK,nP⟩:=aqn k1;obtain ⟨w,pl,rfl,hw,fm⟩:=aqj k2;have hl:m.length<=1500000:=by
  rcases hv.1.1 with ⟨_,e⟩ | ⟨b,e⟩
  ·have:=congrArg List.length e
   simp only [yL,yK] at this;omega
  ·have:=hB b (m.map Lay.cs).length (m.map Lay.cs).flatten (by rw [<-e];rfl)
   rw [yL] at this;omega
 exact aiI h hv hm hl XK nP hw fm
end
section
namespace J2
open Go Go.Proofs
def T:List (Tr aF):=[.n 1 [.o 7 [] (.bool true)] .l .l]
def L0:VE.Lib:=TE VE.aW 99 NM
def L1:VE.Lib:=Pm L0 T 1000
def nu:Nu VE.prog VE.aW:=by
 repeat' (first | rfl | constructor)
def lw:Iz VE.prog L1:=by
 repeat' (first | rfl | constructor)
section
variable {W:World} {m:Int} (hm:W.cell? ⟨2,0,none⟩=some (.int .i64 m)) (ht:Go.Lib.TabIs Tryz.prog W "internal/strconv.uint64pow10" .u64 Go.Lib.pow10Tab)
include hm ht
def linked:eM ((J1.O W).zJ L1):=by
 have hO:=J1.aoI hm ht;have hs:=alw hO nu rfl rfl rfl ⟨rfl,rfl,rfl⟩ (fn:=Tryz.f142) (c:=BT) Tryz.func142 rfl rfl trivial anC;have hT:eP (J1.O W) T:=eP.cons (Tr.lf (lB.one (VK1.holds hO rfl rfl)) Tr.jK Tr.jK) eP.nil;exact abo (alx hO hs) hT 1000
def law {ls:List (List AV)} (hs:di iz A0 ls) (hB:∀x k cs,(BA A0 ls).head? =some (.aJ x k cs)->k<=1048576):eS (J1.O W) 320 (BA A0 ls) (.bool true):=by
 obtain ⟨k,hk⟩:=adj (aiw lw hs hB);exact sound (linked hm ht) hk
end
end J2
end
section
open Go
def aqo {H:Type} {P:Program} {n:Nat} {t e:TypeId} {d:DataW H} {x:Bool} {k:Nat} {cs:List AV} (hu:P.underlying t=some (.slice e)) (h:kB P (n+1) t d= .aJ x k cs):∃el sp,d= .slice el sp/\k=el.length:=by
 unfold kB at h;rw [hu] at h;simp only at h
 cases d with
 | slice el sp=>
  simp only [cA,hu,List.headD_cons,AV.aJ.injEq] at h;exact ⟨el,sp,rfl,h.2.1.symm⟩
 | nil=>simp [cA,hu] at h
 | lit l=>cases l<;>simp [cA,hu] at h
 | ptr d=>simp [cA,hu] at h
 | agg parts=>simp [cA,hu] at h
 | iface t d=>simp [cA,hu] at h
 | map entries=>simp [cA,hu] at h
 | held hh=>simp [cA,hu] at h
end
end VE
