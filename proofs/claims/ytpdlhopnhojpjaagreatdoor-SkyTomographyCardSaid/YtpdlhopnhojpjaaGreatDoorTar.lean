import Derived.Test.YtpdlhopnhojpjaaGreatDoorTaq
import Derived.Test.YtpdlhopnhojpjaaGreatDoorTap
import Derived.Test.YtpdlhopnhojpjaaGreatDoorTao
import Derived.Test.YtpdlhopnhojpjaaGreatDoorTaj
import Derived.Test.YtpdlhopnhojpjaaGreatDoorTam
import Derived.Test.YtpdlhopnhojpjaaGreatDoorTan
set_option linter.all false
set_option maxRecDepth 100000
open Bool renaming and_eq_true_iff→tc,false_and→wE,false_or→vL,not_false→yU,not_not→ybP,not_true→yR,true_and→wK
open List renaming all_cons→yaJ,all_eq_true→uF,drop_eq_getElem_cons→yP,drop_length→ta,ext_getElem→uE,getElem_map→yX,getElem_mem→yE,getElem_range→vl,length_append→yG,length_map→yk,length_range→tV
open Nat renaming le_refl→yq,mul_one→yh,reduceAdd→yd,reduceEqDiff→ya,reduceLT→yJ,reduceLeDiff→yp
open Rat renaming add_zero→ybV
namespace VE
open Go (IntKind)
def awu {w:Nat} {A B:Mx} (hl:A.length=B.length) (ha:wid w A) (hb:wid w B) (h:∀i c,i<A.length->c<w->E A i c=E B i c):A=B:=by
 refine uE hl (fun i h1 h2=>?_);have wa:=ha i h1;have wb:=hb i h2;rw [cm h1] at wa;rw [cm h2] at wb;refine uE (by omega) (fun c h3 h4=>?_)
 have:=h i c h1 (by omega)
 unfold E at this
 rwa [cm h1,cm h2,db h3,db h4] at this
def Gx {w:Nat} {R:Mx} {b:List Rat} (hw:wid w R) (lb:b.length=R.length) {i:Nat} (hi:i<R.length) {j:Nat} (hj:j<w+1):E (bQ R b) i j=if j<w then E R i j else aW b i:=by
 have wi:=hw i hi;rw [cm hi] at wi;unfold E;rw [cm (by rw [nY lb];exact hi),cm hi,JM hi (by omega)]
 split
 ·rw [db (by rw [yG];omega),db (by omega),List.getElem_append_left (by omega)]
 ·rw [db (by rw [yG];simp;omega),db (by omega),List.getElem_append_right (by omega)]
  simp
def Vi {R:Mx} {w:Nat} {ld:Rat} (hw:wid w R) {i k:Nat} (hi:i<R.length) (hk:k<R.length):E (fw R ld) i k=sm (fun c=>E R i c*E R k c) w+if i=k then ld else 0:=by
 have e:E (fw R ld) i k=Br R ld i k:=by
  unfold E;rw [cm (by rw [j0];exact hi)]
  have:(fw R ld)[i]'(by rw [j0];exact hi)=p7 R ld i:=by simp [fw]
  rw [this,db (by rw [DB];exact hk)]
  simp [p7]
 rw [e];unfold Br;rw [hw i hi,O5]
 split
 ·rfl
 ·rw [ybV];rfl
def UG {R:Mx} {w:Nat} {ld:Rat} {i c:Nat} (hi:i<w) (hc:c<w):E (gC R w ld) i c=sm (fun k=>E R k i*E R k c) R.length+if i=c then ld else 0:=by
 have lT:=mY R w;have e1:=KV ld (Tt (cC R w) R w) (by rw [Tu,lT]) hi hc w (yq w);have e2:=awk (A:=cC R w) (B:=R) (w:=w) (i:=i) (c:=c) (by omega) hc;rw [OO R w i (by omega)] at e2
 rw [ep (g:=fun k=>E R k i*E R k c) (fun k hk=>by rw [Vf hi hk])] at e2;unfold gC;rw [e1,e2];by_cases h:i=c
 ·rw [yA ⟨h,hi⟩,yA h]
 ·rw [yo (fun q=>h q.1),yo h,ybV]
def aeV (R:Mx) (w:Nat) (ld:Rat):fw (cC R w) ld=gC R w ld:=by
 have lT:=mY R w;have hg:=An (cC R w) ld;rw [lT] at hg
 refine awu (w:=w) (by rw [j0,BN,lT]) hg (FE R w ld) (fun i c hi hc=>?_);rw [j0,lT] at hi;rw [Vi (OO R w) (by omega) (by omega),UG hi hc]
 congr 1
 exact ep (fun k hk=>by rw [Vf hi hk,Vf hc hk])
def adf (R:Mx) (w:Nat) (b:List Rat):A1 R w b=ik R w b:=rfl
def ayo {R:Mx} {w:Nat} {b:List Rat} {i:Nat} (hi:i<w):aW (ik R w b) i=sm (fun r=>E R r i*aW b r) R.length:=by
 have lT:=mY R w;rw [db (by rw [Jt];exact hi)]
 have hr:(cC R w)[i]'(by omega)=R.map fun r=>aW r i:=by simp [cC]
 have:(ik R w b)[i]'(by rw [Jt];exact hi)=fI (R.map fun r=>aW r i) b R.length:=by
  simp only [ik,nE,yX];rw [hr,yk]
 rw [this,O5];refine ep (fun r bk=>?_);rw [db (by rw [yk];exact bk),yX]
 unfold E;rw [cm bk]
section
variable {R:Mx} {w:Nat} {b:List Rat} {ld:Rat} (hw:wid w R) (lb:b.length=R.length) (hl:0<ld)
include hw lb hl
theorem aeW:kL R.length (bQ (fw R ld) b):=
 abT (a:=fun i c=>E R i c) (m:=w) hl (fun i c hi hc=>by
  rw [Gx (An R ld) (by rw [j0];exact lb) (by rw [j0];exact hi) (by omega),yA hc,Vi hw hi hc])
theorem aeX:kL w (bQ (gC R w ld) (ik R w b)):=
 abT (a:=fun i c=>E R c i) (m:=R.length) hl (fun i c hi hc=>by
  rw [Gx (FE R w ld) (by rw [BN,Jt]) (by rw [BN];exact hi) (by omega),yA hc,UG hi hc])
theorem atw:w∉(ay (bQ (gC R w ld) (ik R w b)) (w+1)).2/\jj (ay (bQ (gC R w ld) (ik R w b)) (w+1)).1 (ay (bQ (gC R w ld) (ik R w b)) (w+1)).2 w (ay (bQ (gC R w ld) (ik R w b)) (w+1)).2.length=nF R w b ld:=by
 have d2:=aeX hw lb hl;have lN:(ik R w b).length=(gC R w ld).length:=by rw [BN,Jt]
 have hW:=DA (FE R w ld) lN;have lW:(bQ (gC R w ld) (ik R w b)).length=w:=by rw [nY lN,BN]
 have hm:=abU d2 hW lW;have hf:=Oi d2 hW lW;obtain ⟨p1,p2⟩:=Uc hW hm hf;refine ⟨hm,?_⟩;have lr:=BS (bQ (gC R w ld) (ik R w b)) (w+1);rw [p1,aqZ p2 p1 (by omega)];have WQ:((ay (bQ (gC R w ld) (ik R w b)) (w+1)).1.take w).map (fun r=>aW r w)=(List.range w).map fun k=>E (ay (bQ (gC R w ld) (ik R w b)) (w+1)).1 k w:=by
  refine uE (by simp;omega) (fun k h1 h2=>?_);simp only [yk,tV] at h2;rw [yX,yX,List.getElem_take,vl];unfold E;rw [cm (by omega)]
 rw [WQ];unfold nF
 split
 ·
  have d1:=aeW hw lb hl;have lG:b.length=(fw R ld).length:=by rw [j0];exact lb
  have Db:=DA (An R ld) lG;have lW1:(bQ (fw R ld) b).length=R.length:=by rw [nY lG,j0]
  have hy:∀r,r<R.length->sm (fun s=>(sm (fun c=>E R r c*E R s c) w+if r=s then ld else 0)*aW (kK R.length (bQ (fw R ld) b)) s) R.length=aW b r:=fun r hr=>by
   have e1:=aeS d1 Db lW1 r hr;rw [Gx (An R ld) lG (by rw [j0];exact hr) (by omega),yo (by omega)] at e1
   rw [<-e1];refine ep (fun s hs=>?_);rw [Gx (An R ld) lG (by rw [j0];exact hr) (by omega),yA hs,Vi hw hr hs,<-aeT d1 Db lW1 s hs]
   congr 1
   rw [db (by rw [Am];exact hs)]
   simp [kK]
  have hs:=atp d2 hW lW (x:=fun c=>sm (fun s=>E R s c*aW (kK R.length (bQ (fw R ld) b)) s) R.length) (fun i hi=>by
   rw [Gx (FE R w ld) lN (by rw [BN];exact hi) (by omega),yo (by omega),ayo hi,<-aqW hy hi]
   refine ep (fun c hc=>?_)
   rw [Gx (FE R w ld) lN (by rw [BN];exact hi) (by omega),yA hc,UG hi hc])
  refine uE (by simp [mY]) (fun k h1 h2=>?_);simp only [yk,tV] at h1;have hk:(cC R w)[k]'(by rw [mY];exact h1)=R.map fun r=>aW r k:=by simp [cC]
  rw [yX,vl,hs k h1,yX,hk,yk,O5];refine ep (fun r hr=>?_)
  rw [db (r:=R.map fun r=>aW r k) (by rw [yk];exact hr),yX]
  unfold E;rw [cm hr]
 ·rw [aeV,adf];unfold kK;exact List.map_congr_left (fun k hk=>(aeT d2 hW lW k (List.mem_range.1 hk)).symm)
end
def jZ (n:Nat) (r:List (List Nat)):Bool:=r.all fun s=>decide (s.length<=n)
def abY {n:Nat} {r:List (List Nat)} {k:Nat} (h:k<r.length):jZ n (r.drop k)=(decide (r[k].length<=n)&&jZ n (r.drop (k+1))):=by
 unfold jZ;rw [yP h,yaJ]
def sB (r:List (List Nat)):Bool:=qY 4 r.length&&jZ 20 r
section
variable {P:aM} {L:Lib}
def aAO (WR:Has P L 342 Ln) {v:AV} {l:List (List Nat)} (hv:bm v l) (n:Nat) (hn:n<=1000000) (hs:∀s,s∈l->s.length<9223372036854775808):aj P L 342 [v,aa n] (.bool (decide (l.length<=n)&&jZ n l)):=by
 have key:=fun hl:l.length<=n=>fk (P:=P) (L:=L) (live:=[0,1,5]) (a:=F1)
  (I:=fun k st=>∃i:Nat,st=⟨[(0,v),(1,aa n),(5,aa i)],[],0,0⟩/\i+k=l.length/\jZ n (l.drop i)=jZ n l)
  (Q:=fun ex st=>∃tm hp ct,st=⟨tm,hp,ct,0⟩/\((ex= .ret/\af tm 4= .bool false/\jZ n l=false)\/(ex= .exit 0/\jZ n l=true))) (?_:∀(k:Nat) (st:St),_->_)
 ·unfold aj;rw [aI WR];by_cases h1:l.length<=n
  ·rw [xq h1,wK];simp only [go_sem,ya,Ln,hv.len,show ¬(n:Int)<l.length by omega,yv];generalize hq:D P L (.loop [0,1,5] F1) _=q;obtain ⟨ex,st,rfl,tm,hp,ct,rfl,h2⟩:=bD hq (key h1 l.length) ⟨0,by simp only [go_sem,ya,aw,aq hv.pu,au _ hv.pu]<;>rfl,by omega,rfl⟩
   rcases h2 with ⟨rfl,t4,h3⟩ | ⟨rfl,h3⟩
   ·rw [h3];simp only [go_sem,t4]
   ·rw [h3];simp only [go_sem,aw]
  ·rw [xb h1,wE];simp only [go_sem,ya,Ln,hv.len,show (n:Int)<l.length by omega,yu]
 ·rintro k st ⟨i,rfl,hk,hd⟩;by_cases hi:i<l.length
  ·have e0:=hv.bi hi;rw [abY hi] at hd;have hb:=hs _ (yE hi);have w5:IntKind.wrap .i64 ((i:Int)+1)=((i+1:Nat):Int):=wrap64 (by omega) (by omega);by_cases h1:l[i].length<=n
   ·left
    rw [xq h1,wK] at hd;simp only [go_sem,ya,F1,hv.len,show (i:Int)<l.length by omega,e0,show ¬(n:Int)<(l[i].length:Int) by omega,yv,w5];refine ⟨_,k-1,rfl,by omega,i+1,?_,by omega,hd⟩;simp only [go_sem,ya,aw,aq hv.pu,au _ hv.pu]<;>rfl
   ·right
    rw [xb h1,wE] at hd;simp only [go_sem,ya,F1,hv.len,show (i:Int)<l.length by omega,e0,show (n:Int)<(l[i].length:Int) by omega,yu];exact ⟨_,_,rfl,by simp,_,_,_,rfl,.inl ⟨rfl,by simp only [go_sem],hd.symm⟩⟩
  ·right
   have:i=l.length:=by omega
   subst this;simp only [go_sem,ya,F1,hv.len,show ¬(l.length:Int)<l.length by omega];refine ⟨_,_,rfl,by simp,_,_,_,rfl,.inr ⟨rfl,?_⟩⟩;rw [<-hd,ta];rfl
def awv {v bv:AV} {s:List Nat} (pb:a7 bv=true) {M:List (List (List Nat))} (hv:cx bm v M) {i:Nat} (hi:i<M.length) (hl:M.length<=1000000) (hr:M[i].length<=1000000) (hs:∀s,s∈M[i]->s.length<9223372036854775808):
  ∀(d:Nat) (st:St),(∃k:Nat,aG [0,1,2,7,46,47,76,77] st=⟨[(0,v),(1,bv),(2,.str s),(7,aa i),(46,aa M.length),(47,aa i),(76,aa M[i].length),(77,aa k)],[],0,0⟩/\k+d=M[i].length/\jZ 20 (M[i].drop k)=jZ 20 M[i])->
   ∃ex s',D P L (.loop [0,1,2,7,46,47,76,77] DN) st=some (ex,s')/\∃tm hp ct,s'=⟨tm,hp,ct,0⟩/\((ex= .ret/\af tm 6= .bool true/\jZ 20 M[i]=false)\/(ex= .exit 2/\jZ 20 M[i]=true/\hp=[]/\af tm 0=v/\af tm 1=bv/\af tm 2= .str s/\af tm 46=aa M.length/\af tm 47=aa i)):=by
 intro dq sq;generalize bh:aG [0,1,2,7,46,47,76,77] sq=s0;revert bh s0 sq dq;apply dj;rintro d st ⟨k,rfl,hk,hd⟩;obtain ⟨r,rest,cO,e0⟩:=hv.bi hi;by_cases oB:k<M[i].length
 ·rw [abY oB] at hd;have e1:=cO.bi oB;have wk:IntKind.wrap .i64 ((k:Int)+1)=((k+1:Nat):Int):=wrap64 (by omega) (by omega);have hb:=hs _ (yE oB);by_cases h1:M[i][k].length<=20
  ·left
   rw [xq h1,wK] at hd;simp only [go_sem,ya,DN,show (k:Int)<M[i].length by omega,e0,e1,show ¬(20:Int)<(M[i][k].length:Int) by omega,yv];refine ⟨_,d-1,rfl,by omega,k+1,?_,by omega,hd⟩;rw [wk];simp only [go_sem,ya,aw,aq hv.pu,au _ hv.pu,aq pb,au _ pb]<;>rfl
  ·right
   rw [xb h1,wE] at hd;simp only [go_sem,ya,DN,show (k:Int)<M[i].length by omega,e0,e1,show (20:Int)<(M[i][k].length:Int) by omega,yu];exact ⟨_,_,rfl,by simp,_,_,_,rfl,.inl ⟨rfl,by simp only [go_sem],hd.symm⟩⟩
 ·right
  have:k=M[i].length:=by omega
  subst this;simp only [go_sem,ya,DN,show ¬(M[i].length:Int)<M[i].length by omega,yv];refine ⟨_,_,rfl,by simp,_,_,_,rfl,.inr ⟨rfl,?_,rfl,by simp only [go_sem,ya],by simp only [go_sem,ya],by simp only [go_sem,ya],by simp only [go_sem,ya],by simp only [go_sem,ya]⟩⟩;rw [<-hd,ta];rfl
def aww {v bv:AV} {s:List Nat} (pb:a7 bv=true) {M:List (List (List Nat))} (hv:cx bm v M) (hl:M.length<=1000000) (hr:∀r,r∈M->∀s,s∈r->s.length<9223372036854775808):
  ∀(d:Nat) (st:St),(∃i:Nat,aG [0,1,2,46,47] st=⟨[(0,v),(1,bv),(2,.str s),(46,aa M.length),(47,aa i)],[],0,0⟩/\i+d=M.length/\(M.drop i).all sB=M.all sB)->
   ∃ex s',D P L (.loop [0,1,2,46,47] At) st=some (ex,s')/\∃tm hp ct,s'=⟨tm,hp,ct,0⟩/\((ex= .ret/\af tm 6= .bool true/\M.all sB=false)\/(ex= .exit 0/\M.all sB=true/\hp=[]/\af tm 0=v/\af tm 1=bv/\af tm 2= .str s)):=by
 have YB:∀l:Nat,(decide ((4:Int)<l)&&decide ((l:Int)<=64)||decide ((66:Int)<l))= !qY 4 l:=fun l=>by
  unfold qY;rw [ybP,show decide ((4:Int)<l)=decide (4<l) by rw [vQ];omega,show decide ((l:Int)<=64)=decide (l<=64) by rw [vQ];omega,show decide ((66:Int)<l)=decide (66<l) by rw [vQ];omega]
 intro dq sq;generalize bh:aG [0,1,2,46,47] sq=s0;revert bh s0 sq dq;apply dj;rintro k st ⟨i,rfl,hk,hd⟩;by_cases hi:i<M.length
 ·obtain ⟨r,rest,cO,e0⟩:=hv.bi hi;have hm:=hr _ (yE hi);have f:=YB M[i].length;rw [yP hi,yaJ] at hd;have w23:IntKind.wrap .i64 ((i:Int)+1)=((i+1:Nat):Int):=wrap64 (by omega) (by omega);have jW:M[i].length<=66->∀st,aG [0,1,2,7,46,47,76,77] st=⟨[(0,v),(1,bv),(2,.str s),(7,aa i),(46,aa M.length),(47,aa i),(76,aa M[i].length),(77,aa (0:Nat))],[],0,0⟩->_:=fun X3 st aJ=>awv (P:=P) (L:=L) (s:=s) pb hv hi (by omega) (by omega) hm M[i].length st ⟨0,aJ,by omega,rfl⟩
  have iq:sB M[i]=(qY 4 M[i].length&&jZ 20 M[i]):=rfl;rw [iq] at hd
  cases hf:qY 4 M[i].length with
  | false=>
   right
   rw [hf] at f hd;simp only [wE] at hd;by_cases h1:4<M[i].length
   ·by_cases h2:M[i].length<=64
    ·simp only [go_sem,ya,At,show (i:Int)<M.length by omega,e0,cO.len,show (4:Int)<M[i].length by omega,show (M[i].length:Int)<=64 by omega,yu];exact ⟨_,_,rfl,by simp,_,_,_,rfl,.inl ⟨rfl,by simp only [go_sem],hd.symm⟩⟩
    ·have h3:66<M[i].length:=by
      rw [xq (show (4:Int)<M[i].length by omega),xb (show ¬(M[i].length:Int)<=64 by omega)] at f;simp only [wK,vL,yU,wz] at f;omega
     simp only [go_sem,ya,At,show (i:Int)<M.length by omega,e0,cO.len,show (4:Int)<M[i].length by omega,show ¬(M[i].length:Int)<=64 by omega,show (66:Int)<M[i].length by omega,yu,yv];exact ⟨_,_,rfl,by simp,_,_,_,rfl,.inl ⟨rfl,by simp only [go_sem],hd.symm⟩⟩
   ·have h3:66<M[i].length:=by
     rw [xb (show ¬(4:Int)<M[i].length by omega)] at f;simp only [wE,vL,yU,wz] at f;omega
    simp only [go_sem,ya,At,show (i:Int)<M.length by omega,e0,cO.len,show ¬(4:Int)<M[i].length by omega,show (66:Int)<M[i].length by omega,yu,yv];exact ⟨_,_,rfl,by simp,_,_,_,rfl,.inl ⟨rfl,by simp only [go_sem],hd.symm⟩⟩
  | true=>
   have nk:=JL hf;rw [hf,wK] at hd;have main:∀q,(∃ex s',q=some (ex,s')/\∃tm hp ct,s'=⟨tm,hp,ct,0⟩/\((ex= .ret/\af tm 6= .bool true/\jZ 20 M[i]=false)\/(ex= .exit 2/\jZ 20 M[i]=true/\hp=[]/\af tm 0=v/\af tm 1=bv/\af tm 2= .str s/\af tm 46=aa M.length/\af tm 47=aa i)))->
     (∃s' k',kj P L (oc 1 (kj P L (oc 2 q) (.kp [0,1,2,46,47]))) (.mh [qa 90 47 1,qm 47 90])=some (.normal,s')/\k'<k/\∃i:Nat,aG [0,1,2,46,47] s'=⟨[(0,v),(1,bv),(2,.str s),(46,aa M.length),(47,aa i)],[],0,0⟩/\i+k'=M.length/\(M.drop i).all sB=M.all sB)\/
     ∃ex s',kj P L (oc 1 (kj P L (oc 2 q) (.kp [0,1,2,46,47]))) (.mh [qa 90 47 1,qm 47 90])=some (ex,s')/\ex≠.normal/\∃tm hp ct,s'=⟨tm,hp,ct,0⟩/\((ex= .ret/\af tm 6= .bool true/\M.all sB=false)\/(ex= .exit 0/\M.all sB=true/\hp=[]/\af tm 0=v/\af tm 1=bv/\af tm 2= .str s)):=by
    rintro q ⟨ex,s',rfl,tm,hp,ct,rfl,h2⟩;rcases h2 with ⟨rfl,t4,h3⟩ | ⟨rfl,h3,rfl,t0,t1,t2,t46,t47⟩
    ·right
     rw [h3,wE] at hd;simp only [go_sem];exact ⟨_,_,rfl,by simp,_,_,_,rfl,.inl ⟨rfl,t4,hd.symm⟩⟩
    ·left
     rw [h3,wK] at hd;simp only [go_sem,ya,aw,t0,t1,t2,t46,t47,aq hv.pu,au _ hv.pu,aq pb,au _ pb,w23];refine ⟨_,k-1,rfl,by omega,i+1,?_,by omega,hd⟩;simp only [go_sem,ya,aw,aq hv.pu,au _ hv.pu,aq pb,au _ pb]<;>rfl
   rcases nk with nk | ⟨c1,c2⟩
   ·simp only [go_sem,ya,At,show (i:Int)<M.length by omega,e0,cO.len,show ¬(4:Int)<M[i].length by omega,show ¬(66:Int)<M[i].length by omega,yu,yv];generalize hq:D P L (.loop [0,1,2,7,46,47,76,77] DN) _=q;exact main q (by rw [<-hq];exact jW (by omega) _ (by simp only [go_sem,ya,aw,aq hv.pu,au _ hv.pu,aq pb,au _ pb]<;>rfl))
   ·simp only [go_sem,ya,At,show (i:Int)<M.length by omega,e0,cO.len,show (4:Int)<M[i].length by omega,show ¬(M[i].length:Int)<=64 by omega,show ¬(66:Int)<M[i].length by omega,yu,yv];generalize hq:D P L (.loop [0,1,2,7,46,47,76,77] DN) _=q;exact main q (by rw [<-hq];exact jW (by omega) _ (by simp only [go_sem,ya,aw,aq hv.pu,au _ hv.pu,aq pb,au _ pb]<;>rfl))
 ·right
  have:i=M.length:=by omega
  subst this;simp only [go_sem,ya,At,show ¬(M.length:Int)<M.length by omega,yv];refine ⟨_,_,rfl,by simp,_,_,_,rfl,.inr ⟨rfl,?_,rfl,by simp only [go_sem,ya],by simp only [go_sem,ya],by simp only [go_sem,ya]⟩⟩;rw [<-hd,ta];rfl
end
structure O7 (P:aM) (L:Lib):Prop where
 m:Na P L
 x:Rxi P L
 C3:Has P L 11 ja
 X2:Has P L 13 lF
 MN:Has P L 29 Mi
 Mu:Has P L 42 Mj
 G5:Has P L 261 La
 LS:Has P L 314 Ef
 CC:Has P L 316 GO
 Et:Has P L 332 GP
 aAP:Has P L 341 lz
 WR:Has P L 342 Ln
 LO:Has P L 343 GQ
 WS:Has P L 344 P9
 WT:Has P L 345 Cp
 WO:Has P L 346 Qa
 AY:Has P L 347 Eg
 LP:Has P L 348 Cq
 zq:Has P L 349 Eh
 LR:Has P L 350 ze
 mf:Has P L 351 nv
 qX:Has P L 352 Cr
 CE:Has P L 353 AP
 AZ:Has P L 354 AQ
 mN:Has P L 355 zg
 ayp:aj P L 1 [] (.bool true)
def aq0 {a b c d:Int} (h:bH [a,b,c,d]=0):a=0/\b=0/\c=0/\d=0:=by
 have all:∀l:List Int,bH l=0->∀x,x∈l->x=0:=fun l=>by
  induction l with
  | nil=>intro _ x hx;cases hx
  | cons y l ih=>
   intro h x hx;by_cases hy:y=0
   ·subst hy;have h2:bH l=0:=by unfold bH at h;rwa [yA rfl] at h
    rcases List.mem_cons.1 hx with rfl | hx
    ·rfl
    ·exact ih h2 x hx
   ·unfold bH at h;rw [yo hy] at h;exact absurd h hy
 exact ⟨all _ h a (by simp),all _ h b (by simp),all _ h c (by simp),all _ h d (by simp)⟩
def atx {q:Rat} (h:1<=cJ q.num):0<q:=by
 refine Rat.not_le.1 fun hq=>?_
 have h1:(0:Rat)<=q:=amZ (by omega);have h2:=Rat.le_antisymm hq h1;rw [h2] at h;exact absurd h (by decide)
section
variable {P:aM} {L:Lib}
def ayq (h:Rm P L) (LS:Has P L 314 Ef) {s:List Nat} (hl:s.length<9223372036854775808) (m:Int):aj P L 314 [.str s,aa m] (aa (nD s m)):=by
 have e1:=aiU h hl;unfold aj at e1 ⊢;rw [aI LS];unfold nD;by_cases h0:bJ s=0
 ·obtain ⟨h1,_⟩:=BL h0;have e2:=ag7 h (acU h0 (yq 2400)) (by omega);rw [<-h1] at e2;rw [h0] at e1;unfold aj at e2;rw [yA h0];by_cases h2:cJ (aZ s).num<m
  ·rw [yA h2];simp only [go_sem,ya,Ef,e1,yu,e2,h2]
  ·rw [yo h2];simp only [go_sem,ya,Ef,e1,yu,e2,h2]
 ·rw [yo h0];simp only [go_sem,ya,Ef,e1,h0,yv]
def aAQ (h:Rm P L) (LS:Has P L 314 Ef) (WS:Has P L 344 P9) {s:List Nat} (hl:s.length<9223372036854775808):aj P L 344 [.str s] (aa (nD s 1)):=by
 have e1:=ayq h LS hl 1;unfold aj at e1 ⊢;rw [aI WS];simp only [go_sem,ya,P9,e1]
def aoK (h:O7 P L) {v bv:AV} {M:List (List (List Nat))} {l:List (List Nat)} {s:List Nat} (hv:cx bm v M) (hb:bm bv l) (hr:∀r,r∈M->∀s,s∈r->s.length<9223372036854775808) (f4:qY 4 M.length=true) (l8:l.length<=8) (lb:jZ 20 l=true) (ls:s.length<=20) {tm:Env} (t0:af tm 0=v) (t1:af tm 1=bv) (t2:af tm 2= .str s):
  gJ [.t 6] (D P L (qM 1 lz.body) ⟨tm,[],0,0⟩)=some (.bool true):=by
 have hf4:=JL f4;have f0:=aww (P:=P) (L:=L) (s:=s) hb.pu hv (by omega) hr M.length;have YC:∀s,s∈l->s.length<=20:=fun s hs=>by
  have:=uF.1 lb s hs
  simpa using this
 simp only [go_sem,lz,qM,aB,t0,hv.len];generalize hq:D P L (.loop [0,1,2,46,47] At) _=q;obtain ⟨ex,st,rfl,rX,hp,ct,rfl,h2⟩:=bD hq f0 ⟨0,by simp only [go_sem,ya,aw,t0,t1,t2,aq hv.pu,au _ hv.pu,aq hb.pu,au _ hb.pu]<;>rfl,by omega,rfl⟩
 rcases h2 with ⟨rfl,t6,h3⟩ | ⟨rfl,h3,rfl,u0,u1,u2⟩
 ·simp only [go_sem,t6]
 ·have fW:∀r,r∈M->r.length<=66/\∀s,s∈r->s.length<=20:=fun r bk=>by
   have h4:=uF.1 h3 r bk;unfold sB at h4;obtain ⟨h5,h6⟩:=tc.1 h4;have h7:=JL h5;refine ⟨by omega,fun s hs=>?_⟩
   have:=uF.1 h6 s hs
   simpa using this
  have c1:=aAC h.x.toRm h.G5 h.LO hv hr;have c2:=ag9 h.x.toRm h.G5 hb (by omega) (fun s hs=>by have:=YC s hs;omega);have c3:=aAQ h.x.toRm h.LS h.WS (s:=s) (by omega);have c4:=s13 h.X2 (!decide ((l.length:Int)=(M.length:Nat))) 2;have q3:(if (!decide ((l.length:Int)=(M.length:Nat)))=true then (2:Int) else 0)=if l.length=M.length then 0 else 2:=by
   simp only [Bool.not_eq_true',wR];split<;>split<;>omega
  rw [q3] at c4;have c5:=s11 h.C3 h.Mu (kP true [mS M,bH (l.map bJ),nD s 1,if l.length=M.length then 0 else 2]) (by simp);simp only [List.length_cons,List.length_nil,List.map_cons,List.map_nil] at c5;have c5:aj P L 11 _ (aa (zu M l s)):=c5;have wl:M.length<=1000000:=by omega
  have wr:∀r,r∈M->r.length<=1000000/\∀s,s∈r->s.length<=1000000000:=fun r bk=>⟨by have:=(fW r bk).1;omega,fun s hs=>by have:=(fW r bk).2 s hs;omega⟩
  have ws:∀s,s∈l->s.length<=1000000000:=fun s hs=>by have:=YC s hs;omega
  by_cases hE:zu M l s=0
  ·have hE':=hE;unfold zu at hE';obtain ⟨z1,z2,z3,z4⟩:=aq0 hE';have IR:l.length=M.length:=by
    by_cases hh:l.length=M.length
    ·exact hh
    ·rw [yo hh] at z4;exact absurd z4 (by decide)
   obtain ⟨m0,m64,ho⟩:=Kp z1;have hm4:M.length<=4:=by omega
   have hW4:wd M<=4:=by
    have hm:=yE m0;have h4:=uF.1 h3 _ hm;unfold sB at h4;obtain ⟨h5,_⟩:=tc.1 h4;have h6:=JL h5;have h7:=ho _ hm;omega
   have hc:∀s,s∈l->bJ s=0:=NH z2;obtain ⟨fo,pT⟩:=asY z3;have EE:=atx pT;have kR:b9 160 (dP M):=av8 (fun r bk s CZ=>⟨(ho r bk).2.2.2 s CZ,by have:=(fW r bk).2 s CZ;omega⟩);have kb:∀x,x∈l.map aZ->Hq 160 x:=fun x hx=>by
    obtain ⟨t,ht,rfl⟩:=List.mem_map.1 hx
    exact Yi (hc t ht) (by have:=YC t ht;omega)
   have kl:Hq 160 (aZ s):=Yi fo (by omega);have hw:=Jo (M:=M) (fun r bk=>(ho r bk).1);have lM:=Jp M;have IS:(l.map aZ).length=(dP M).length:=by rw [yk,lM];exact IR
   have d1:=aeW hw IS EE;have d2:=aeX hw IS EE;rw [lM] at d1;rw [<-aeV,<-adf] at d2;obtain ⟨g1,g2⟩:=m27 h.m hv hb wl (by omega) wr ws (by omega) hE z1 IR (show M.length<=10 by omega) (show wd M<=10 by omega) (fun _=>by omega) (fun _=>by omega) hc fo kR kb kl (by omega) (by omega) d1 d2;obtain ⟨hd,WQ⟩:=atw hw IS EE;obtain ⟨r,Fh,e6⟩:=aAN h.x h.Et h.WO h.AY h.LP h.zq h.LR h.mf h.qX h.CE h.AZ h.mN hv hb z1 hc fo IR hm4 hW4 kR kb kl (by omega) (by omega) hd;rw [WQ] at Fh;have kQ:=aeU hw (by omega) (show wd M<=10 by omega) (fun _=>by omega) (fun _=>by omega) IS kR kb kl (by omega) (by omega);have lq:(nF (dP M) (wd M) (l.map aZ) (aZ s)).length<=1000000:=by
    unfold nF
    split
    ·rw [yk,mY];omega
    ·rw [Am];omega
   rw [hE] at c5;unfold aj at c1 c2 c3 c4 c5 e6
   cases hg:(nF (dP M) (wd M) (l.map aZ) (aZ s)).any LG with
   | true=>
    have e7:=g1 hg;have e8:=as8 h.x.toRl h.WT h.CC Fh lq kQ (by omega) hg;unfold aj at e7 e8;simp only [go_sem,ya,yd,yJ,yp,yh,u0,u1,u2,aw,hv.len,hv.an,hb.len,hb.an,aq hv.pu,au _ hv.pu,aq hb.pu,au _ hb.pu,e7,c1,c2,c3,c4,c5,yu,yR,e6,Fh.an,Fh.shut,e8,Fz,Fs,Fv]
   | false=>
    obtain ⟨k,hk,e7⟩:=g2 hg;have e8:=awa h.x.toRl h.WT h.CC h.MN hk Fh lq kQ (by omega) hg;unfold aj at e7 e8;simp only [go_sem,ya,yd,yJ,yp,yh,u0,u1,u2,aw,hv.len,hv.an,hb.len,hb.an,aq hv.pu,au _ hv.pu,aq hb.pu,au _ hb.pu,e7,c1,c2,c3,c4,c5,yu,yR,e6,Fh.an,Fh.shut,hk.an,hk.bZ,e8,Fz,Fs,Fv]
  ·have e7:=ayh h.m hv hb wl (by omega) wr ws (show s.length<=1000000000 by omega) hE;have e8:=as7 h.WT hE;unfold aj at c1 c2 c3 c4 c5 e7 e8;simp only [go_sem,ya,yd,yJ,yp,yh,u0,u1,u2,aw,hv.len,hv.an,hb.len,hb.an,aq hv.pu,au _ hv.pu,aq hb.pu,au _ hb.pu,e7,c1,c2,c3,c4,c5,hE,yv,yU,e8,Fz,Fs,Fv]
def aq1 (h:O7 P L) {v bv:AV} {M:List (List (List Nat))} {l:List (List Nat)} {s:List Nat} (hv:cx bm v M) (hb:bm bv l) (hr:∀r,r∈M->∀s,s∈r->s.length<9223372036854775808) (hl:∀s,s∈l->s.length<9223372036854775808) (hs:s.length<9223372036854775808):aj P L 341 [v,bv,.str s] (.bool true):=by
 have ea:=h.ayp;have e1:aj P L 342 [bv,.int .i64 20] (.bool (decide (l.length<=20)&&jZ 20 l)):=aAO h.WR hb 20 (by decide) hl;have YB:∀l:Nat,(decide ((4:Int)<l)&&decide ((l:Int)<=64)||decide ((66:Int)<l))= !qY 4 l:=fun l=>by
  unfold qY;rw [ybP,show decide ((4:Int)<l)=decide (4<l) by rw [vQ];omega,show decide ((l:Int)<=64)=decide (l<=64) by rw [vQ];omega,show decide ((66:Int)<l)=decide (66<l) by rw [vQ];omega]
 have f:=YB M.length;unfold aj at ea e1;unfold aj;rw [aI h.aAP];have lj:(∃tm,D P L (mM 1 lz.body) ⟨dN 0 [v,bv,.str s],[],0,0⟩=some (.normal,⟨tm,[],0,0⟩)/\af tm 0=v/\af tm 1=bv/\af tm 2= .str s)->qY 4 M.length=true->l.length<=8->jZ 20 l=true->s.length<=20->gJ lz.fm (D P L lz.body ⟨dN 0 [v,bv,.str s],[],0,0⟩)=some (.bool true):=by
  rintro ⟨tm,hS,t0,t1,t2⟩ f4 l8 lb ls
  rw [JH 1 (c:=lz.body) (by refine ⟨rfl,?_⟩;show _=_;rfl),hS,fN]
  exact aoK h hv hb hr f4 l8 lb ls t0 t1 t2
 cases hf:qY 4 M.length with
 | false=>
  rw [hf] at f;by_cases h1:4<M.length
  ·by_cases h2:M.length<=64
   ·simp only [go_sem,ya,lz,hv.len,ea,show (4:Int)<M.length by omega,show (M.length:Int)<=64 by omega,yu,yR]
   ·have h3:66<M.length:=by
     rw [xq (show (4:Int)<M.length by omega),xb (show ¬(M.length:Int)<=64 by omega)] at f;simp only [wK,vL,yU,wz] at f;omega
    simp only [go_sem,ya,lz,hv.len,ea,show (4:Int)<M.length by omega,show ¬(M.length:Int)<=64 by omega,show (66:Int)<M.length by omega,yu,yv,yR]
  ·have h3:66<M.length:=by
    rw [xb (show ¬(4:Int)<M.length by omega)] at f;simp only [wE,vL,yU,wz] at f;omega
   omega
 | true=>
  have nk:=JL hf
  cases iq:(decide (l.length<=20)&&jZ 20 l) with
  | false=>
   rw [iq] at e1;rcases nk with hc | ⟨c1,c2⟩
   ·simp only [go_sem,ya,lz,hv.len,hb.an,ea,show ¬(4:Int)<M.length by omega,show ¬(66:Int)<M.length by omega,e1,yv,yR,yU]
   ·simp only [go_sem,ya,lz,hv.len,hb.an,ea,show (4:Int)<M.length by omega,show ¬(M.length:Int)<=64 by omega,show ¬(66:Int)<M.length by omega,e1,yu,yv,yR,yU]
  | true=>
   rw [iq] at e1;obtain ⟨k1,k2⟩:=tc.1 iq;by_cases l8:l.length<=8
   ·by_cases ls:s.length<=20
    ·refine lj ?_ hf l8 k2 ls;rcases nk with hc | ⟨c1,c2⟩
     ·simp only [go_sem,ya,lz,mM,bw,aB,hv.len,hb.len,hb.an,ea,show ¬(4:Int)<M.length by omega,show ¬(66:Int)<M.length by omega,e1,show ¬(8:Int)<l.length by omega,show ¬(20:Int)<s.length by omega,yv,yR];exact ⟨_,rfl,by simp only [go_sem,ya],by simp only [go_sem,ya],by simp only [go_sem,ya]⟩
     ·simp only [go_sem,ya,lz,mM,bw,aB,hv.len,hb.len,hb.an,ea,show (4:Int)<M.length by omega,show ¬(M.length:Int)<=64 by omega,show ¬(66:Int)<M.length by omega,e1,show ¬(8:Int)<l.length by omega,show ¬(20:Int)<s.length by omega,yu,yv,yR];exact ⟨_,rfl,by simp only [go_sem,ya],by simp only [go_sem,ya],by simp only [go_sem,ya]⟩
    ·rcases nk with hc | ⟨c1,c2⟩
     ·simp only [go_sem,ya,lz,hv.len,hb.len,hb.an,ea,show ¬(4:Int)<M.length by omega,show ¬(66:Int)<M.length by omega,e1,show ¬(8:Int)<l.length by omega,show (20:Int)<s.length by omega,yu,yv,yR]
     ·simp only [go_sem,ya,lz,hv.len,hb.len,hb.an,ea,show (4:Int)<M.length by omega,show ¬(M.length:Int)<=64 by omega,show ¬(66:Int)<M.length by omega,e1,show ¬(8:Int)<l.length by omega,show (20:Int)<s.length by omega,yu,yv,yR]
   ·rcases nk with hc | ⟨c1,c2⟩
    ·simp only [go_sem,ya,lz,hv.len,hb.len,hb.an,ea,show ¬(4:Int)<M.length by omega,show ¬(66:Int)<M.length by omega,e1,show (8:Int)<l.length by omega,yu,yv,yR]
    ·simp only [go_sem,ya,lz,hv.len,hb.len,hb.an,ea,show (4:Int)<M.length by omega,show ¬(M.length:Int)<=64 by omega,show ¬(66:Int)<M.length by omega,e1,show (8:Int)<l.length by omega,yu,yv,yR]
end
abbrev KW:List Ty:=[.sl KS,KS,.str]
def aoL {P:aM} {L:Lib} (h:O7 P L) {ls:List (List AV)} (hs:cF nN KW ls):aj P L 341 (KM KW ls) (.bool true):=by
 obtain ⟨_,_,_,rfl,h1,h2,h3⟩:=avO hs;obtain ⟨u,A,rfl,hu,ra⟩:=atb h1;obtain ⟨v,l,rfl,hv,rl⟩:=abP h2;obtain ⟨s,rfl,h4,_⟩:=h3;exact aq1 h hu hv ra rl h4
namespace J2
open Go Go.Proofs
def T:List (Tr aF):=[.n 1 [.o 7 [] (.bool true)] .l .l]
def L0:VE.Lib:=UA VE.aS 99 OE
def L1:VE.Lib:=PO L0 T 1000
def nu:Nu VE.prog VE.aS:=by
 repeat' (first | rfl | constructor)
def lw:O7 VE.prog L1:=by
 repeat' (first | rfl | constructor)
section
variable {W:World} {m:Int} (hm:W.cell? ⟨0,0,none⟩=some (.int .i64 m)) (ht:Go.Lib.TabIs Tryz.prog W "internal/strconv.uint64pow10" .u64 Go.Lib.pow10Tab)
include hm ht
theorem linked:eU ((J1.O W).Af L1):=by
 have hO:=J1.arD hm ht;have hs:=aos hO nu rfl rfl rfl ⟨rfl,rfl,rfl⟩ (fn:=Tryz.f188) (c:=CA) Tryz.func188 rfl rfl trivial aqB;have hT:eY (J1.O W) T:=eY.cons (Tr.lX (mb.one (VK1.holds hO rfl rfl)) Tr.j8 Tr.j8) eY.nil;exact acn (aot hO hs) hT 1000
theorem law {ls:List (List AV)} (hs:cF nN KW ls):fc (J1.O W) 341 (KM KW ls) (.bool true):=by
 obtain ⟨k,hk⟩:=aeu (aoL lw hs);exact sound (linked hm ht) hk
end
end J2
end VE
