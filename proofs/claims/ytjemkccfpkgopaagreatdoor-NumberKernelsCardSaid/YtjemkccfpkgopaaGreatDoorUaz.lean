import Derived.Test.YtjemkccfpkgopaaGreatDoorUay
import Derived.Test.YtjemkccfpkgopaaGreatDoorUap
import Derived.Test.YtjemkccfpkgopaaGreatDoorUau
import Derived.Test.YtjemkccfpkgopaaGreatDoorUav
set_option linter.all false
set_option maxRecDepth 100000
open Bool renaming and_eq_true→ye,false_and→xO,not_eq_true→yaA,not_false→yR,not_true→yQ,true_and→xH
open Function renaming comp→yah
open Int renaming mul_ne_zero→yaR,natAbs_mul→vO,natAbs_natCast→xY
open List.Pairwise renaming filter→ybG
open List renaming all_cons→yae,all_eq_true→uT,any_eq_false→yao,drop_eq_getElem_cons→yX,drop_eq_nil_of_le→xj,getD_eq_getElem?_getD→yz,getElem?_eq_getElem→yK,getElem_map→xg,getElem_mem→yp,length_append→yL,length_map→yk,length_range→yan,length_take→yI,map→wE,map_congr_left→vX,map_map→vT,mem_cons_of_mem→wS,mem_cons_self→vV,mem_filter→um,mem_iff_getElem→xL,mem_map→wm,mem_range→wU,nodup_range→yau,pairwise_iff_getElem→wv,range→xC,range_succ→yaG
open Nat renaming le_antisymm→yaP,le_refl→yo,le_trans→xf,lt_of_le_of_lt→we,lt_trichotomy→uP,mul_le_mul→xP,mul_le_mul_right→yT,mul_one→yi,pow_le_pow_right→xb,pow_mul→uW,reduceAdd→yb,reduceEqDiff→ya,reduceLeDiff→yy
open Option renaming getD_some→vR
open Rat renaming divInt_eq_div→yaz,intCast_mul→wQ,intCast_neg→yaQ,mul_inv_cancel→vA
namespace VE
section
def eF (pv:List Nat) (c:Nat):List Nat:=(xC c).filter (fun d=> !pv.contains d)
def Mg {pv:List Nat} {c d:Nat} (h:d∈eF pv c):d<c/\d∉pv:=by
 obtain ⟨h1,h2⟩:=um.1 h;exact ⟨wU.1 h1,by simpa using h2⟩
def atP {pv:List Nat} {c d:Nat} (h:d<c) (h2:d∉pv):d∈eF pv c:=um.2 ⟨wU.2 h,by simpa using h2⟩
def apn (pv:List Nat) (c:Nat):(eF pv c).Nodup:=ybG _ yau
def BD (R:Mx) (pv:List Nat) (n:Nat):∀c,eX R pv n c=(eF pv c).map (fun d=>eT R pv n d pv.length)
 | 0=>rfl
 | c+1=>by
  have ih:=BD R pv n c;have e:eF pv (c+1)=eF pv c++if pv.contains c=true then [] else [c]:=by
   unfold eF;rw [yaG,List.filter_append];by_cases h:c∈pv<;>simp [h]
  rw [eX,e,ih]
  split<;>simp
section
variable {m:Mx} {w:Nat}
def j8.GL {s:Mx×List Nat} (h:j8 m w w s) {k:Nat} (hk:k∈s.2):∃i,∃hi:i<s.2.length,s.2[i]=k/\i<m.length:=by
 obtain ⟨i,hi,e⟩:=xL.1 hk
 exact ⟨i,hi,e,by have:=h.pv.pv;omega⟩
def j8.zero {s:Mx×List Nat} (h:j8 m w w s) {u:Nat->Rat} (hu:∀i,i<m.length->sm (fun k=>E m i k*u k) w=0) (h0:∀k,k<w->k∉s.2->u k=0):∀k,k<w->u k=0:=fun k hk=>by
 by_cases hp:k∈s.2
 ·obtain ⟨i,hi,rfl,kI⟩:=h.GL hp;have e:=(h.up i kI).dot hu;rw [ol hk (fun j hj bN=>?_)] at e
  ·rw [h.one i hi i kI,yE rfl] at e;grind
  ·by_cases Br:j∈s.2
   ·obtain ⟨i',cS,rfl,akd⟩:=h.GL Br;rw [h.one i' cS i kI,yr (fun e=>bN (by simp only [e]))];grind
   ·rw [h0 j hj Br];grind
 ·exact h0 k hk hp
def atQ {t k:Nat} (hw:wid w m) (ht:t<(b4 m w).length) (hk:k<w):∃jE:t<(eF (ay m w).2 w).length,E (b4 m w) t k=(if k=(eF (ay m w).2 w)[t] then 1 else 0)+sm (fun j=>if k=(ay m w).2.getD j 0 then -(E (ay m w).1 j (eF (ay m w).2 w)[t]) else 0) (ay m w).2.length:=by
 have h:=oc hw w (yo w);have jE:t<(eF (ay m w).2 w).length:=by
  unfold b4 at ht;rw [BD,yk] at ht;exact ht
 refine ⟨jE,?_⟩;have hf:=Mg (yp jE)
 rw [<-HC (R:=(ay m w).1) h.nodup h.pv.lt hf.1 hf.2 _ (yo _) k hk];unfold E b4;rw [dS (by unfold b4 at ht;exact ht)]
 simp only [BD,xg]
def PW {t s:Nat} (hw:wid w m) (ht:t<(b4 m w).length) (hs:s<(eF (ay m w).2 w).length):E (b4 m w) t (eF (ay m w).2 w)[s]=if s=t then 1 else 0:=by
 have hf:=Mg (yp hs);have h:=oc hw w (yo w);obtain ⟨jE,e⟩:=atQ hw ht hf.1
 rw [e,lH (fun j hj=>by
  rw [yr];intro q;have CZ:(ay m w).2.getD j 0=(ay m w).2[j]:=by simp [yz,yK hj]
  rw [CZ] at q
  exact hf.2 (q▸yp _))]
 by_cases aP:s=t
 ·subst aP;rw [yE rfl,yE rfl];grind
 ·rw [yr aP,yr]
  ·grind
  ·intro q;have hn:=wv.1 (apn (ay m w).2 w);rcases Nat.lt_or_gt_of_ne aP with h1 | h1
   ·exact hn s t hs jE h1 q
   ·exact hn t s jE hs h1 q.symm
def abH (hw:wid w m) {t:Nat} (ht:t<(b4 m w).length):∀i,i<m.length->sm (fun k=>E m i k*E (b4 m w) t k) w=0:=fun i hi=>by
 have h:=oc hw w (yo w);have jE:t<(eF (ay m w).2 w).length:=by
  unfold b4 at ht;rw [BD,yk] at ht;exact ht
 have hf:=Mg (yp jE);have e:=h.GK hf.1 hf.2 i hi;have eE:∀k,E (b4 m w) t k=cF (eT (ay m w).1 (ay m w).2 w (eF (ay m w).2 w)[t] (ay m w).2.length) k:=fun k=>by
  unfold E b4;rw [dS (by unfold b4 at ht;exact ht)]
  simp only [BD,xg]
 simp only [eE];exact e
def ars (hw:wid w m) {v:Nat->Rat} (hv:∀i,i<m.length->sm (fun k=>E m i k*v k) w=0):dI (b4 m w).length (E (b4 m w)) w v:=by
 have h:=oc hw w (yo w);have lk:(b4 m w).length=(eF (ay m w).2 w).length:=by unfold b4;rw [BD,yk]
 refine ⟨fun t=>v ((eF (ay m w).2 w).getD t 0),fun k hk=>?_⟩;have gd:∀t (ht:t<(eF (ay m w).2 w).length),(eF (ay m w).2 w).getD t 0=(eF (ay m w).2 w)[t]:=fun t ht=>by simp [yz,yK ht]
 have key:=h.zero (u:=fun k=>v k+ -1*sm (fun t=>v ((eF (ay m w).2 w).getD t 0)*E (b4 m w) t k) (b4 m w).length) (fun i hi=>?_) (fun k hk hp=>?_) k hk
 ·have:v k+ -1*sm (fun t=>v ((eF (ay m w).2 w).getD t 0)*E (b4 m w) t k) (b4 m w).length=0:=key
  grind
 ·have hS:sm (fun k=>E m i k*sm (fun t=>v ((eF (ay m w).2 w).getD t 0)*E (b4 m w) t k) (b4 m w).length) w=0:=by
   rw [gX (g:=fun k=>sm (fun t=>E m i k*(v ((eF (ay m w).2 w).getD t 0)*E (b4 m w) t k)) (b4 m w).length) (fun k _=>(pN _ _ _).symm),HB];refine lH (fun t ht=>?_)
   rw [gX (g:=fun k=>v ((eF (ay m w).2 w).getD t 0)*(E m i k*E (b4 m w) t k)) (fun k _=>by grind),pN,abH hw ht i hi];grind
  rw [gX (g:=fun k=>E m i k*v k+ -1*(E m i k*sm (fun t=>v ((eF (ay m w).2 w).getD t 0)*E (b4 m w) t k) (b4 m w).length)) (fun k _=>by grind),B4,hv i hi,pN,hS];grind
 ·obtain ⟨t,ht,rfl⟩:=xL.1 (atP hk hp);show v _+ -1*sm _ _=0
  rw [ol (j:=t) (by omega) (fun s hs bN=>by rw [PW hw hs ht,yr (fun q=>bN q.symm)];grind),PW hw (by omega) ht,yE rfl,gd t ht];grind
def j8.Pr {s:Mx×List Nat} (h:j8 m w w s) {v:Nat->Rat} (hv:dI m.length (E s.1) w v):dI s.2.length (E s.1) w v:=
 ⟨_,fun k hk=>h.akc hv k hk⟩
def art (hw:wid w m):(ay (b4 m w) w).2.length=(b4 m w).length:=by
 have lk:(b4 m w).length=(eF (ay m w).2 w).length:=by unfold b4;rw [BD,yk]
 have hB:=oc (DC (ay m w).1 (ay m w).2 w w) w (yo w);refine yaP hB.pv.pv ?_
 refine acG (w:=w) (b:=E (b4 m w)) (g:=E (ay (b4 m w) w).1) (col:=fun t=>(eF (ay m w).2 w).getD t 0) (fun t ht=>?_) (fun i j hi hj=>?_) (fun i hi=>hB.Pr (hB.down i hi))
 ·rw [show (eF (ay m w).2 w).getD t 0=(eF (ay m w).2 w)[t] by simp [yz,yK (show t<(eF (ay m w).2 w).length by omega)]];exact (Mg (yp _)).1
 ·rw [show (eF (ay m w).2 w).getD i 0=(eF (ay m w).2 w)[i] by simp [yz,yK (show i<(eF (ay m w).2 w).length by omega)],PW hw hj (by omega)];by_cases q:j=i
  ·rw [yE q,yE q.symm]
  ·rw [yr q,yr (fun e=>q e.symm)]
structure Sb (m:Mx) (w:Nat) (Q:Mx) (pv:List Nat):Prop where
 len:Q.length=pv.length
 wid:wid w Q
 all:Q.length+(ay m w).2.length=w
 lt:∀p,p∈pv->p<w
 one:∀i (h:i<pv.length),∀j,j<Q.length->E Q j pv[i]=if j=i then 1 else 0
 left:∀i (h:i<pv.length),∀k,k<pv[i]->E Q i k=0
 inc:∀i j (hi:i<pv.length) (hj:j<pv.length),i<j->pv[i]<pv[j]
 GK:∀i,i<Q.length->∀r,r<m.length->sm (fun k=>E m r k*E Q i k) w=0
 span:∀v:Nat->Rat,(∀r,r<m.length->sm (fun k=>E m r k*v k) w=0)->(∀i (h:i<pv.length),v pv[i]=0)->∀k,k<w->v k=0
def atS (hw:wid w m):Sb m w (gD m w) (ay (b4 m w) w).2:=by
 have hB:=oc (DC (ay m w).1 (ay m w).2 w w) w (yo w);have hB:j8 (b4 m w) w w (ay (b4 m w) w):=hB;have hq:=art hw;have lr:=BJ (b4 m w) w;have lq:(gD m w).length=(ay (b4 m w) w).2.length:=by unfold gD;rw [yI];omega
 have eE:∀i,i<(gD m w).length->∀k,E (gD m w) i k=E (ay (b4 m w) w).1 i k:=fun i hi k=>by
  have cS:=hi;unfold gD at cS;unfold E gD;rw [dS cS,dS (by omega),List.getElem_take]
 refine ⟨lq,Ly hB.pv.wid _,by have:=afR hw;omega,hB.pv.lt,fun i h j hj=>?_,fun i h k hk=>?_,hB.inc,fun i hi r hr=>?_,fun v hv h0 k hk=>?_⟩
 ·rw [eE j hj,hB.one i h j (by omega)]
 ·rw [eE i (by omega),hB.left i h k hk]
 ·simp only [eE i hi];have h1:=hB.up i (by omega);have h2:=h1.dot (z:=E m r) (fun j hj=>by
   have:=abH hw hj r hr
   rw [gX (g:=fun k=>E m r k*E (b4 m w) j k) (fun k _=>by grind)];exact this)
  rw [gX (g:=fun k=>E (ay (b4 m w) w).1 i k*E m r k) (fun k _=>by grind)];exact h2
 ·have h1:=(ars hw hv).trans (fun j hj=>hB.down j hj);rw [hB.akc h1 k hk];refine lH (fun i hi=>?_);rw [show (ay (b4 m w) w).2.getD i 0=(ay (b4 m w) w).2[i] by simp [yz,yK hi],h0 i hi];grind
end
def afS {A B:Mx} {a b:Nat} (hA:wid a A) (hB:wid b B) (la:A.length=b) (lb:B.length=a) (h:∀i k,i<b->k<a->E B k i=E A i k):(ay B b).2.length<=(ay A a).2.length:=by
 have hR:=oc hA a (yo a);have hx:∃X:Nat->Nat->Rat,∀i,i<b->∀k,k<a->E A i k=sm (fun j=>X i j*E (ay A a).1 j k) (ay A a).2.length:=by
  have hd:=fun i (hi:i<b)=>hR.Pr (hR.down i (by omega))
  refine ⟨fun i=>if h:i<b then Classical.choose (hd i h) else fun _=>0,fun i hi k hk=>?_⟩
  have:=Classical.choose_spec (hd i hi) k hk
  simp only [hi,dif_pos];exact this
 obtain ⟨X,hX⟩:=hx
 refine atO hB (g:=fun j i=>X i j) (fun k hk=>⟨fun j=>E (ay A a).1 j k,fun i hi=>?_⟩);rw [h i k hi (by omega),hX i hi k (by omega)];exact gX (fun j _=>by grind)
end
section
def SC (B w:Nat) (f:Nat->Rat):Prop:=∃s:Int,s≠0/\s.natAbs<=B/\∀k,k<w->∃z:Int,z.natAbs<=B/\(s:Rat)*f k=(z:Rat)
def XU {z:Int} (h:z≠0):(z:Rat)≠0:=fun e=>h (Rat.intCast_inj.1 (by rw [e];rfl))
def SC.mono {B C w:Nat} {f:Nat->Rat} (h:SC B w f) (hB:B<=C):SC C w f:=by
 obtain ⟨s,h1,h2,h3⟩:=h
 exact ⟨s,h1,by omega,fun k hk=>by obtain ⟨z,z1,z2⟩:=h3 k hk;exact ⟨z,by omega,z2⟩⟩
def SC.congr {B w:Nat} {f g:Nat->Rat} (h:SC B w f) (e:∀k,k<w->g k=f k):SC B w g:=by
 obtain ⟨s,h1,h2,h3⟩:=h
 exact ⟨s,h1,h2,fun k hk=>by obtain ⟨z,z1,z2⟩:=h3 k hk;exact ⟨z,z1,by rw [e k hk];exact z2⟩⟩
def SC.hq {B w K k:Nat} {f:Nat->Rat} (h:SC B w f) (hk:k<w) (hB:B<2^K):Hq K (f k):=by
 obtain ⟨s,h1,h2,h3⟩:=h;obtain ⟨z,z1,z2⟩:=h3 k hk;have pos:∀s z:Int,0<s->s.natAbs<=B->z.natAbs<=B->(s:Rat)*f k=(z:Rat)->Hq K (f k):=fun s z hs a b e=>by
  have bN:=XU (show s≠0 by omega)
  have:f k=Rat.divInt z s:=by
   rw [yaz,<-e]
   have:=vA _ bN
   grind
  rw [this];exact Hq.divInt hs (show z.natAbs<2^K by omega) (show s.natAbs<2^K by omega)
 rcases Int.lt_or_gt_of_ne h1 with h | h
 ·exact pos (-s) (-z) (by omega) (by omega) (by omega) (by rw [yaQ,yaQ,<-z2];grind)
 ·exact pos s z h h2 z1 z2
def SC.azt {B w c:Nat} {f:Nat->Rat} (h:SC B w f) (hc:c<w) (h0:f c≠0):SC B w (fun k=>f k*(f c)⁻¹):=by
 obtain ⟨s,h1,h2,h3⟩:=h;obtain ⟨zc,c1,c2⟩:=h3 c hc;have hs:=XU h1;have hm:=vA _ h0;refine ⟨zc,fun e=>?_,c1,fun k hk=>?_⟩
 ·rw [e] at c2
  have:(s:Rat)*f c=0:=c2
  rcases Rat.mul_eq_zero.1 this with q | q
  ·exact hs q
  ·exact h0 q
 ·obtain ⟨z,z1,z2⟩:=h3 k hk;refine ⟨z,z1,?_⟩;show (zc:Rat)*(f k*(f c)⁻¹)=z
  rw [<-z2,<-c2];grind
def SC.elim {B w c:Nat} {f p:Nat->Rat} (h:SC B w f) (hp:SC B w p) (hc:c<w):SC (2*(B*B)) w (fun k=>f k-f c*p k):=by
 obtain ⟨s,h1,h2,h3⟩:=h;obtain ⟨t,t1,t2,t3⟩:=hp;obtain ⟨zc,c1,c2⟩:=h3 c hc;refine ⟨s*t,yaR h1 t1,?_,fun k hk=>?_⟩
 ·rw [vO]
  have:=xP h2 t2
  omega
 ·obtain ⟨z,z1,z2⟩:=h3 k hk;obtain ⟨y,y1,y2⟩:=t3 k hk;refine ⟨z*t-zc*y,?_,?_⟩
  ·have e1:=xP z1 t2;have e2:=xP c1 y1;rw [<-vO] at e1 e2;omega
  ·rw [Rat.intCast_sub,wQ,wQ,wQ,<-z2,<-y2,<-c2];grind
def gB (B:Nat):Nat->Nat
 | 0=>B
 | n+1=>2*(gB B n*gB B n)
def ahU {B:Nat} (hB:1<=B) (n:Nat):1<=gB B n/\gB B n<=gB B (n+1):=by
 have h:∀n,1<=gB B n:=fun n=>by
  induction n with
  | zero=>exact hB
  | succ n ih=>
   have:=xP ih ih
   simp only [gB];omega
 have:=xP (h n) (yo (gB B n))
 refine ⟨h n,?_⟩;simp only [gB];omega
def afT {B:Nat} (hB:1<=B) {n k:Nat} (h:n<=k):gB B n<=gB B k:=by
 induction h with
 | refl=>exact yo _
 | step _ ih=>exact xf ih (ahU hB _).2
def ag4 {m:Mx} {w B:Nat} (hw:wid w m) (hB:1<=B) (h:∀i,i<m.length->SC B w (E m i)):∀c,c<=w->∀i,i<m.length->SC (gB B (ay m c).2.length) w (E (ay m c).1 i)
 | 0,_,i,hi=>h i hi
 | c+1,hc,i,hi=>by
  have ih:=ag4 hw hB h c (by omega);have hP:=pM hw c;have hl:=hP.len;have gF:=hP.bm c;rw [ay];by_cases hp:bm (ay m c) c<(ay m c).1.length
  ·have fe:(gW (ay m c) c).2=(ay m c).2++[c]:=by unfold gW;rw [yE hp]
   rw [fe,yL,List.length_singleton];have hS:∀i,i<m.length->SC (gB B (ay m c).2.length) w (E (cP (ay m c).1 (ay m c).2.length (bm (ay m c) c)) i):=fun i hi=>by
    by_cases q1:i=bm (ay m c) c
    ·exact (ih _ (show (ay m c).2.length<m.length by omega)).congr (fun k _=>by rw [Iz (by omega) hp (by omega),yE q1])
    ·by_cases q2:i=(ay m c).2.length
     ·exact (ih _ (show bm (ay m c) c<m.length by omega)).congr (fun k _=>by rw [Iz (by omega) hp (by omega),yr q1,yE q2])
     ·exact (ih i hi).congr (fun k _=>by rw [Iz (by omega) hp (by omega),yr q1,yr q2])
   have bN:E (cP (ay m c).1 (ay m c).2.length (bm (ay m c) c)) (ay m c).2.length c≠0:=by
    have:=LY (ay m c).1 c ((ay m c).1.length-(ay m c).2.length) (ay m c).2.length (by unfold bm at hp;omega)
    rw [Iz (by omega) hp (by omega)];unfold bm
    split
    ·rename_i q;rw [<-q] at this;exact this
    ·rw [yE rfl];exact this
   have jr:=(hS _ (show (ay m c).2.length<m.length by omega)).azt (c:=c) (by omega) bN;by_cases jc:i=(ay m c).2.length
   ·refine (jr.mono (ahU hB _).2).congr (fun k hk=>?_);rw [Q9 hP (by omega) hp (by omega) hk,yE jc,jc]
   ·refine ((hS i hi).elim jr (c:=c) (by omega)).congr (fun k hk=>?_);rw [Q9 hP (by omega) hp (by omega) hk,yr jc]
  ·rw [Lv hp];exact ih i hi
def me (l:List Rat):Rat:=l.foldr (·+·) 0
def acH:∀a b:List Rat,me (a++b)=me a+me b
 | [],b=>by show me b=0+me b;grind
 | x::a,b=>by
  have:=acH a b
  show x+me (a++b)=(x+me a)+me b
  rw [this];grind
def apo {l m:List Rat} (h:l.Perm m):me l=me m:=by
 induction h with
 | nil=>rfl
 | cons x _ ih=>show x+me _=x+me _;rw [ih]
 | swap x y l=>show y+(x+me l)=x+(y+me l);grind
 | trans _ _ a b=>exact a.trans b
def Rc (f:Nat->Rat):∀n,sm f n=me ((xC n).map f)
 | 0=>rfl
 | n+1=>by
  rw [sm,Rc f n,yaG,List.map_append,acH];show _=_+(f n+0)
  grind
def afU {σ:List Nat} {w:Nat} (h:σ.Perm (xC w)) (g:Nat->Rat):sm (fun j=>g (σ.getD j 0)) w=sm g w:=by
 have hl:=h.length_eq;rw [yan] at hl;rw [Rc g,Rc,<-apo (h.map g)]
 congr 1
 refine List.ext_getElem (by simp [hl]) (fun i h1 h2=>?_);simp only [yk] at h1 h2;simp [yz,yK h2]
def atT {m:Mx} {w B K:Nat} (hw:wid w m) (hB:1<=B) (ZE:∀i,i<m.length->SC B w (E m i)) {Q:Mx} {pv:List Nat} (hQ:Sb m w Q pv) (hK:gB B (w-1)<2^K) (lz:2<=K):∀i,i<Q.length->∀k,k<w->Hq K (E Q i k):=fun i0 kG=>by
 have rS:pv.Nodup:=by
  unfold List.Nodup;rw [wv];intro i j hi hj zx e
  have:=hQ.inc i j hi hj zx;omega
 let σ:=(xC w).filter (fun k=> !pv.contains k)++(xC w).filter (fun k=>pv.contains k)
 have hσ:σ.Perm (xC w):=by
  have:=List.filter_append_perm (fun k=> !pv.contains k) (xC w)
  simpa [σ] using this
 have lσ:σ.length=w:=by rw [hσ.length_eq,yan]
 have nσ:σ.Nodup:=hσ.nodup_iff.2 yau;have gσ:∀j (h:j<σ.length),σ.getD j 0=σ[j]:=fun j h=>by simp [yz,yK h]
 have mσ:∀j (h:j<σ.length),σ[j]<w:=fun j h=>wU.1 (hσ.mem_iff.1 (yp h))
 have iσ:∀i j (hi:i<σ.length) (hj:j<σ.length),σ[i]=σ[j]->i=j:=fun i j hi hj e=>by
  have hn:=wv.1 nσ;rcases uP i j with h1 | h1 | h1
  ·exact absurd e (hn i j hi hj h1)
  ·exact h1
  ·exact absurd e.symm (hn j i hj hi h1)
 obtain ⟨r,hr⟩:∃r,r=((xC w).filter (fun k=> !pv.contains k)).length:=⟨_,rfl⟩;have lo:∀j (h:j<σ.length),j<r->σ[j]∉pv:=fun j h hj=>by
  simp only [σ];rw [List.getElem_append_left (by omega)]
  have:=um.1 (yp (show j<((xC w).filter (fun k=> !pv.contains k)).length by omega))
  simpa using this.2
 have cS:∀j (h:j<σ.length),r<=j->σ[j]∈pv:=fun j h hj=>by
  simp only [σ];rw [List.getElem_append_right (by omega)];have hx:j-((xC w).filter (fun k=> !pv.contains k)).length<((xC w).filter (fun k=>pv.contains k)).length:=by
   simp only [σ,yL] at h;omega
  have:=um.1 (yp hx)
  simpa using this.2
 let N:Mx:=m.map fun row=>σ.map (cF row)
 have lN:N.length=m.length:=by simp [N]
 have hE:∀i j,i<m.length->(hj:j<σ.length)->E N i j=E m i σ[j]:=fun i j hi hj=>by
  unfold E;rw [dS (by omega),dS hi,fE (by simp [N,hj])];simp [N]
 have hwN:wid w N:=fun i hi=>by rw [dS hi];simp [N,lσ]
 have h:=oc hwN w (yo w);have hsN:∀i,i<N.length->SC B w (E N i):=fun i hi=>by
  obtain ⟨s,s1,s2,s3⟩:=ZE i (by omega)
  exact ⟨s,s1,s2,fun k hk=>by
   obtain ⟨z,z1,z2⟩:=s3 σ[k] (mσ k (by omega))
   exact ⟨z,z1,by rw [hE i k (by omega) (by omega)];exact z2⟩⟩
 have eh:=ag4 hwN hB hsN w (yo w);have trans:∀v:Nat->Rat,(∀i,i<m.length->sm (fun k=>E m i k*v k) w=0)->∀i,i<N.length->sm (fun j=>E N i j*v (σ.getD j 0)) w=0:=fun v hv i hi=>by
  rw [<-hv i (by omega),<-afU hσ (fun k=>E m i k*v k)];refine gX (fun j hj=>?_);rw [hE i j (by omega) (by omega),gσ j (by omega)]
 have XV:∀j,j<r->j∈(ay N w).2:=fun j hj=>by
  refine Classical.byContradiction fun hn=>?_
  have oX:j<w:=by
   have:r<=σ.length:=by rw [hr];simp [σ]
   omega
  have hk:=h.GK oX hn;have hg:=fun k (hk:k<w)=>HC (R:=(ay N w).1) h.nodup h.pv.lt oX hn (ay N w).2.length (yo _) k hk
  let u:=fun k=>cF (eT (ay N w).1 (ay N w).2 w j (ay N w).2.length) k
  have u0:∀k,k<w->j<k->u k=0:=fun k hk hjk=>by
   show cF _ k=0
   rw [hg k hk,yr (by omega),lH (fun i hi=>?_)]
   ·grind
   ·split
    ·rename_i e;have p8:(ay N w).2.getD i 0=(ay N w).2[i]:=by simp [yz,yK hi]
     rw [p8] at e;rw [h.left i hi j (by omega)];grind
    ·rfl
  have uj:u j=1:=by
   show cF _ j=1
   rw [hg j oX,yE rfl,lH (fun i hi=>?_)]
   ·grind
   ·rw [yr];intro e;have p8:(ay N w).2.getD i 0=(ay N w).2[i]:=by simp [yz,yK hi]
    exact hn (by rw [e,p8];exact yp _)
  let v:=fun c=>sm (fun k=>if σ.getD k 0=c then u k else 0) w
  have vσ:∀k (hk:k<w),v (σ.getD k 0)=u k:=fun k hk=>by
   show sm _ w=u k
   rw [ol hk (fun i hi bN=>by
    rw [yr];intro e;rw [gσ i (by omega),gσ k (by omega)] at e
    exact bN (iσ i k (by omega) (by omega) e)),yE rfl]
  have hz:=hQ.span v (fun i hi=>?_) (fun i hi=>?_) (σ.getD j 0) (by rw [gσ j (by omega)];exact mσ j (by omega))
  ·rw [vσ j oX,uj] at hz;exact absurd hz (by decide)
  ·rw [<-afU hσ (fun k=>E m i k*v k),<-hk i (by omega)];refine gX (fun k hk=>?_);rw [vσ k hk,hE i k hi (by omega),gσ k (by omega)]
  ·show sm _ w=0
   refine lH (fun k hk=>?_)
   split
   ·rename_i e;by_cases rD:k<r
    ·rw [gσ k (by omega)] at e;exact absurd (yp hi) (by rw [<-e];exact lo k (by omega) rD)
    ·exact u0 k hk (by omega)
   ·rfl
 have nU:i0<pv.length:=by have:=hQ.len;omega
 have eL:=hQ.lt _ (yp nU);obtain ⟨t0,GI,ZF⟩:=xL.1 (hσ.mem_iff.2 (wU.2 eL));have vt:∀j (hj:j<σ.length),r<=j->E Q i0 σ[j]=if j=t0 then 1 else 0:=fun j hj zy=>by
  obtain ⟨i,hi,e⟩:=xL.1 (cS j hj zy);rw [<-e,hQ.one i hi i0 kG];by_cases q:j=t0
  ·subst q;rw [yE rfl,yE];rw [ZF] at e;have hn:=wv.1 rS;rcases uP i i0 with h1 | h1 | h1
   ·exact absurd e (hn i i0 hi nU h1)
   ·exact h1.symm
   ·exact absurd e.symm (hn i0 i nU hi h1)
  ·rw [yr q,yr];intro e2;subst e2;exact q (iσ j t0 hj GI (by rw [ZF,e]))
 have rt0:r<=t0:=Nat.le_of_not_lt fun aW=>lo t0 GI aW (by rw [ZF];exact yp _)
 have hkv:=trans (E Q i0) (fun i hi=>hQ.GK i0 kG i hi);have row:∀i (hi:i<(ay N w).2.length),sm (fun j=>E (ay N w).1 i j*E Q i0 (σ.getD j 0)) w=0:=fun i hi=>by
  have fe:=h.pv.pv;exact (h.up i (by omega)).dot hkv
 have nt0:t0∉(ay N w).2:=fun hm=>by
  obtain ⟨i,hi,e,kI⟩:=h.GL hm;have e1:=row i hi
  rw [ol (j:=t0) (by omega) (fun j hj bN=>by
   by_cases ZG:j<r
   ·obtain ⟨i',cS,e',akd⟩:=h.GL (XV j ZG);rw [<-e',h.one i' cS i kI,yr (fun q=>bN (by subst q;omega))];grind
   ·rw [gσ j (by omega),vt j (by omega) (by omega),yr bN];grind),<-e,h.one i hi i kI,yE rfl,e,gσ t0 GI,vt t0 GI rt0,yE rfl,show (1:Rat)*1=1 by grind] at e1
  exact absurd e1 (by decide)
 have Pr:(ay N w).2.length<=w-1:=by
  have hc:=afQ h.pv.lt;have step:∀d,rX (ay N w).2 (t0+1+d)<=t0+d:=fun d=>by
   induction d with
   | zero=>
    have h1:=QI h.nodup t0;have h2:=QJ (R:=(ay N w).1) h.nodup w t0;rw [yr (by simpa using nt0)] at h1;show rX (ay N w).2 (t0+1)<=t0
    omega
   | succ d ih=>
    have h1:=QI h.nodup (t0+1+d);rw [<-Nat.add_assoc,h1]
    split<;>omega
  have:=step (w-(t0+1))
  rw [show t0+1+(w-(t0+1))=w by omega] at this;omega
 have hgK:=we (afT hB Pr) hK;intro k hk;obtain ⟨j,hj,rfl⟩:=xL.1 (hσ.mem_iff.2 (wU.2 hk));by_cases ZG:j<r
 ·obtain ⟨i,hi,e,kI⟩:=h.GL (XV j ZG);have e1:=row i hi;have e2:sm (fun k=>E (ay N w).1 i k*E Q i0 (σ.getD k 0)) w=sm (fun k=>(if k=j then E Q i0 σ[j] else 0)+(if k=t0 then E (ay N w).1 i t0 else 0)) w:=gX (fun k hk=>by
   by_cases rD:k<r
   ·obtain ⟨i',cS,e',akd⟩:=h.GL (XV k rD);rw [<-e',h.one i' cS i kI,e'];by_cases q:k=j
    ·subst q
     have:i=i':=by
      have hn:=wv.1 h.nodup;rcases uP i i' with h1 | h1 | h1
      ·exact absurd (e.trans e'.symm) (hn i i' hi cS h1)
      ·exact h1
      ·exact absurd (e'.trans e.symm) (hn i' i cS hi h1)
     rw [yE this,yE rfl,yr (by omega),gσ k hj];grind
    ·rw [yr (fun e3=>q (by subst e3;omega)),yr q,yr (by omega)];grind
   ·rw [gσ k (by omega),vt k (by omega) (by omega),yr (show ¬k=j by omega)];by_cases q:k=t0
    ·rw [yE q,yE q,q];grind
    ·rw [yr q,yr q];grind)
  rw [e2,B4,ol (j:=j) (by omega) (fun k _ bN=>yr bN),ol (j:=t0) (by omega) (fun k _ bN=>yr bN),yE rfl,yE rfl] at e1;have e3:E Q i0 σ[j]= -(E (ay N w).1 i t0):=by grind
  rw [e3];exact ((eh i kI).hq (by omega) hgK).neg
 ·rw [vt j hj (by omega)]
  split
  ·exact XN.mono lz
  ·exact E4.mono lz
def den_mul (x:Rat):((x.den:Int):Rat)*x=((x.num:Int):Rat):=by
 have h:=Rat.num_divInt_den x;rw [yaz] at h;have hd:((x.den:Int):Rat)≠0:=XU (by have:=x.den_pos;omega);have hc:=vA _ hd
 conv=>lhs;rw [<-h]
 rw [Rat.div_def]
 grind
def ag5 {D:Nat} (hD:1<=D):∀q:List Rat,(∀x,x∈q->x.num.natAbs<=D/\x.den<=D)->SC (D^q.length) q.length (cF q)
 | [],_=>⟨1,by decide,by simp,fun k hk=>by simp at hk⟩
 | x::q,h=>by
  obtain ⟨s,s1,s2,s3⟩:=ag5 hD q (fun y hy=>h y (wS _ hy));obtain ⟨hn,hd⟩:=h x vV;have hp:=x.den_pos;have le:∀{a b:Nat},a<=D^q.length->b<=D->a*b<=D^(x::q).length:=fun ha hb=>by
   rw [List.length_cons,Nat.pow_succ];exact xP ha hb
  refine ⟨s*x.den,yaR s1 (by omega),?_,fun k hk=>?_⟩
  ·rw [vO];exact le s2 (by simpa using hd)
  ·cases k with
   | zero=>
    refine ⟨s*x.num,?_,?_⟩
    ·rw [vO];exact le s2 hn
    ·show ((s*(x.den:Int):Int):Rat)*x=_
     rw [wQ,wQ,<-den_mul x];grind
   | succ k=>
    obtain ⟨z,z1,z2⟩:=s3 k (by simpa using hk);refine ⟨z*x.den,?_,?_⟩
    ·rw [vO];exact le z1 (by simpa using hd)
    ·show ((s*(x.den:Int):Int):Rat)*cF q k=_
     rw [wQ,wQ,<-z2];grind
end
section
open Go (IntKind)
noncomputable def lR (n k:Nat) (l:List (List Nat)):Bool:=decide (l.length<=n)&&l.all (kW k)
noncomputable def Fc (n c k:Nat) (M:List (List (List Nat))):Bool:=decide (M.length<=n)&&M.all (lR c k)
def RM {k:Nat} {s:List Nat} (hk:k<=100) (h:kW k s=true):s.length<=1000/\cu s=0/\Hq (4*k) (dB s):=by
 unfold kW at h;simp only [ye,xK] at h;obtain ⟨h1,h2,h3,h4⟩:=h
 exact ⟨by omega,h2,Dw (k:=k) (by omega) (by omega),Dw (z:=((dB s).den:Int)) (k:=k) (by rw [xY];omega) (by omega)⟩
section
variable {P:aH} {L:Lib}
def ahV (h:Rm P L) (AO:Has P L 359 q8) (Fe:Has P L 364 Ey) {v:AV} {l:List (List Nat)} (hv:b6 v l) {n k:Nat} (hn:n<=1000) (jB:k<=1000) (hs:∀s,s∈l->s.length<9223372036854775808):ak P L 364 [v,ab n,ab k] (.bool (lR n k l)):=by
 have key:=fun hl:l.length<=1000=>fN (P:=P) (L:=L) (live:=[0,2,7]) (a:=D2)
  (I:=fun d st=>∃i:Nat,i+d=l.length/\(l.drop i).all (kW k)=l.all (kW k)/\st=⟨[(0,v),(2,ab k),(7,ab i)],[],0,0⟩)
  (Q:=fun ex st=>∃tm hp ct,st=⟨tm,hp,ct,0⟩/\((ex= .ret/\aj tm 6= .bool false/\l.all (kW k)=false)\/(ex= .exit 0/\l.all (kW k)=true))) (?_:∀(d:Nat) (st:St),_->_)
 ·unfold ak;rw [aI Fe];unfold lR;by_cases hl:l.length<=n
  ·simp only [go_sem,ya,Ey,hv.len,show ¬(n:Int)<l.length by omega,yv];generalize hq:D P L (.loop [0,2,7] D2) _=q;obtain ⟨ex,st,rfl,tm,hp,ct,rfl,h2⟩:=bI hq (key (by omega) l.length) ⟨0,by omega,rfl,by simp only [go_sem,ya,av,au hv.pu,ax _ hv.pu]<;>rfl⟩
   rw [xi hl,xH];rcases h2 with ⟨rfl,h3,h4⟩ | ⟨rfl,h4⟩
   ·rw [h4];simp only [go_sem,h3]
   ·rw [h4];simp only [go_sem,av]
  ·simp only [go_sem,ya,Ey,hv.len,show (n:Int)<l.length by omega,yu,y7 hl,xO]
 ·rintro d st ⟨i,hk,hf,rfl⟩;by_cases hi:i<l.length
  ·have e2:=azn h AO jB (hs _ (yp hi));unfold ak at e2;have hd:(l.drop i).all (kW k)=(kW k l[i]&&(l.drop (i+1)).all (kW k)):=by rw [yX hi,yae]
   rw [hd] at hf
   cases hb:kW k l[i] with
   | false=>
    right
    rw [hb] at e2;simp only [go_sem,ya,D2,hv.len,show (i:Int)<l.length by omega,hv.aM hi,e2];refine ⟨_,_,rfl,by simp,_,_,_,rfl,.inl ⟨rfl,by simp only [go_sem],?_⟩⟩;rw [<-hf,hb,xO]
   | true=>
    left
    rw [hb] at e2;simp only [go_sem,ya,D2,hv.len,show (i:Int)<l.length by omega,hv.aM hi,e2];rw [hb,xH] at hf;refine ⟨_,d-1,rfl,by omega,i+1,by omega,hf,?_⟩;rw [wrap64 (by omega) (by omega)];simp only [go_sem,ya,av,au hv.pu,ax _ hv.pu]<;>rfl
  ·right
   simp only [go_sem,ya,D2,hv.len,show ¬(i:Int)<l.length by omega];refine ⟨_,_,rfl,by simp,_,_,_,rfl,.inr ⟨rfl,?_⟩⟩;rw [<-hf,xj (by omega)];rfl
def aBE (h:Rm P L) (AO:Has P L 359 q8) (Fe:Has P L 364 Ey) (XW:Has P L 432 IZ) {v:AV} {M:List (List (List Nat))} (hv:cx b6 v M) (hE:jK M=0) {n c k:Nat} (hn:n<=1000) (hc:c<=1000) (jB:k<=1000) (hs:∀r,r∈M->∀s,s∈r->s.length<9223372036854775808):ak P L 432 [v,ab n,ab c,ab k] (.bool (Fc n c k M)):=by
 obtain ⟨m0,m64,ho⟩:=Ie hE;obtain ⟨r0,R9,eN,e0⟩:=hv.aM (i:=0) m0;have pn:M[0].length=wd M:=(ho _ (yp m0)).1;have key:=fN (P:=P) (L:=L) (live:=[0,2,3,9]) (a:=D5)
  (I:=fun d st=>∃i:Nat,i+d=M.length/\(M.drop i).all (lR c k)=M.all (lR c k)/\st=⟨[(0,v),(2,ab c),(3,ab k),(9,ab i)],[],0,0⟩)
  (Q:=fun ex st=>∃tm hp ct,st=⟨tm,hp,ct,0⟩/\((ex= .ret/\aj tm 8= .bool false/\M.all (lR c k)=false)\/(ex= .exit 0/\M.all (lR c k)=true))) ?_
 ·unfold ak;rw [aI XW];unfold Fc;by_cases hl:M.length<=n
  ·simp only [go_sem,ya,IZ,hv.len,show ¬(n:Int)<M.length by omega,yv];generalize hq:D P L (.loop [0,2,3,9] D5) _=q;obtain ⟨ex,st,rfl,tm,hp,ct,rfl,h2⟩:=bI hq (key M.length) ⟨0,by omega,rfl,by simp only [go_sem,ya,av,au hv.pu,ax _ hv.pu]<;>rfl⟩
   rw [xi hl,xH];rcases h2 with ⟨rfl,h3,h4⟩ | ⟨rfl,h4⟩
   ·rw [h4];simp only [go_sem,h3]
   ·rw [h4];simp only [go_sem,av]
  ·simp only [go_sem,ya,IZ,hv.len,show (n:Int)<M.length by omega,yu,y7 hl,xO]
 ·rintro d st ⟨i,hk,hf,rfl⟩;by_cases hi:i<M.length
  ·obtain ⟨r,rest,hr,e1⟩:=hv.aM hi;have ZH:M[i].length=wd M:=(ho _ (yp hi)).1;have e2:=ahV h AO Fe hr (n:=c) (k:=k) hc jB (hs _ (yp hi));unfold ak at e2;have hd:(M.drop i).all (lR c k)=(lR c k M[i]&&(M.drop (i+1)).all (lR c k)):=by rw [yX hi,yae]
   rw [hd] at hf;have li:(M[i].length:Int)=M[0].length:=by omega
   cases hb:lR c k M[i] with
   | false=>
    right
    rw [hb] at e2;simp only [go_sem,ya,D5,hv.len,show (i:Int)<M.length by omega,e1,hr.len,hr.ao,mU,e0,eN.len,li,yu,yQ,e2];refine ⟨_,_,rfl,by simp,_,_,_,rfl,.inl ⟨rfl,by simp only [go_sem],?_⟩⟩;rw [<-hf,hb,xO]
   | true=>
    left
    rw [hb] at e2;simp only [go_sem,ya,D5,hv.len,show (i:Int)<M.length by omega,e1,hr.len,hr.ao,mU,e0,eN.len,li,yu,yQ,e2];rw [hb,xH] at hf;refine ⟨_,d-1,rfl,by omega,i+1,by omega,hf,?_⟩;rw [wrap64 (by omega) (by omega)];simp only [go_sem,ya,av,au hv.pu,ax _ hv.pu]<;>rfl
  ·right
   simp only [go_sem,ya,D5,hv.len,show ¬(i:Int)<M.length by omega];refine ⟨_,_,rfl,by simp,_,_,_,rfl,.inr ⟨rfl,?_⟩⟩;rw [<-hf,xj (by omega)];rfl
end
end
section
open Go (IntKind)
section
variable {P:aH} {L:Lib}
def axU {v xv kv:AV} (hp0:aZ v=true) (bi:aZ xv=true) {Q:Mx} (hk:cx b6 kv (Q.map (wE RT))) {i p:Nat} (hi:i<Q.length) (hl:Q[i].length<=1000) (hp:p<Q[i].length) (h0:∀k,k<p->cF Q[i] k=0) (h1:cF Q[i] p≠0) {z n:Int}:
  ∀(d:Nat) (st:St),(∃j:Nat,aQ [0,1,5,11,12,13,94,95] st=⟨[(0,v),(1,xv),(5,kv),(11,ab z),(12,ab i),(13,ab j),(94,ab n),(95,ab i)],[],0,0⟩/\j+d=p)->
   ∃ex s',D P L (.loop [0,1,5,11,12,13,94,95] H5) st=some (ex,s')/\∃tm ct,s'=⟨tm,[],ct,0⟩/\ex= .exit 2/\aj tm 0=v/\aj tm 1=xv/\aj tm 5=kv/\aj tm 11=ab z/\aj tm 12=ab i/\aj tm 13=ab p/\aj tm 94=ab n/\aj tm 95=ab i:=by
 intro dq sq;generalize bk:aQ [0,1,5,11,12,13,94,95] sq=s0;revert bk s0 sq dq;apply di;rintro d st ⟨j,rfl,hd⟩;obtain ⟨r,rest,hr,e0⟩:=hk.aM (i:=i) (by rw [yk];exact hi)
 rw [xg] at hr;have e1:=hr.aM (i:=j) (by rw [yk];omega);rw [xg] at e1;have hj:(j:Int)<(Q[i].map RT).length:=by rw [yk];omega
 have Df:=ag0 (Q[i]'hi)[j];by_cases Br:j<p
 ·left
  have hz:Q[i][j]=0:=by have:=h0 j Br;rwa [fE (by omega)] at this
  rw [hz] at Df e1;simp only [go_sem,ya,H5,e0,hr.len,hj,e1,yu,jN,Df];refine ⟨_,d-1,rfl,by omega,j+1,?_,by omega⟩;rw [wrap64 (by omega) (by omega)];simp only [go_sem,ya,av,au hp0,ax _ hp0,au bi,ax _ bi,au hk.pu,ax _ hk.pu]<;>rfl
 ·right
  have:j=p:=by omega
  subst this;have hz:Q[i][j]≠0:=by rwa [fE hp] at h1
  rw [y7 hz] at Df;simp only [go_sem,ya,H5,e0,hr.len,hj,e1,yu,jN,Df];exact ⟨_,_,rfl,by simp,_,_,rfl,rfl,by simp only [go_sem,ya],by simp only [go_sem,ya],by simp only [go_sem,ya],by simp only [go_sem,ya],by simp only [go_sem,ya],by simp only [go_sem,ya],by simp only [go_sem,ya],by simp only [go_sem,ya]⟩
def axV {v xv kv:AV} (hp0:aZ v=true) (bi:aZ xv=true) {Q:Mx} (hk:cx b6 kv (Q.map (wE RT))) {w:Nat} (hw:∀r,r∈Q->r.length=w) {i p:Nat} (hi:i<Q.length) (hl:Q.length<=1000) (hp:p<w) (h0:∀o (ho:o<Q.length),o≠i->cF Q[o] p=0) {z n:Int}:
  ∀(d:Nat) (st:St),(∃o:Nat,aQ [0,1,5,11,12,13,94,95,159,160] st=⟨[(0,v),(1,xv),(5,kv),(11,ab z),(12,ab i),(13,ab p),(94,ab n),(95,ab i),(159,ab Q.length),(160,ab o)],[],0,0⟩/\o+d=Q.length)->
   ∃ex s',D P L (.loop [0,1,5,11,12,13,94,95,159,160] D3) st=some (ex,s')/\∃tm ct,s'=⟨tm,[],ct,0⟩/\ex= .exit 4/\aj tm 0=v/\aj tm 1=xv/\aj tm 5=kv/\aj tm 11=ab z/\aj tm 12=ab i/\aj tm 94=ab n/\aj tm 95=ab i:=by
 intro dq sq;generalize bk:aQ [0,1,5,11,12,13,94,95,159,160] sq=s0;revert bk s0 sq dq;apply di;rintro d st ⟨o,rfl,hd⟩;obtain ⟨r,rest,hr,e0⟩:=hk.aM (i:=i) (by rw [yk];exact hi)
 rw [xg] at hr;by_cases ho:o<Q.length
 ·left
  obtain ⟨q,azu,hq,e1⟩:=hk.aM (i:=o) (by rw [yk];exact ho)
  rw [xg] at hq;have wo:=hw _ (yp ho);have wi:=hw _ (yp hi);have e2:=hq.aM (i:=p) (by rw [yk];omega);rw [xg] at e2;have hoq:(o:Int)<Q.length:=by omega
  have hlen:((Q[o].map RT).length:Int)=(Q[i].map RT).length:=by rw [yk,yk];omega
  have Df:=ag0 ((Q[o]'ho)[p]'(by omega));have wn:IntKind.wrap .i64 ((o:Int)+1)=((o+1:Nat):Int):=wrap64 (by omega) (by omega);by_cases hoi:o=i
  ·subst hoi;simp only [go_sem,ya,D3,hoq,yu,e0,hr.len,yQ];refine ⟨_,d-1,rfl,by omega,o+1,?_,by omega⟩;rw [wn];simp only [go_sem,ya,av,au hp0,ax _ hp0,au bi,ax _ bi,au hk.pu,ax _ hk.pu]<;>rfl
  ·have aBF:¬(o:Int)=i:=by omega
   have hz:(Q[o]'ho)[p]'(by omega)=0:=by have:=h0 o ho hoi;rwa [fE (by omega)] at this
   rw [xi hz] at Df;simp only [go_sem,ya,D3,hoq,yu,e0,e1,e2,hr.len,hq.len,hlen,yQ,aBF,yv,yR,qF,Df];refine ⟨_,d-1,rfl,by omega,o+1,?_,by omega⟩;rw [wn];simp only [go_sem,ya,av,au hp0,ax _ hp0,au bi,ax _ bi,au hk.pu,ax _ hk.pu]<;>rfl
 ·right
  simp only [go_sem,ya,D3,show ¬(o:Int)<Q.length by omega,yv];exact ⟨_,_,rfl,by simp,_,_,rfl,rfl,by simp only [go_sem,ya],by simp only [go_sem,ya],by simp only [go_sem,ya],by simp only [go_sem,ya],by simp only [go_sem,ya],by simp only [go_sem,ya],by simp only [go_sem,ya]⟩
def jd (X q:List Rat):List Rat:=List.zipWith (fun x q=>x+3*q) X q
def LZ {X q:List Rat} (h:q.length=X.length):(jd X q).length=X.length:=by simp [jd,h]
def aBG:RT 3=[51]:=by decide
def XX:Hq 2 3:=⟨by decide,by decide⟩
def axW (h:Rn P L) {v xv kv:AV} (hp0:aZ v=true) {X:List Rat} (hx:b6 xv (X.map RT)) {Q:Mx} (hk:cx b6 kv (Q.map (wE RT))) {i:Nat} (hi:i<Q.length) (hl:X.length<=1000) (hq:Q[i].length=X.length) {K:Nat} (hK:K<=1000000) (kx:∀x,x∈X->Hq K x) (kq:∀x,x∈Q[i]->Hq K x) {z n:Int}:
  ∀(d:Nat) (st:St),(∃c:Nat,aQ [0,1,5,11,12,15,94,95,191,192] st=⟨[(0,v),(1,xv),(5,kv),(11,ab z),(12,ab i),(15,oV 0 c),(94,ab n),(95,ab i),(191,ab X.length),(192,ab c)],oH 0 1 (cr ((jd X Q[i]).take c)) [] c,oC 0 c,0⟩/\c+d=X.length)->
   ∃ex s',D P L (.loop [0,1,5,11,12,15,94,95,191,192] D4) st=some (ex,s')/\∃tm ct,s'=⟨tm,oH 0 1 (cr (jd X Q[i])) [] X.length,ct,0⟩/\ex= .exit 6/\aj tm 0=v/\aj tm 1=xv/\aj tm 5=kv/\aj tm 11=ab z/\aj tm 12=ab i/\aj tm 15=oV 0 X.length/\aj tm 94=ab n/\aj tm 95=ab i:=by
 intro dq sq;generalize bk:aQ [0,1,5,11,12,15,94,95,191,192] sq=s0;revert bk s0 sq dq;apply di;rintro d st ⟨c,rfl,hd⟩;have lm:=LZ hq;by_cases hc:c<X.length
 ·left
  obtain ⟨r,rest,hr,e0⟩:=hk.aM (i:=i) (by rw [yk];exact hi)
  rw [xg] at hr;have e1:=hr.aM (i:=c) (by rw [yk];omega);have e2:=hx.aM (i:=c) (by rw [yk];omega);rw [xg] at e1 e2;have k1:=kq _ (yp (show c<Q[i].length by omega));have k2:=kx _ (yp hc);have m1:=ahM h XX k1 (by omega);rw [aBG] at m1;have m2:=ahN h.toRp k2 (XX.mul k1) (by omega);unfold ak at m1 m2;have hs:cr ((jd X Q[i]).take (c+1))=cr ((jd X Q[i]).take c)++[.str (RT (X[c]+3*(Q[i])[c]'(by omega)))]:=by
   rw [List.take_succ_eq_append_getElem (by omega)];simp [cr,jd]
  have hcx:(c:Int)<X.length:=by omega
  have wn:IntKind.wrap .i64 ((c:Int)+1)=((c+1:Nat):Int):=wrap64 (by omega) (by omega)
  cases c with
  | zero=>
   simp only [oV,oH,oC];simp only [go_sem,ya,yb,Nat.reduceMul,Nat.reduceLT,yy,yi,D4,hcx,yu,e0,e1,e2,m1,m2,im,wn];refine ⟨_,d-1,rfl,by omega,1,?_,by omega⟩;rw [hs];simp only [go_sem,ya,yb,av,au hp0,ax _ hp0,au hx.pu,ax _ hx.pu,au hk.pu,ax _ hk.pu,List.take_zero,cr,List.map_nil,List.nil_append]<;>rfl
  | succ c=>
   simp only [oV,oH,oC];simp only [go_sem,ya,yb,yy,yi,D4,hcx,yu,e0,e1,e2,m1,m2]
   rw [gY (ex:=false) (pu:=true) (cs:=cr ((jd X Q[i]).take (c+1))) (by simp only [go_sem,ya]) (by rw [ag3,yI,lm];omega) (by omega) (by omega) (by decide) (by simp only [go_sem])];simp only [go_sem,ya,yb,wn];refine ⟨_,d-1,rfl,by omega,c+1+1,?_,by omega⟩;rw [hs];simp only [go_sem,ya,yb,av,au hp0,ax _ hp0,au hx.pu,ax _ hx.pu,au hk.pu,ax _ hk.pu]<;>rfl
 ·right
  have:c=X.length:=by omega
  subst this;rw [List.take_of_length_le (by omega)];simp only [go_sem,ya,D4,show ¬(X.length:Int)<X.length by omega,yv];exact ⟨_,_,rfl,by simp,_,_,rfl,rfl,by simp only [go_sem,ya],by simp only [go_sem,ya],by simp only [go_sem,ya],by simp only [go_sem,ya],by simp only [go_sem,ya],by simp only [go_sem,ya],by simp only [go_sem,ya],by simp only [go_sem,ya]⟩
def axX (h:Rn P L) (zh:Has P L 352 Ew) {v xv kv:AV} {M:Mx} (hv:cx b6 v (M.map (wE RT))) {X:List Rat} (hx:b6 xv (X.map RT)) {Q:Mx} (hk:cx b6 kv (Q.map (wE RT))) {i:Nat} (hi:i<Q.length) (ko:0<X.length) (hl:X.length<=1000) (Oz:M.length<=1000) (hq:Q[i].length=X.length) (hw:∀r,r∈M->r.length=X.length) {K:Nat} (rV:2<=K) (hK:K<=100000) (km:∀r,r∈M->∀x,x∈r->Hq K x) (kx:∀x,x∈X->Hq K x) (kq:∀x,x∈Q[i]->Hq K x) (kv':∀x,x∈jd X Q[i]->Hq (2*K+10) x) (hz:∀r,r∈M->jz r Q[i] X.length=0) (ZI:∀r,r∈M->jz r (jd X Q[i]) X.length=jz r X X.length) {z n:Int}:
  ∀(d:Nat) (st:St),(∃(r:Nat) (ZJ:Bool),aQ [0,1,5,11,12,15,94,95,213,214] st=⟨[(0,v),(1,xv),(5,kv),(11,ab z),(12,ab i),(15,.aC 0 0 X.length),(94,ab n),(95,ab i),(213,ab M.length),(214,ab r)],[(0,.cells ZJ true false 1 (cr (jd X Q[i])))],1,0⟩/\r+d=M.length)->
   ∃ex s',D P L (.loop [0,1,5,11,12,15,94,95,213,214] H6) st=some (ex,s')/\∃tm hp ct,s'=⟨tm,hp,ct,0⟩/\ex= .exit 8/\aj tm 0=v/\aj tm 1=xv/\aj tm 5=kv/\aj tm 11=ab z/\aj tm 94=ab n/\aj tm 95=ab i:=by
 intro dq sq;generalize bk:aQ [0,1,5,11,12,15,94,95,213,214] sq=s0;revert bk s0 sq dq;apply di;rintro d st ⟨r,ZJ,rfl,hd⟩;have lm:=LZ hq;by_cases hr:r<M.length
 ·left
  obtain ⟨q,rest,bK,e0⟩:=hk.aM (i:=i) (by rw [yk];exact hi)
  rw [xg] at bK;obtain ⟨a,azu,ha,e1⟩:=hv.aM (i:=r) (by rw [yk];exact hr)
  rw [xg] at ha;have hm:=yp hr;have wa:=hw _ hm;have p1:=XS h zh ha bK (by omega) (by omega) (km _ hm) kq rV rV (by omega);have p2:=XS h zh ha hx (by omega) (by omega) (km _ hm) kx rV rV (by omega);have hvm:b6 (.ai false X.length (cr (jd X Q[i]))) ((jd X Q[i]).map RT):=by
   have:=axS false (jd X Q[i])
   rwa [lm] at this
  have p3:=XS h zh ha hvm (by omega) (by omega) (km _ hm) kv' rV (by omega) (by omega);rw [wa,hz _ hm,XM] at p1;rw [wa] at p2 p3;rw [ZI _ hm] at p3;unfold ak at p1 p2 p3;have hrm:(r:Int)<M.length:=by omega
  have wn:IntKind.wrap .i64 ((r:Int)+1)=((r+1:Nat):Int):=wrap64 (by omega) (by omega);have es:=Hk (RT (jz M[r] X X.length));have es0:=Hk [48];have gS:=fun hp:Hp=>nW (hp:=hp) (k:=X.length) (sz:=1) (cs:=cr (jd X Q[i])) false (by rw [ag3,lm,yi]) (by decide)
  cases ZJ
  all_goals
   simp only [go_sem,ya,H6,hrm,yu,e0,e1,bK.ao,ha.ao,hx.ao,p1,p2,p3,qF,es,es0,yQ,gS];refine ⟨_,d-1,rfl,by omega,r+1,false,?_,by omega⟩;rw [wn];simp only [go_sem,ya,yb,av,au hv.pu,ax _ hv.pu,au hx.pu,ax _ hx.pu,au hk.pu,ax _ hk.pu]<;>rfl
 ·right
  simp only [go_sem,ya,H6,show ¬(r:Int)<M.length by omega,yv];exact ⟨_,_,rfl,by simp,_,_,_,rfl,rfl,by simp only [go_sem,ya],by simp only [go_sem,ya],by simp only [go_sem,ya],by simp only [go_sem,ya],by simp only [go_sem,ya],by simp only [go_sem,ya]⟩
end
end
section
open Go (IntKind)
def axY {id n:Nat} (h:0<n):oV id n= .aC id 0 n:=by cases n with | zero=>omega | succ n=>rfl
def axZ {id z n:Nat} {cs:List AV} {r:Hp} (h:0<n):oH id z cs r n=(id,.cells true true false z cs)::r:=by cases n with | zero=>omega | succ n=>rfl
def L2 (a b:List Rat):∀k,jz a b k=sm (fun j=>cF a j*cF b j) k
 | 0=>rfl
 | k+1=>by rw [jz,sm,L2 a b k]
def Hm:∀{l:List Int},(∀x,x∈l->x=0)->b9 l=0
 | [],_=>rfl
 | x::l,h=>by
  unfold b9;rw [yE (h x vV)];exact Hm (fun y hy=>h y (wS _ hy))
def Ps (pv:List Nat):Nat->Int
 | 0=> -1
 | i+1=>pv.getD i 0
section
variable {P:aH} {L:Lib}
def ax0 (h:Rxi P L) (rq:Has P L 261 Cq) (zh:Has P L 352 Ew) {v xv kv:AV} {M:Mx} (hv:cx b6 v (M.map (wE RT))) (m0:0<M.length) (Oz:M.length<=1000) {w:Nat} (hw:∀r,r∈M->r.length=w) (pn:0<w) (CV:w<=1000) {X:List Rat} (hx:b6 xv (X.map RT)) (lX:X.length=w) {Q:Mx} {pv:List Nat} (hk:cx b6 kv (Q.map (wE RT))) (hQ:Sb M w Q pv) (hQl:Q.length<=1000) {K:Nat} (rV:2<=K) (hK:K<=1800) (km:∀r,r∈M->∀x,x∈r->Hq K x) (kx:∀x,x∈X->Hq K x) (kq:∀r,r∈Q->∀x,x∈r->Hq K x):
  ∀(d:Nat) (st:St),(∃i:Nat,aQ [0,1,5,11,94,95] st=⟨[(0,v),(1,xv),(5,kv),(11,ab (Ps pv i)),(94,ab Q.length),(95,ab i)],[],0,0⟩/\i+d=Q.length)->
   ∃ex s',D P L (.loop [0,1,5,11,94,95] H7) st=some (ex,s')/\∃tm hp ct,s'=⟨tm,hp,ct,0⟩/\ex= .exit 0:=by
 intro dq sq;generalize bk:aQ [0,1,5,11,94,95] sq=s0;revert bk s0 sq dq;apply di;rintro d st ⟨i,rfl,hd⟩;by_cases hi:i<Q.length
 ·left
  have nU:i<pv.length:=by have:=hQ.len;omega
  obtain ⟨p,hp⟩:∃p,p=pv[i]:=⟨_,rfl⟩;have KB:p<w:=by rw [hp];exact hQ.lt _ (yp nU)
  have hQw:∀r,r∈Q->r.length=w:=fun r hr=>HA hQ.wid hr
  have wi:=hQw _ (yp hi);obtain ⟨q,rest,hq,e0⟩:=hk.aM (i:=i) (by rw [yk];exact hi)
  obtain ⟨r0,R9,eN,e1⟩:=hv.aM (i:=0) (by rw [yk];exact m0)
  rw [xg] at hq eN;have w0:=hw _ (yp m0);have e2:=hq.aM (i:=p) (by rw [yk];omega);rw [xg] at e2;have eE:∀o (ho:o<Q.length) k,E Q o k=cF Q[o] k:=fun o ho k=>by unfold E;rw [dS ho]
  have eB:(Q[i]'hi)[p]'(by omega)=1:=by
   have:=hQ.one i nU i hi
   rw [yE rfl,eE i hi,<-hp,fE (by omega)] at this;exact this
  rw [eB,aBo] at e2;have KE:=kq _ (yp hi);have c0:ak P L 261 [q] (ab 0):=by
   have:=azk h.toRm rq hq (by rw [yk];omega) (fun s hs=>by
    obtain ⟨x,hx,rfl⟩:=wm.1 hs
    have:=Mf (KE x hx)
    omega)
   rw [Hm (fun z hz=>by
    obtain ⟨s,hs,rfl⟩:=wm.1 hz;obtain ⟨x,hx,rfl⟩:=wm.1 hs
    exact axF (KE x hx) hK)] at this
   exact this
  unfold ak at c0;have hlen:((Q[i].map RT).length:Int)=(M[0].map RT).length:=by rw [yk,yk];omega
  have fe:¬(p:Int)=(Q[i].map RT).length:=by rw [yk];omega
  have hat:¬(p:Int)<=Ps pv i:=by
   cases i with
   | zero=>show ¬(p:Int)<=-1;omega
   | succ j=>
    have:=hQ.inc j (j+1) (by omega) nU (by omega)
    show ¬(p:Int)<=(pv.getD j 0:Nat)
    rw [show pv.getD j 0=pv[j] by simp [yz,yK (show j<pv.length by omega)]];omega
  have hnx:Ps pv (i+1)=p:=by
   show ((pv.getD i 0:Nat):Int)=p
   rw [hp,show pv.getD i 0=pv[i] by simp [yz,yK nU]]
  have f0:=axU (P:=P) (L:=L) hv.pu hx.pu hk hi (by omega) (p:=p) (by omega) (fun k hk=>by rw [<-eE i hi];exact hQ.left i nU k (by omega)) (by rw [<-eE i hi,hp,hQ.one i nU i hi,yE rfl];decide) (z:=Ps pv i) (n:=Q.length) p
  have f1:=axV (P:=P) (L:=L) hv.pu hx.pu hk hQw hi hQl KB (fun o ho bN=>by rw [<-eE o ho,hp,hQ.one i nU o ho,yr bN]) (z:=p) (n:=Q.length) Q.length;have f2:=axW h.toRn hv.pu hx hk hi (by omega) (by omega) (K:=K) (by omega) kx KE (z:=p) (n:=Q.length) X.length;have eM:∀r (hr:r<M.length) k,E M r k=cF M[r] k:=fun r hr k=>by unfold E;rw [dS hr]
  have hz:∀r,r∈M->jz r Q[i] X.length=0:=fun r hr=>by
   obtain ⟨j,hj,rfl⟩:=xL.1 hr
   have:=hQ.GK i hi j hj
   rw [L2,lX]
   rw [gX (g:=fun k=>cF M[j] k*cF Q[i] k) (fun k _=>by rw [eM j hj,eE i hi])] at this;exact this
  have em:∀k,k<w->cF (jd X Q[i]) k=cF X k+3*cF Q[i] k:=fun k hk=>by
   rw [fE (by rw [LZ (by omega)];omega),fE (by omega),fE (by omega)];simp [jd]
  have ZI:∀r,r∈M->jz r (jd X Q[i]) X.length=jz r X X.length:=fun r hr=>by
   have Fh:=hz r hr;rw [L2,lX] at Fh ⊢
   rw [L2,gX (g:=fun k=>cF r k*cF X k+3*(cF r k*cF Q[i] k)) (fun k hk=>by rw [em k hk];grind),B4,pN,Fh];grind
  have kmv:∀x,x∈jd X Q[i]->Hq (2*K+10) x:=fun x hx=>by
   obtain ⟨k,hk,rfl⟩:=xL.1 hx;have nF:=hk;rw [LZ (by omega)] at nF;simp only [jd,List.getElem_zipWith];exact ((kx _ (yp nF)).add (XX.mul (KE _ (yp (by omega))))).mono (by omega)
  have f3:=axX h.toRn zh hv hx hk hi (by omega) (by omega) Oz (by omega) (fun r hr=>by rw [hw r hr,lX]) rV (by omega) km kx KE kmv hz ZI (z:=p) (n:=Q.length) M.length;have hiq:(i:Int)<Q.length:=by omega
  have wn:IntKind.wrap .i64 ((i:Int)+1)=((i+1:Nat):Int):=wrap64 (by omega) (by omega);have e49:=Hk [49];have lkv:∀hp:Hp,fp hp 1 kv=some (ab Q.length):=fun hp=>by have:=hk.len (hp:=hp);rwa [yk] at this
  have lxv:∀hp:Hp,fp hp 1 xv=some (ab X.length):=fun hp=>by have:=hx.len (hp:=hp);rwa [yk] at this
  have lv:∀hp:Hp,fp hp 1 v=some (ab M.length):=fun hp=>by have:=hv.len (hp:=hp);rwa [yk] at this
  simp only [go_sem,ya,H7,hiq,yu,e0,e1,mU,hq.len,hq.ao,eN.len,hlen,yQ,c0];generalize bk:D P L (.loop [0,1,5,11,12,13,94,95] H5) _=q0;obtain ⟨ex,st,rfl,tm,ct,rfl,rfl,t0,t1,t5,t11,t12,t13,t94,t95⟩:=bI bk f0 ⟨0,by simp only [go_sem,ya,av,au hv.pu,ax _ hv.pu,au hx.pu,ax _ hx.pu,au hk.pu,ax _ hk.pu]<;>rfl,by omega⟩
  simp only [go_sem,ya,av,t0,t1,t5,t11,t12,t13,t94,t95,au hv.pu,ax _ hv.pu,au hx.pu,ax _ hx.pu,au hk.pu,ax _ hk.pu,e0,e2,hq.len,fe,yv,qF,e49,yQ,hat,lkv];generalize eZ:D P L (.loop [0,1,5,11,12,13,94,95,159,160] D3) _=q1;obtain ⟨ex,st,rfl,tm,ct,rfl,rfl,t0,t1,t5,t11,t12,t94,t95⟩:=bI eZ f1 ⟨0,by simp only [go_sem,ya,av,au hv.pu,ax _ hv.pu,au hx.pu,ax _ hx.pu,au hk.pu,ax _ hk.pu]<;>rfl,by omega⟩
  simp only [go_sem,ya,av,t0,t1,t5,t11,t12,t94,t95,au hv.pu,ax _ hv.pu,au hx.pu,ax _ hx.pu,au hk.pu,ax _ hk.pu,lxv];generalize px:D P L (.loop [0,1,5,11,12,15,94,95,191,192] D4) _=q2;obtain ⟨ex,st,rfl,tm,ct,rfl,rfl,t0,t1,t5,t11,t12,t15,t94,t95⟩:=bI px f2 ⟨0,by simp only [go_sem,ya,av,oV,oH,oC,au hv.pu,ax _ hv.pu,au hx.pu,ax _ hx.pu,au hk.pu,ax _ hk.pu]<;>rfl,by omega⟩
  rw [axY (by omega)] at t15;rw [axZ (by omega)];simp only [go_sem,yb,av,t0,t1,t5,t11,t12,t15,t94,t95,au hv.pu,ax _ hv.pu,au hx.pu,ax _ hx.pu,au hk.pu,ax _ hk.pu,lv];generalize zG:D P L (.loop [0,1,5,11,12,15,94,95,213,214] H6) _=q3;obtain ⟨ex,st,rfl,tm,ap,ct,rfl,rfl,t0,t1,t5,t11,t94,t95⟩:=bI zG f3 ⟨0,true,by simp only [go_sem,ya,yb,av,au hv.pu,ax _ hv.pu,au hx.pu,ax _ hx.pu,au hk.pu,ax _ hk.pu]<;>rfl,by omega⟩
  simp only [go_sem,ya,av,t0,t1,t5,t11,t94,t95,au hv.pu,ax _ hv.pu,au hx.pu,ax _ hx.pu,au hk.pu,ax _ hk.pu,wn];refine ⟨_,d-1,rfl,by omega,i+1,?_,by omega⟩;rw [hnx];simp only [go_sem,ya,av,au hv.pu,ax _ hv.pu,au hx.pu,ax _ hx.pu,au hk.pu,ax _ hk.pu]<;>rfl
 ·right
  simp only [go_sem,ya,H7,show ¬(i:Int)<Q.length by omega,yv];exact ⟨_,_,rfl,by simp,_,_,_,rfl,rfl⟩
end
end
section
open Go (IntKind)
structure PB (P:aH) (L:Lib):Prop where
 m:Zx P L
 x:Rxi P L
 Fa:Has P L 204 oE
 JA:Has P L 205 IN
 rq:Has P L 261 Cq
 JB:Has P L 343 Ev
 XT:Has P L 347 M7
 Fb:Has P L 351 sS
 zh:Has P L 352 Ew
 AO:Has P L 359 q8
 Fe:Has P L 364 Ey
 JD:Has P L 431 Ct
 XW:Has P L 432 IZ
 azv:ak P L 179 [] (.bool true)
def ax1 {M:List (List (List Nat))} (m0:0<M.length) (m64:M.length<=64) (ho:∀r,r∈M->r.length=wd M/\0<r.length/\r.length<=64/\∀s,s∈r->cu s=0):jK M=0:=by
 unfold jK;rw [yr (by omega),yr (by omega)];refine Hm (fun z hz=>?_);obtain ⟨r,hr,rfl⟩:=wm.1 hz;obtain ⟨h1,h2,h3,h4⟩:=ho r hr;unfold ll;refine Hm (fun y hy=>?_);simp only [List.mem_cons,List.not_mem_nil,or_false] at hy;rcases hy with rfl | rfl | rfl | rfl
 ·rw [yr (by omega)]
 ·rw [yr (by omega)]
 ·rw [yE h1]
 ·refine Hm (fun y hy=>?_);obtain ⟨s,hs,rfl⟩:=wm.1 hy;exact h4 s hs
def atU {B:List (List (List Nat))} {w:Nat} (hc:∀r,r∈B->r.length=w):bQ (fM B w)=Pp (bQ B) w:=by
 unfold bQ fM Pp;rw [vT];refine vX fun c De=>?_
 have De:=wU.1 De;simp only [yah,j0,vT];refine vX fun r hr=>?_
 have h1:=hc r hr;simp only [yah];rw [fE (by rw [yk];omega),xg,yz,yK (show c<r.length by omega),vR]
def azw:gB (2^80) 4<(2^130)^10:=by decide
def ax2 {a b x n:Nat} (h:x<(2^a)^b) (hn:n=a*b):x<2^n:=by rw [hn,uW];exact h
def aru {n:Nat} (hn:n=130*10):gB (2^80) 4<2^n:=ax2 azw hn
def atV {A:List (List (List Nat))} (hA:jK A=0) (hf:Fc 5 5 4 A=true):A.length<=5/\wd A<=5/\(∀r,r∈A->∀s,s∈r->s.length<=10)/\ep 16 (bQ A):=by
 obtain ⟨m0,m64,ho⟩:=Ie hA;unfold Fc at hf;simp only [ye,xK,uT] at hf;obtain ⟨h1,h2⟩:=hf;have h3:∀r,r∈A->r.length<=5/\∀s,s∈r->kW 4 s=true:=fun r hr=>by
  have:=h2 r hr
  unfold lR at this;simp only [ye,xK,uT] at this;exact this
 refine ⟨h1,?_,fun r hr s hs=>?_,fun i hi x hx=>?_⟩
 ·have hm:=yp m0;rw [<-(ho _ hm).1];exact (h3 _ hm).1
 ·have:=(h3 r hr).2 s hs
  unfold kW at this;simp only [ye,xK] at this;omega
 ·unfold bQ at hi hx;rw [dS hi,xg] at hx;obtain ⟨s,hs,rfl⟩:=wm.1 hx
  exact (RM (k:=4) (by decide) ((h3 _ (yp _)).2 s hs)).2.2
section
variable {P:aH} {L:Lib}
def al5 (h:PB P L) {v xv:AV} {A:List (List (List Nat))} {l:List (List Nat)} (hv:cx b6 v A) (hx:b6 xv l) (ra:∀r,r∈A->∀s,s∈r->s.length<9223372036854775808) (rl:∀s,s∈l->s.length<9223372036854775808):ak P L 431 [v,xv] (.bool true):=by
 have ea:=h.azv;have c1:=aBA h.x.toRm h.rq h.JB hv ra;unfold ak at ea c1;by_cases hA:jK A=0
 case neg=>
  unfold ak;rw [aI h.JD];simp only [go_sem,ya,Ct,hv.ao,ea,yQ,yR,c1,hA,yv]
 have c2:ak P L 432 [v,.int .i64 5,.int .i64 5,.int .i64 4] (.bool (Fc 5 5 4 A)):=aBE h.x.toRm h.AO h.Fe h.XW hv hA (by decide) (by decide) (by decide) ra;unfold ak at c2;rw [hA] at c1
 cases hf:Fc 5 5 4 A with
 | false=>
  rw [hf] at c2;unfold ak;rw [aI h.JD];simp only [go_sem,ya,Ct,hv.ao,ea,yQ,yR,c1,yu,c2]
 | true=>
 rw [hf] at c2;obtain ⟨m0,m64,ho⟩:=Ie hA;obtain ⟨row,rest,mL,e0⟩:=hv.aM (i:=0) m0;have pn:A[0].length=wd A:=(ho _ (yp m0)).1;by_cases hl:l.length=wd A
 case neg=>
  unfold ak;rw [aI h.JD];simp only [go_sem,ya,Ct,hv.ao,hx.len,ea,yQ,yR,c1,yu,c2,mU,e0,mL.len,show ¬(l.length:Int)=A[0].length by omega,yv]
 have nH:(l.length:Int)=A[0].length:=by omega
 have c3:ak P L 364 [xv,.int .i64 5,.int .i64 4] (.bool (lR 5 4 l)):=ahV h.x.toRm h.AO h.Fe hx (n:=5) (k:=4) (by decide) (by decide) rl;unfold ak at c3
 cases oT:lR 5 4 l with
 | false=>
  rw [oT] at c3;unfold ak;rw [aI h.JD];simp only [go_sem,ya,Ct,hv.ao,hx.len,hx.ao,ea,yQ,yR,c1,yu,c2,mU,e0,mL.len,nH,c3]
 | true=>
 rw [oT] at c3;obtain ⟨a5,w5,Y9,CS⟩:=atV hA hf;have hw:=Lw (M:=A) (fun r hr=>(ho r hr).1);have J9:0<wd A:=by rw [<-pn];exact (ho _ (yp m0)).2.1
 have lM:=QG A;have hRT:=atL (A:=A) (fun r hr s hs=>(ho r hr).2.2.2 s hs);have ta:∀r,r∈A->r.length<=1000000/\∀s,s∈r->s.length<=1000000000:=fun r hr=>⟨by have:=(ho r hr).2.2.1;omega,fun s hs=>by have:=Y9 r hr s hs;omega⟩
 have p1:4^wd A<=4^5:=xb (by decide) w5;have p2:4^A.length<=4^5:=xb (by decide) a5;have hK:4^wd A*(4^A.length*(16+1)+1)<=400000000:=
  xf (xP p1 (Nat.add_le_add_right (yT _ p2) 1)) (by decide)
 have YN:∀s,s∈l->kW 4 s=true:=by
  unfold lR at oT;simp only [ye,xK,uT] at oT;exact oT.2
 have lRT:(l.map dB).map RT=l:=by
  rw [vT]
  conv=>rhs;rw [<-List.map_id l]
  refine vX fun s hs=>?_
  exact (DA (RM (k:=4) (by decide) (YN s hs)).2.1).1.symm
 have hQ:=atS hw;obtain ⟨q1,q2⟩:=axT hw (by omega) CS (by decide) (by rw [lM];exact hK)
 have ZE:∀i,i<(bQ A).length->SC (2^80) (wd A) (E (bQ A) i):=fun i hi=>by
  have ZH:=hw i hi;have h1:=ag5 (D:=2^16) (by decide) (gR (bQ A) i) (fun x hx=>by
   obtain ⟨b1,b2⟩:=CS i hi x hx;have b1:x.num.natAbs<2^16:=b1;have b2:(x.den:Int).natAbs<2^16:=b2;rw [xY] at b2
   omega)
  rw [ZH] at h1
  exact h1.mono (by
   rw [<-uW]
   exact xb (by decide) (by omega))
 have kq:=atT hw (by decide) ZE hQ (K:=130*10) (we (afT (by decide) (show wd A-1<=4 by omega)) (aru rfl)) (by decide);have kq':∀r,r∈gD (bQ A) (wd A)->∀x,x∈r->Hq 1300 x:=fun r hr x hx=>by
  obtain ⟨i,hi,rfl⟩:=xL.1 hr;obtain ⟨k,hk,rfl⟩:=xL.1 hx;have ZH:=HA hQ.wid (yp hi)
  have:=kq i hi k (by omega)
  unfold E at this;rw [dS hi,fE hk] at this;exact this.mono (by decide)
 have zm:mq (gD (bQ A) (wd A))=false:=by
  unfold mq;rw [yao];intro r hr;rw [yaA,yao];intro x hx;rw [yaA];exact azm (kq' r hr x hx) (by decide)
 obtain ⟨k,k1,k2⟩:=((aBz h.m h.Fa hv (by omega) ta).2 hA CS (by decide) hK).2 zm;have lkQ:∀hp:Hp,fp hp 1 (bT k)=some (ab (gD (bQ A) (wd A)).length):=fun hp=>by
  have:=k2.len (hp:=hp);rwa [yk] at this
 have hK5:4^A.length*(16+1)<=400000000:=xf (yT _ p2) (by decide);have r1:=(akb h.m h.JA hv (by omega) ta).2 hA CS (by decide) hK5;obtain ⟨t,t1,t2⟩:=aBC (P:=P) (L:=L) h.Fb h.XT hv m0 (by omega) (fun r hr=>(ho r hr).1) (by omega);have hrt:=atU (B:=A) (w:=wd A) (fun r hr=>(ho r hr).1);have lt:(fM A (wd A)).length=wd A:=by simp [fM]
 have rt:∀r,r∈fM A (wd A)->r.length=A.length/\∀s,s∈r->s.length<=10/\cu s=0:=fun r hr=>by
  obtain ⟨c,hc,rfl⟩:=wm.1 hr;have hc:=wU.1 hc;refine ⟨by simp [j0],fun s hs=>?_⟩;obtain ⟨r',bR,rfl⟩:=wm.1 hs;have A3:=(ho r' bR).1;rw [yz,yK (show c<r'.length by omega),vR];exact ⟨Y9 r' bR _ (yp _),(ho r' bR).2.2.2 _ (yp _)⟩
 have wt:wd (fM A (wd A))=A.length:=by
  unfold wd
  rw [Ix (M:=fM A (wd A)) (by omega)];exact (rt _ (yp _)).1
 have hT:jK (fM A (wd A))=0:=ax1 (by omega) (by omega) (fun r hr=>⟨by rw [wt];exact (rt r hr).1,by rw [(rt r hr).1];exact m0,by rw [(rt r hr).1];exact m64,fun s hs=>((rt r hr).2 s hs).2⟩)
 have kT:ep 160 (bQ (fM A (wd A))):=axK (fun r hr s hs=>⟨((rt r hr).2 s hs).2,by have:=((rt r hr).2 s hs).1;omega⟩);have hKT:4^(fM A (wd A)).length*(160+1)<=400000000:=by
  rw [lt];exact xf (yT _ p1) (by decide)
 have r2:=(akb h.m h.JA t2 (by omega) (fun r hr=>⟨by rw [(rt r hr).1];omega,fun s hs=>by have:=((rt r hr).2 s hs).1;omega⟩)).2 hT kT (by decide) hKT;have wT:wid A.length (bQ (fM A (wd A))):=by
  have:=Lw (M:=fM A (wd A)) (fun r hr=>by rw [wt];exact (rt r hr).1)
  rwa [wt] at this
 have hEE:∀i k,i<A.length->k<wd A->E (bQ (fM A (wd A))) k i=E (bQ A) i k:=fun i k hi hk=>by
  unfold E;rw [hrt,dS (by simp [Pp,hk]),dS (by omega)];simp only [Pp,xg,List.getElem_range];rw [fE (by rw [yk,lM];exact hi),xg]
 have lT:(bQ (fM A (wd A))).length=wd A:=by rw [QG,lt]
 have azx:(ay (bQ (fM A (wd A))) (wd (fM A (wd A)))).2.length=(ay (bQ A) (wd A)).2.length:=by
  rw [wt];exact yaP (afS hw wT lM lT hEE) (afS wT hw lT lM (fun i k hi hk=>(hEE k i hk hi).symm))
 rw [azx] at r2;have jr:=(pM hw (wd A)).pv;have kQ:=hQ.all;have f0:=ax0 h.x h.rq h.zh (M:=bQ A) (X:=l.map dB) (by rw [hRT];exact hv) (by omega) (by omega) (w:=wd A) (fun r hr=>HA hw hr) J9 (by omega) (by rw [lRT];exact hx) (by rw [yk];exact hl) k2 hQ (by omega) (K:=1300) (by decide) (by decide) (fun r hr x hx=>(Q8 CS hr x hx).mono (by decide)) (fun x hx=>by
  obtain ⟨s,hs,rfl⟩:=wm.1 hx
  exact (RM (k:=4) (by decide) (YN s hs)).2.2.mono (by decide)) kq' (gD (bQ A) (wd A)).length
 unfold ak at k1 r1 t1 r2;have w0:IntKind.wrap .i64 (0+0)=0:=rfl;have wk:IntKind.wrap .i64 (((ay (bQ A) (wd A)).2.length:Nat)+((gD (bQ A) (wd A)).length:Nat):Int)=((wd A:Nat):Int):=by
  rw [show (((ay (bQ A) (wd A)).2.length:Nat)+((gD (bQ A) (wd A)).length:Nat):Int)=((wd A:Nat):Int) by omega];exact wrap64 (by omega) (by omega)
 have n0:¬(((ay (bQ A) (wd A)).2.length:Nat):Int)<0:=by omega
 have n1:¬((A.length:Nat):Int)<((ay (bQ A) (wd A)).2.length:Nat):=by omega
 have n2:((wd A:Nat):Int)=A[0].length:=by omega
 unfold ak;rw [aI h.JD];simp only [go_sem,ya,Ct,hv.len,hv.ao,hx.len,hx.ao,ea,yQ,c1,yu,c2,mU,e0,mL.len,nH,c3,k1,Dy,Dq,Dt,lkQ,La,r1,t1,t2.ao,r2,w0,n0,n1,yv,wk,n2];generalize hq:D P L (.loop [0,1,5,11,94,95] H7) _=q;obtain ⟨ex,st,rfl,tm,hp,ct,rfl,rfl⟩:=bI hq f0 ⟨0,by simp only [go_sem,ya,av,au hv.pu,ax _ hv.pu,au hx.pu,ax _ hx.pu,au k2.pu,ax _ k2.pu]<;>rfl,by omega⟩
 simp only [go_sem,av]
end
end
section
open Go (IntKind)
abbrev GU:List Ty:=[.sl Iy,Iy]
def al1 {P:aH} {L:Lib} (h:PB P L) {ls:List (List AV)} (hs:cz ml GU ls):ak P L 431 (Iv GU ls) (.bool true):=by
 obtain ⟨_,_,rfl,h1,h2⟩:=axk hs;obtain ⟨u,A,rfl,hu,ra⟩:=atM h1;obtain ⟨v,l,rfl,hv,rb⟩:=acE h2;exact al5 h hu hv ra rb
end
section
namespace J2
open Go Go.Proofs
def T:List (Tr an):=[.n 179 [.o 7 [] (.bool true)] .l .l]
def L0:VE.Lib:=RH VE.aD 99 LS
def L1:VE.Lib:=M8 L0 T 1000
def nu:Nu VE.prog VE.aD:=by
 repeat' (first | rfl | constructor)
def lw:PB VE.prog L1:=by
 repeat' (first | rfl | constructor)
section
variable {W:World} {m:Int} (hm:W.cell? ⟨1,0,none⟩=some (.int .i64 m)) (ht:Go.Lib.TabIs Tryz.prog W "internal/strconv.uint64pow10" .u64 Go.Lib.pow10Tab)
include hm ht
def linked:eA ((J1.O W).sj L1):=by
 have hO:=J1.ar7 hm ht;have hs:=ao8 hO nu rfl rfl rfl ⟨rfl,rfl,rfl⟩ (fn:=Tryz.f172) (c:=AM) Tryz.func172 rfl rfl trivial are;have hT:eH (J1.O W) T:=eH.cons (Tr.jf (jX.one (pc.holds hO rfl rfl)) Tr.ix Tr.ix) eH.nil;exact ac2 (ao9 hO hs) hT 1000
def law {ls:List (List AV)} (hs:cz ml GU ls):ef (J1.O W) 431 (Iv GU ls) (.bool true):=by
 obtain ⟨k,hk⟩:=agH (al1 lw hs);exact sound (linked hm ht) hk
end
end J2
end
end VE
