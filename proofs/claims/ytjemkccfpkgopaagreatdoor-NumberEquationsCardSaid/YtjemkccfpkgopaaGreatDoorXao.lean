import Derived.ChangeSlices
import Derived.ChangeReads
import Derived.ChangeSame
import Derived.OpenShut
import Derived.Lib.AtoiErrMem
import Derived.Laws.Externs
import Derived.Attr
import Derived.Test.YtjemkccfpkgopaaGreatDoorXah
import Derived.Test.YtjemkccfpkgopaaGreatDoorXad
import Derived.Test.YtjemkccfpkgopaaGreatDoorXaf
import Derived.Test.YtjemkccfpkgopaaGreatDoorXan
import Derived.Test.YtjemkccfpkgopaaGreatDoorXag
set_option linter.all false
set_option maxRecDepth 100000
open Array renaming getElem?_eq_some_iff→xt
open Bool renaming and_eq_true→ye,and_true→vt,true_and→xQ
open Go renaming Addr→uz,ChangeSpec→ybw,DataW→xz,Field→uL,IntKind→y9,MemPlace→wF,Program→y5,TypeId→yC,Value→yg,World→yi
open Int renaming ediv_emod_unique→tf,gcd→vc,gcd_dvd_left→tn,gcd_dvd_right→uZ,mul_ediv_cancel'→yaj,natAbs_ediv_of_dvd→uj,tdiv_eq_ediv_of_dvd→tQ,tmod_eq_emod_of_nonneg→wo
open List renaming all_cons→yap,append_nil→wD,cons_append→xm,drop→ui,drop_drop→vT,drop_eq_getElem_cons→yU,drop_eq_nil_of_le→xe,drop_zero→yK,eq_nil_of_length_eq_zero→yx,flatMap_cons→yaw,getD_cons_succ→yai,getD_eq_getElem?_getD→y7,getElem?_cons_zero→vM,getElem?_eq_getElem→xU,length→yae,length_append→yL,length_cons→yz,length_map→yt,length_nil→yO,length_singleton→uF,length_take→yI,mapM_cons→ue,mapM_nil→tL,map_cons→xc,mem_append_left→uM,mem_append_right→vv,mem_flatMap→ux,nil_append→xG,range→vh,range'→wv,range'_succ→vZ,range'_zero→yaE,range_eq_range'→yab,replicate→ym,replicate_succ→wC,set_cons_succ→yao,take_append_drop→xO,take_length→xx,take_of_length_le→yG,take_succ_eq_append_getElem→yY
open Nat renaming add_mul→wL,add_sub_cancel→tC,add_zero→y8,beq→yu,beq_refl→wV,ble→yE,ble_eq_true_of_le→yo,blt→yR,div_le_self→vI,eq_of_beq_eq_true→yj,eq_zero_or_pos→xk,gcd→wI,gcd_comm→uV,gcd_rec→ybF,le_div_iff_mul_le→yaf,le_max_left→vX,le_max_right→vR,le_of_ble_eq_true→yv,le_of_lt→uU,le_refl→yr,lt_of_le_of_lt→wQ,lt_of_lt_of_le→yT,lt_of_mul_lt_mul_right→tF,min_eq_left→xn,mod_eq_of_lt→yW,mod_lt→xy,mul_add→xA,mul_assoc→xj,mul_comm→xE,mul_le_mul_left→yZ,mul_le_mul_right→yV,mul_pos→tW,mul_zero→xB,pow_le_pow_right→xh,pow_succ→xd,reduceAdd→yb,reduceEqDiff→ya,strongRecOn→vN,zero_add→yf
open Option renaming bind_eq_bind→vG,bind_some→xN,map_some→wP,pure_def→wU
open Option.some renaming injEq→yd
open Prod.mk renaming injEq→yk
namespace VE
section
open Go
section
variable (P:y5)
def D1 (self:yC->Bool):List uL->Nat->Nat->Bool
 | [],o,n=>yu o n
 | f::r,o,n=>yu f.offset o&&(self f.type&&D1 self r (o+P.cellsOf f.type) n)
def flat:Nat->yC->Bool
 | 0,_=>false
 | n+1,t=>
  match P.underlying t with
  | some .bool | some (.int _) | some (.float _) | some .string=>yu (P.cellsOf t) 1
  | some (.slice e)=>yu (P.cellsOf t) 1&&(yR 0 (P.cellsOf e)&&flat n e)
  | some (.struct fs)=>D1 P (fun u=>flat n u) fs.toList 0 (P.cellsOf t)
  | some (.array k e)=>yu (P.cellsOf t) (k*P.cellsOf e)&&flat n e
  | _=>false
def cQ {H:Type}:Nat->yC->xz H->List AV
 | 0,_,_=>[]
 | n+1,t,d=>
  match P.underlying t,d with
  | some .bool,.lit (.bool b)=>[.bool b]
  | some (.int k),.lit (.int _ m)=>[.int k m]
  | some (.float k),.lit (.float _ b)=>[.bS k b]
  | some .string,.lit (.string s)=>[.str (s.map UInt8.toNat)]
  | some (.slice _),.nil=>[.aa]
  | some (.slice e),.slice jF spare=>[.aA spare.isEmpty jF.length (jF.flatMap fun x=>cQ n e x)]
  | some (.struct fs),.agg parts=>(fs.toList.zip parts).flatMap fun x=>cQ n x.1.type x.2
  | some (.array _ e),.agg parts=>parts.flatMap fun x=>cQ n e x
  | _,_=>[]
end
section
variable {af:Nat->Nat} {m:Mp} {S:Nat->Prop} {w:yi}
def abV:∀{a b:List AV} {aF o:Nat},bT af m S w a aF o->bT af m S w b aF (o+a.length)->bT af m S w (a++b) aF o
 | [],b,aF,o,_,h=>by simpa using h
 | x::a,b,aF,o,h1,h2=>by
  exact ⟨h1.1,abV h1.2 (by rw [yz] at h2;rw [show o+1+a.length=o+(a.length+1) by omega];exact h2)⟩
def LC:∀{a b:List AV},aG a=true->aG b=true->aG (a++b)=true
 | [],_,_,h=>h
 | x::a,b,h1,h2=>by
  simp only [aG,xm,ye] at h1 ⊢;exact ⟨h1.1,LC h1.2 h2⟩
def abW:∀{a:List AV} {us:List yg},az af m S w a us->a.length=us.length
 | [],us,h=>by simp only [az] at h;subst h;rfl
 | x::a,us,h=>by
  obtain ⟨u,r,rfl,_,h2⟩:=h;simp [abW h2]
end
section
variable {H:Type} {enc:yC×yg->H} {P:y5} {w:yi} {held:Bool} {af:Nat->Nat} {m:Mp} {S:Nat->Prop}
def agp {a:uz} {i:Nat} {u:yg} (h:w.cell? (a.add i)=some u):w.cell? ⟨a.block,a.off+i,none⟩=some u/\(i=0->a.spot=none):=by
 by_cases hi:i=0
 ·subst hi;have e:a.add 0=a:=by simp [Addr.add]
  rw [e] at h;have hs:a.spot=none:=by
   cases hq:a.spot with
   | none=>rfl
   | some k=>
    unfold World.cell? at h
    split at h
    ·simp [hq] at h
    all_goals simp_all
  obtain ⟨b,o,sp⟩:=a;simp only at hs;subst hs;exact ⟨by simpa using h,fun _=>rfl⟩
 ·have e:a.add i=⟨a.block,a.off+i,none⟩:=by simp [Addr.add,hi]
  rw [e] at h;exact ⟨h,fun h=>(hi h).elim⟩
def apD (a:uz) (i:Nat):(a.add i).block=a.block:=by unfold Addr.add;split<;>rfl
def atq (a:uz) (i:Nat):(a.add i).off=a.off+i:=by unfold Addr.add;split<;>simp_all
def LU {α β:Type} {f:α->Option β}:∀{l:List α} {r:List β},l.mapM f=some r->r.length=l.length
 | [],r,h=>by simp only [tL,wU,yd] at h;subst h;rfl
 | x::l,r,h=>by
  rw [ue] at h
  cases h1:f x with
  | none=>simp [h1] at h
  | some y=>
   cases h2:l.mapM f with
   | none=>simp [h1,h2] at h
   | some ys=>
    simp only [h1,h2,xN,vG,wU,yd] at h;subst h;simp [LU h2]
def ary {c:AV} {l:List AV} {b o:Nat} (h:bT af m S w (c::l) b o):b<w.heap.size:=by
 obtain ⟨⟨u,h1,_⟩,_⟩:=h;unfold World.cell? at h1
 cases hq:w.heap[b]? with
 | none=>simp [hq] at h1
 | some o=>exact (xt.1 hq).1
def QT {e:yC} {bm sz:Nat} {f:xz H->List AV} {a:uz} (eG:0<sz)
  (IH:∀(cs:List yg) (d:xz H) (ps:List wF),DataW.trod enc P w 0 (fun _=>true) held bm e cs=some (d,ps)->az af m S w (f d) cs/\aG (f d)=true/\cs.length=sz):
  ∀(k j:Nat) (xs:List (xz H×List wF)),(wv j k).mapM (fun i=>(w.cells? 0 (a.add (i*sz)) sz).bind (DataW.trod enc P w 0 (fun _=>true) held bm e))=some xs->
   bT af m S w ((xs.map (·.1)).flatMap f) a.block (a.off+j*sz)/\aG ((xs.map (·.1)).flatMap f)=true/\((xs.map (·.1)).flatMap f).length=k*sz/\xs.length=k/\(0<k->a.spot=none\/0<j)
 | 0,j,xs,h=>by
  simp only [yaE,tL,wU,yd] at h;subst h;simp [bT,aG]
 | k+1,j,xs,h=>by
  rw [vZ,ue] at h
  cases h1:(w.cells? 0 (a.add (j*sz)) sz) with
  | none=>simp [h1] at h
  | some us=>
   cases h2:DataW.trod enc P w 0 (fun _=>true) held bm e us with
   | none=>simp [h1,h2] at h
   | some x=>
    cases h3:(wv (j+1) k).mapM (fun i=>(w.cells? 0 (a.add (i*sz)) sz).bind (DataW.trod enc P w 0 (fun _=>true) held bm e)) with
    | none=>simp [h1,h2,h3] at h
    | some ys=>
     simp only [h1,h2,h3,xN,vG,wU,yd] at h;subst h;obtain ⟨d,ps⟩:=x;obtain ⟨g1,g2,g3⟩:=IH us d ps h2;obtain ⟨k1,k2,k3,k4,_⟩:=QT eG IH k (j+1) ys h3;obtain ⟨_,c2,c3⟩:=World.cells?_some h1;have hl:(f d).length=sz:=by rw [abW g1,g3]
     have hc:∀(i:Nat) (u:yg),us[i]? =some u->w.cell? ⟨a.block,a.off+j*sz+i,none⟩=some u:=by
      intro i u hi;have F1:i<sz:=by grind
      have h:=c3 i F1;rw [hi] at h
      have:=(agp h).1
      rwa [apD,atq] at this
     refine ⟨?_,?_,?_,by simp [k4],?_⟩
     ·simp only [xc,yaw];refine abV (D8 _ us _ g1 hc) ?_
      grind
     ·simp only [xc,yaw];exact LC g2 k2
     ·grind
     ·intro _;rcases xk j with hj | hj
      ·left
       have h:=c3 0 eG;have hu:us[0]? =some us[0]:=by simp_all
       rw [hu] at h
       have:=(agp h).2 rfl
       subst hj;simpa [Addr.add] using this
      ·grind
def aa8 {bm N:Nat} {n:Nat} {cs:List yg} (hN:cs.length=N)
  (IH:∀(t:yC) (cs:List yg) (d:xz H) (ps:List wF),flat P n t=true->DataW.trod enc P w 0 (fun _=>true) held bm t cs=some (d,ps)->az af m S w (cQ P n t d) cs/\aG (cQ P n t d)=true/\cs.length=P.cellsOf t):
  ∀(r:List uL) (o:Nat) (xs:List (xz H×List wF)),D1 P (fun u=>flat P n u) r o N=true->r.mapM (fun f=>DataW.trod enc P w 0 (fun _=>true) held bm f.type ((cs.drop f.offset).take (P.cellsOf f.type)))=some xs->
   az af m S w ((r.zip (xs.map (·.1))).flatMap fun x=>cQ P n x.1.type x.2) (cs.drop o)/\aG ((r.zip (xs.map (·.1))).flatMap fun x=>cQ P n x.1.type x.2)=true
 | [],o,xs,hf,h=>by
  have:=yj hf
  rw [xe (by omega)];simp [az,aG]
 | f::r,o,xs,hf,h=>by
  simp only [D1,ye] at hf;obtain ⟨e1,e2,e3⟩:=hf;have e1:=yj e1;rw [ue] at h
  cases h2:DataW.trod enc P w 0 (fun _=>true) held bm f.type ((cs.drop f.offset).take (P.cellsOf f.type)) with
  | none=>simp [h2] at h
  | some x=>
   cases h3:r.mapM (fun f=>DataW.trod enc P w 0 (fun _=>true) held bm f.type ((cs.drop f.offset).take (P.cellsOf f.type))) with
   | none=>simp [h2,h3] at h
   | some ys=>
    simp only [h2,h3,xN,vG,wU,yd] at h;subst h;obtain ⟨d,ps⟩:=x;obtain ⟨g1,g2,g3⟩:=IH f.type _ d ps e2 h2;obtain ⟨k1,k2⟩:=aa8 hN IH r _ ys e3 h3;rw [e1] at g1;have e:cs.drop o=(cs.drop o).take (P.cellsOf f.type)++cs.drop (o+P.cellsOf f.type):=by rw [<-vT];exact (xO _ _).symm
    rw [e];exact ⟨lj g1 k1,LC g2 k2⟩
def agq {bm sz:Nat} {e:yC} {f:xz H->List AV} {cs:List yg}
  (IH:∀(cs:List yg) (d:xz H) (ps:List wF),DataW.trod enc P w 0 (fun _=>true) held bm e cs=some (d,ps)->az af m S w (f d) cs/\aG (f d)=true/\cs.length=sz):
  ∀(k j:Nat) (xs:List (xz H×List wF)),(wv j k).mapM (fun i=>DataW.trod enc P w 0 (fun _=>true) held bm e ((cs.drop (i*sz)).take sz))=some xs->cs.length=(j+k)*sz->
   az af m S w ((xs.map (·.1)).flatMap f) (cs.drop (j*sz))/\aG ((xs.map (·.1)).flatMap f)=true
 | 0,j,xs,h,hl=>by
  simp only [yaE,tL,wU,yd] at h;subst h;rw [xe (by rw [hl];simp)]
  simp [az,aG]
 | k+1,j,xs,h,hl=>by
  rw [vZ,ue] at h
  cases h2:DataW.trod enc P w 0 (fun _=>true) held bm e ((cs.drop (j*sz)).take sz) with
  | none=>simp [h2] at h
  | some x=>
   cases h3:(wv (j+1) k).mapM (fun i=>DataW.trod enc P w 0 (fun _=>true) held bm e ((cs.drop (i*sz)).take sz)) with
   | none=>simp [h2,h3] at h
   | some ys=>
    simp only [h2,h3,xN,vG,wU,yd] at h;subst h;obtain ⟨d,ps⟩:=x;obtain ⟨g1,g2,g3⟩:=IH _ d ps h2;obtain ⟨k1,k2⟩:=agq IH k (j+1) ys h3 (by rw [hl];congr 1;omega)
    have e:cs.drop (j*sz)=(cs.drop (j*sz)).take sz++cs.drop ((j+1)*sz):=by rw [wL,Nat.one_mul,<-vT];exact (xO _ _).symm
    rw [e];exact ⟨lj g1 k1,LC g2 k2⟩
def acP (hS:∀b,b<w.heap.size->S b):∀(n bm:Nat) (t:yC) (cs:List yg) (d:xz H) (ps:List wF),flat P n t=true->DataW.trod enc P w 0 (fun _=>true) held bm t cs=some (d,ps)->
  az af m S w (cQ P n t d) cs/\aG (cQ P n t d)=true/\cs.length=P.cellsOf t
 | 0,bm,t,cs,d,ps,hf,h=>by simp [flat] at hf
 | n+1,0,t,cs,d,ps,hf,h=>by simp [DataW.trod] at h
 | n+1,bm+1,t,cs,d,ps,hf,h=>by
  have IH:=acP hS n bm;unfold DataW.trod at h;simp only [flat] at hf
  split at h
  ·rename_i hu;simp only [hu] at hf;simp only [yd,yk] at h;obtain ⟨rfl,rfl⟩:=h;simp only [cQ,hu];exact ⟨by simp [az,ah],by simp [aG,a6],by rw [yj hf];rfl⟩
  ·rename_i hu;simp only [hu] at hf
   split at h
   ·rename_i hk;simp only [yd,yk] at h;obtain ⟨rfl,rfl⟩:=h;simp only [cQ,hu];refine ⟨?_,by simp [aG,a6],by rw [yj hf];rfl⟩
    rw [hk.1];simp [az,ah]
   ·cases h
  ·rename_i hu;simp only [hu] at hf
   split at h
   ·rename_i hk;simp only [yd,yk] at h;obtain ⟨rfl,rfl⟩:=h;simp only [cQ,hu];refine ⟨?_,by simp [aG,a6],by rw [yj hf];rfl⟩
    rw [hk.1];simp [az,ah]
   ·cases h
  ·rename_i hu;simp only [hu] at hf
   split at h
   ·simp only [yd,yk] at h;obtain ⟨rfl,rfl⟩:=h;simp only [cQ,hu];refine ⟨?_,by simp [aG,a6],by rw [yj hf];rfl⟩
    simp only [az,ah];exact ⟨_,_,rfl,⟨_,rfl,rfl⟩,rfl⟩
   ·cases h
  ·rename_i hu;simp [hu] at hf
  ·rename_i hu;simp [hu] at hf
  ·rename_i hu;simp only [hu,ye] at hf;simp only [yd,yk] at h;obtain ⟨rfl,rfl⟩:=h;simp only [cQ,hu];exact ⟨by simp [az,ah],by simp [aG,a6],by rw [yj hf.1];rfl⟩
  ·rename_i e a len cap hu;simp only [hu,ye] at hf;obtain ⟨f1,f2,f3⟩:=hf;have eG:=zc.1 f2;simp only at h
   split at h
   case isFalse=>cases h
   rename_i hc;simp only [xC] at h
   cases h1:(vh len).mapM fun i=>(w.cells? 0 (a.add (i*P.cellsOf e)) (P.cellsOf e)).bind (DataW.trod enc P w 0 (fun _=>true) held bm e) with
   | none=>rw [h1] at h;simp at h
   | some jF=>
    cases h2:(vh (cap-len)).mapM fun j=>(w.cells? 0 (a.add ((len+j)*P.cellsOf e)) (P.cellsOf e)).bind (DataW.trod enc P w 0 (fun _=>true) held bm e) with
    | none=>rw [h1] at h;simp [h2] at h
    | some rest=>
     rw [h1] at h;simp only [xN,h2,wP,yd,yk] at h;obtain ⟨rfl,rfl⟩:=h;have hIH:=fun cs d ps h=>IH e cs d ps f3 h
     rw [yab] at h1 h2;obtain ⟨k1,k2,k3,k4,k5⟩:=QT (af:=af) (m:=m) (S:=S) eG hIH len 0 jF h1;have hrl:rest.length=cap-len:=by rw [LU h2];simp
     have gU:cap≠0->a.spot=none:=by
      intro XS;rcases xk len with h0 | h0
      ·subst h0;simp only [yf,Nat.sub_zero] at h2;obtain ⟨_,_,_,_,q5⟩:=QT (af:=af) (m:=m) (S:=S) eG hIH cap 0 rest h2;exact (q5 (by omega)).resolve_right (by omega)
      ·exact (k5 h0).resolve_right (by omega)
     simp only [cQ,hu,yt];refine ⟨?_,by simp [aG,a6],by rw [yj f1];rfl⟩
     simp only [az];refine ⟨_,_,rfl,?_,rfl⟩;simp only [ah];by_cases XS:cap=0
     ·subst XS;have j9:len=0:=by omega
      subst j9;have he:jF=[]:=yx k4;subst he;exact .inr ⟨a,rfl,rfl,rfl⟩
     ·obtain ⟨b,o,sp⟩:=a;have gU:=gU XS;simp only at gU;subst gU;refine .inl ⟨b,o,cap,by rw [k4],by omega,fun hx=>?_,?_,k2,by simpa using k1⟩
      ·have:rest.length=0:=by simpa using hx
       omega
      ·generalize hg:((jF.map (·.1)).flatMap fun x=>cQ P n e x)=l at k1
       cases l with
       | nil=>exact .inl rfl
       | cons c l=>exact .inr (hS b (ary k1))
  ·rename_i sr x1 KQ fs hu;simp only [hu] at hf
   split at h
   case isFalse=>cases h
   rename_i hlen
   cases h1:fs.toList.mapM fun f=>DataW.trod enc P w 0 (fun _=>true) held bm f.type ((sr.drop f.offset).take (P.cellsOf f.type)) with
   | none=>rw [h1] at h;simp at h
   | some xs=>
    rw [h1] at h;simp only [wP,yd,yk] at h;obtain ⟨rfl,rfl⟩:=h;obtain ⟨k1,k2⟩:=aa8 hlen (fun t cs d ps hf h=>IH t cs d ps hf h) fs.toList 0 xs hf h1;simp only [cQ,hu];exact ⟨by simpa using k1,k2,hlen⟩
  ·rename_i sr x1 KQ k e hu;simp only [hu,ye] at hf;obtain ⟨f1,f2⟩:=hf;have f1:=yj f1
   split at h
   case isFalse=>cases h
   rename_i hlen
   cases h1:(vh k).mapM fun i=>DataW.trod enc P w 0 (fun _=>true) held bm e ((sr.drop (i*P.cellsOf e)).take (P.cellsOf e)) with
   | none=>rw [h1] at h;simp at h
   | some xs=>
    rw [h1] at h;simp only [wP,yd,yk] at h;obtain ⟨rfl,rfl⟩:=h;rw [yab] at h1;obtain ⟨k1,k2⟩:=agq (af:=af) (m:=m) (S:=S) (fun cs d ps h=>IH e cs d ps f2 h) k 0 xs h1 (by rw [hlen,f1];simp)
    simp only [cQ,hu];exact ⟨by simpa using k1,k2,hlen⟩
  all_goals first
   | (cases h;done)
   | (simp_all;done)
def lI (P:y5) (n:Nat) (t:yC) (d:xz H):AV:=
 match P.underlying t with
 | some (.struct _) | some (.array _ _)=> .agg (cQ P n t d)
 | _=>(cQ P n t d).headD .undef
def atr (hS:∀b,b<w.heap.size->S b) {n base:Nat} {t:yC} {v:yg} {d:xz H} {ps:List wF} (hf:flat P n t=true) (h:DataW.Trod enc P w 0 (fun _=>true) held t v d ps)
  (hv:Value.okWide P w .any base t v):ah af m S w (lI P n t d) v/\a6 (lI P n t d)=true:=by
 obtain ⟨bm,h⟩:=h;obtain ⟨h1,h2,h3⟩:=acP (af:=af) (m:=m) hS n bm t _ d ps hf h;have one:v.cells=#[v]->(∀fs,P.underlying t≠some (.struct fs))->(∀k e,P.underlying t≠some (.array k e))->ah af m S w (lI P n t d) v/\a6 (lI P n t d)=true:=by
  intro hc FX hna;have e:lI P n t d=(cQ P n t d).headD .undef:=by
   unfold lI
   grind
  rw [e];rw [hc] at h1;generalize cQ P n t d=l at h1 h2
  cases l with
  | nil=>simp [az] at h1
  | cons x l=>
   simp only [az] at h1;simp only [aG,ye] at h2
   grind
 cases n with
 | zero=>simp [flat] at hf
 | succ n=>
  unfold Value.okWide at hv;simp only [flat] at hf
  cases hu:P.underlying t with
  | none=>simp [hu] at hf
  | some ty=>
   rw [hu] at hv hf;cases ty<;>simp only [Bool.false_eq_true] at hf hv
   case struct fs=>
    obtain ⟨cs,rfl,_,_⟩:=hv;have e:lI P (n+1) t d= .agg (cQ P (n+1) t d):=by simp only [lI,hu]
    rw [e];exact ⟨by simp only [ah];exact ⟨cs,rfl,h1⟩,by simpa only [a6] using h2⟩
   case array k e=>
    obtain ⟨cs,rfl,_,_⟩:=hv;have e:lI P (n+1) t d= .agg (cQ P (n+1) t d):=by simp only [lI,hu]
    rw [e];exact ⟨by simp only [ah];exact ⟨cs,rfl,h1⟩,by simpa only [a6] using h2⟩
   all_goals
    refine one ?_ (by simp [hu]) (by simp [hu])
    cases v with
    | agg cs=>exfalso;simp only [Cell.okWide,Cell.ok,hu] at hv
    | _=>rfl
def zo (P:y5) (n:Nat):List yC->List (xz H)->List AV
 | t::ts,d::ds=>lI P n t d::zo P n ts ds
 | _,_=>[]
def acQ (hS:∀b,b<w.heap.size->S b) {n base:Nat}:∀{ts:List yC} {vs:List yg} {ds:List (xz H)} {ps:List wF},ts.all (flat P n)=true->DataW.TrodAll enc P w 0 (fun _=>true) held ts vs ds ps->
  (∀(j:Nat) t v,ts[j]? =some t->vs[j]? =some v->Value.okWide P w .any base t v)->az af m S w (zo P n ts ds) vs/\aG (zo P n ts ds)=true
 | [],[],[],_,_,_,_=>by simp [zo,az,aG]
 | t::ts,v::vs,d::ds,ps,hf,h,hv=>by
  simp only [yap,ye] at hf;obtain ⟨p,q,h1,h2,_⟩:=h;obtain ⟨a1,a2⟩:=atr (af:=af) (m:=m) hS hf.1 h1 (hv 0 t v rfl rfl);obtain ⟨b1,b2⟩:=acQ hS hf.2 h2 (fun j t v h1 h2=>hv (j+1) t v h1 h2);simp only [zo,az,aG,ye]
  grind
 | [],_::_,_,_,_,h,_=>by simp [DataW.TrodAll] at h
 | [],[],_::_,_,_,h,_=>by simp [DataW.TrodAll] at h
 | _::_,[],_,_,_,h,_=>by simp [DataW.TrodAll] at h
 | _::_,_::_,[],_,_,h,_=>by simp [DataW.TrodAll] at h
end
end
section
open Go
section
variable {H:Type} {enc:yC×yg->H} {P:y5} {w w':yi} {held:Bool} {sp:Nat->Bool}
def aow (hs:∀b,b<w.heap.size->w'.heap[b]? =w.heap[b]?) {a:uz} {u:yg} (h:w.cell? a=some u):w'.cell? a=some u:=by
 have hb:a.block<w.heap.size:=by
  unfold World.cell? at h
  cases hq:w.heap[a.block]? with
  | none=>simp [hq] at h
  | some o=>exact (xt.1 hq).1
 unfold World.cell? at h ⊢;rw [hs _ hb];exact h
def an0 (hs:∀b,b<w.heap.size->w'.heap[b]? =w.heap[b]?) {base:Nat} {a:uz} {n:Nat} {us:List yg} (h:w.cells? base a n=some us):w'.cells? base a n=some us:=by
 unfold World.cells? at h ⊢
 split at h
 ·rename_i hb;rw [yQ hb];exact mapM_carry h (fun x y _ _ hx=>aow hs hx)
 ·cases h
def ats {a:uz} {n:Nat} (h:0<n):MemPlace.cell a.block (a.off+0)∈MemPlace.row a n:=by
 unfold MemPlace.row;exact List.mem_map.2 ⟨0,List.mem_range.2 h,rfl⟩
def aa9 (hs:∀b,b<w.heap.size->w'.heap[b]? =w.heap[b]?):∀(n bm:Nat) (t:yC) (cs:List yg) (d:xz H) (ps:List wF),flat P n t=true->DataW.trod enc P w 0 (fun _=>true) held bm t cs=some (d,ps)->
  (∀p,p∈ps->sp p.block=true)->DataW.trod enc P w' 0 sp held bm t cs=some (d,ps)
 | 0,bm,t,cs,d,ps,hf,h,hp=>by simp [flat] at hf
 | n+1,0,t,cs,d,ps,hf,h,hp=>by simp [DataW.trod] at h
 | n+1,bm+1,t,cs,d,ps,hf,h,hp=>by
  have IH:=aa9 hs n bm;have elem:∀{e:yC} {a:uz} {y:xz H×List wF},flat P n e=true->(w.cells? 0 a (P.cellsOf e)).bind (DataW.trod enc P w 0 (fun _=>true) held bm e)=some y->(∀p,p∈y.2->sp p.block=true)->
    (w'.cells? 0 a (P.cellsOf e)).bind (DataW.trod enc P w' 0 sp held bm e)=some y:=by
   intro e a y he h hq
   cases h1:w.cells? 0 a (P.cellsOf e) with
   | none=>simp [h1] at h
   | some us=>
    rw [h1] at h;rw [an0 hs h1];simp only [xN] at h ⊢;obtain ⟨d,ps⟩:=y;exact IH e us d ps he h hq
  unfold DataW.trod at h ⊢;simp only [flat] at hf
  split at h
  ·exact h
  ·exact h
  ·exact h
  ·exact h
  ·rename_i hu;simp [hu] at hf
  ·rename_i hu;simp [hu] at hf
  ·exact h
  ·rename_i e a len cap hu;simp only [hu,ye] at hf;obtain ⟨f1,f2,f3⟩:=hf;have eG:=zc.1 f2;simp only at h ⊢
   split at h
   case isFalse=>cases h
   rename_i hc;rw [yQ hc];simp only [xC] at h
   cases h1:(vh len).mapM fun i=>(w.cells? 0 (a.add (i*P.cellsOf e)) (P.cellsOf e)).bind (DataW.trod enc P w 0 (fun _=>true) held bm e) with
   | none=>rw [h1] at h;simp at h
   | some jF=>
    cases h2:(vh (cap-len)).mapM fun j=>(w.cells? 0 (a.add ((len+j)*P.cellsOf e)) (P.cellsOf e)).bind (DataW.trod enc P w 0 (fun _=>true) held bm e) with
    | none=>rw [h1] at h;simp [h2] at h
    | some rest=>
     rw [h1] at h;simp only [xN,h2,wP,yd,yk] at h;obtain ⟨rfl,rfl⟩:=h;have k1:((vh len).mapM fun i=>(w'.cells? 0 (a.add (i*P.cellsOf e)) (P.cellsOf e)).bind (DataW.trod enc P w' 0 sp held bm e))=some jF:=
      mapM_carry h1 (fun x y _ hy hx=>elem f3 hx (fun p hq=>hp p (vv _ (ux.2 ⟨y,uM _ hy,hq⟩))))
     have k2:((vh (cap-len)).mapM fun j=>(w'.cells? 0 (a.add ((len+j)*P.cellsOf e)) (P.cellsOf e)).bind (DataW.trod enc P w' 0 sp held bm e))=some rest:=
      mapM_carry h2 (fun x y _ hy hx=>elem f3 hx (fun p hq=>hp p (vv _ (ux.2 ⟨y,vv _ hy,hq⟩))))
     have hr:(if sp a.block=true then (vh (cap-len)).mapM fun j=>(w'.cells? 0 (a.add ((len+j)*P.cellsOf e)) (P.cellsOf e)).bind (DataW.trod enc P w' 0 sp held bm e) else some [])=some rest:=by
      by_cases gU:sp a.block=true
      ·rw [yQ gU];exact k2
      ·rw [yB gU];have h0:¬0<(jF.length+rest.length)*P.cellsOf e:=fun h0=>gU (hp _ (uM _ (ats h0)))
       have hz:jF.length+rest.length=0:=by
        rcases xk (jF.length+rest.length) with h | h
        ·exact h
        ·exact (h0 (tW h eG)).elim
       have:rest=[]:=yx (by omega)
       rw [this]
     rw [k1];simp only [xN];rw [hr];rfl
  ·rename_i sr x1 KQ fs hu;simp only [hu] at hf
   split at h
   case isFalse=>cases h
   rename_i hlen;rw [yQ hlen]
   cases h1:fs.toList.mapM fun f=>DataW.trod enc P w 0 (fun _=>true) held bm f.type ((sr.drop f.offset).take (P.cellsOf f.type)) with
   | none=>rw [h1] at h;simp at h
   | some xs=>
    rw [h1] at h;simp only [wP,yd,yk] at h;obtain ⟨rfl,rfl⟩:=h;have FW:∀(r:List uL) (o:Nat),D1 P (fun u=>flat P n u) r o (P.cellsOf t)=true->∀f,f∈r->flat P n f.type=true:=by
     intro r
     induction r with
     | nil=>intro o _ f hm;cases hm
     | cons g r ih=>
      intro o hq f hm;simp only [D1,ye] at hq;rcases List.mem_cons.1 hm with rfl | hm
      ·exact hq.2.1
      ·exact ih _ hq.2.2 f hm
    have k1:(fs.toList.mapM fun f=>DataW.trod enc P w' 0 sp held bm f.type ((sr.drop f.offset).take (P.cellsOf f.type)))=some xs:=
     mapM_carry h1 (fun f y hm hy hx=>IH _ _ y.1 y.2 (FW _ _ hf f hm) hx (fun p hq=>hp p (ux.2 ⟨y,hy,hq⟩)))
    rw [k1];rfl
  ·rename_i sr x1 KQ k e hu;simp only [hu,ye] at hf
   split at h
   case isFalse=>cases h
   rename_i hlen;rw [yQ hlen]
   cases h1:(vh k).mapM fun i=>DataW.trod enc P w 0 (fun _=>true) held bm e ((sr.drop (i*P.cellsOf e)).take (P.cellsOf e)) with
   | none=>rw [h1] at h;simp at h
   | some xs=>
    rw [h1] at h;simp only [wP,yd,yk] at h;obtain ⟨rfl,rfl⟩:=h;have k1:((vh k).mapM fun i=>DataW.trod enc P w' 0 sp held bm e ((sr.drop (i*P.cellsOf e)).take (P.cellsOf e)))=some xs:=
     mapM_carry h1 (fun i y _ hy hx=>IH _ _ y.1 y.2 hf.2 hx (fun p hq=>hp p (ux.2 ⟨y,hy,hq⟩)))
    rw [k1];rfl
  all_goals first
   | (cases h;done)
   | (simp_all;done)
def aam (hs:∀b,b<w.heap.size->w'.heap[b]? =w.heap[b]?) {n:Nat}:∀{ts:List yC} {vs:List yg} {ds:List (xz H)} {ps:List wF},ts.all (flat P n)=true->DataW.TrodAll enc P w 0 (fun _=>true) held ts vs ds ps->
  (∀p,p∈ps->sp p.block=true)->DataW.TrodAll enc P w' 0 sp held ts vs ds ps
 | [],[],[],ps,_,h,_=>by simpa only [DataW.TrodAll] using h
 | t::ts,v::vs,d::ds,ps,hf,h,hp=>by
  simp only [yap,ye] at hf;obtain ⟨p,q,⟨bm,h1⟩,h2,rfl⟩:=h;exact ⟨p,q,⟨bm,aa9 hs n bm t _ d p hf.1 h1 (fun x hx=>hp x (uM _ hx))⟩,aam hs hf.2 h2 (fun x hx=>hp x (vv _ hx)),rfl⟩
 | [],_::_,_,_,_,h,_=>by simp [DataW.TrodAll] at h
 | [],[],_::_,_,_,h,_=>by simp [DataW.TrodAll] at h
 | _::_,[],_,_,_,h,_=>by simp [DataW.TrodAll] at h
 | _::_,_::_,[],_,_,h,_=>by simp [DataW.TrodAll] at h
end
end
section
open Go Go.ChangeShapes Go.WideShapes
section
variable {H:Type} {enc:yC×yg->H} {P:y5} {W W':yi}
def apE (hc:Calm W W') (may:wF->Prop):W.keptBut W' may:=by
 refine ⟨hc.os,hc.output,fun i hi=>?_⟩;rw [hc.same i hi]
 cases hq:W.heap[i]? with
 | none=>rfl
 | some o=>cases o<;>simp
def an1 (hc:Calm W W') {b off:Nat} (hb:b<W.heap.size):W'.frozen? ⟨b,off,none⟩=W.frozen? ⟨b,off,none⟩:=by
 unfold World.frozen?;simp only;rw [hc.same b hb]
def arz {fn:Func} {s:ybw} {apart fresh handsOn again:Bool} {args:Array yg} {ds gs:List (xz H)} {before:List wF} {n:Nat} {tb:yC}
  (hW:DataW.Whole enc P fn.params.toList s.vars apart W args.toList ds gs before) (hv:s.vars=[]) (M9:fn.params.toList.all (flat P n)=true) (hc:Calm W W')
  (kW:s.fn H (ds++gs)={results:=[.lit (.bool true)],args:=ds}) (FC:fn.resultTypes=#[tb]) (ko:P.underlying tb=some .bool):
  s.post enc P fn apart fresh handsOn again W args (.bool true) W':=by
 have aX:=hW.lt;have sE:=hW;obtain ⟨p,q,hA,hV,hpq,hz,hn⟩:=hW;rw [hv] at hV;have hq:gs=[]/\q=[]:=by
  cases gs with
  | nil=>exact ⟨rfl,by simpa only [DataW.TrodVars] using hV⟩
  | cons g gs=>simp [DataW.TrodVars] at hV
 obtain ⟨rfl,rfl⟩:=hq;have hbp:before=p:=by rw [hpq];simp
 subst hbp;have fG:∀sp:Nat->Bool,(∀p∈before,sp p.block=true)->DataW.TrodAll enc P W' 0 sp true fn.params.toList args.toList ds before:=fun sp h=>aam hc.same M9 hA h
 have aiG:∀(b:Nat) (sp:Nat->Bool) (hd:Bool),DataW.TrodAll enc P W' b sp hd fn.resultTypes.toList ((Value.bool true).resultList fn.resultTypes.size) [.lit (.bool true)] []:=by
  intro b sp hd;rw [FC];refine ⟨[],[],⟨1,?_⟩,rfl,rfl⟩;simp [DataW.trod,ko,Value.cells]
 have hold:∀p∈before,(fun b=>decide (b<W.heap.size)) p.block=true:=fun p hp=>by simpa using aX p hp
 have aiH:∀sp:Nat->Bool,DataW.TrodVars enc P W' sp s.vars ([]:List (xz H)) []:=fun sp=>by rw [hv];rfl
 refine ⟨ds,[],before,[],before,[],sE,by rw [kW];exact aiG _ _ _,by rw [kW];exact fG _ hold,by rw [kW];exact aiH _,apE hc _,fun _=>?_⟩
 refine ⟨?_,[.lit (.bool true)]++ds,[],[]++before++[],⟨[]++before,[],trodAll_append (fG _ (fun _ _=>rfl)) (aiG _ _ _),aiH _,rfl,?_,?_⟩,?_⟩
 ·intro j t r h1 h2;rw [FC] at h1 h2
  cases j with
  | zero=>
   simp only [List.getElem?_toArray,vM,yd] at h1;simp only [Value.resultList,List.size_toArray,yz,yO,xC,yf,vM,yd] at h2;subst h1;subst h2;simp [Value.okWide,ko,Cell.okWide,Cell.ok]
  | succ j=>simp at h1
 ·intro b off hp;have hp:MemPlace.cell b off∈before:=by simpa using hp
  rw [an1 hc (b:=b) (aX _ hp)];exact hz b off hp
 ·intro ha
  have:=hn ha
  simpa using this
 ·intro p hp _;simpa using hp
def apF {O:bk} {n k:Nat} {fn:Func} {s:ybw} {apart fresh handsOn again:Bool} {base:Nat} {args:Array yg} {ds gs:List (xz H)} {before:List wF} {tb:yC}
  (hp:ep O n (zo O.P k fn.params.toList ds) (.bool true)) (iG:O.w0=W) (kW:O.P.funcs[O.af n]? =some fn) (hb:fn.body.isSome=true) (sA:fn.name≠ "runtime.NumGoroutine")
  (aP:∀(j:Nat) t v,fn.params[j]? =some t->args[j]? =some v->Value.okWide O.P W .any base t v)
  (hW:DataW.Whole enc O.P fn.params.toList s.vars apart W args.toList ds gs before) (hv:s.vars=[]) (M9:fn.params.toList.all (flat O.P k)=true)
  (hfs:s.fn H (ds++gs)={results:=[.lit (.bool true)],args:=ds}) (FC:fn.resultTypes=#[tb]) (ko:O.P.underlying tb=some .bool):
  Calls O.P (O.af n) args W fun e W'=>∃v,e= .returned v/\s.post enc O.P fn apart fresh handsOn again W args v W':=by
 have hA:=hW;obtain ⟨p,q,hA,_⟩:=hA;obtain ⟨h1,h2⟩:=acQ (af:=O.af) (m:=eM) (S:=fun b=>b<W.heap.size) (fun b hb=>hb) M9 hA (fun j t v a b=>aP j t v (by simpa using a) (by simpa using b));have hi:=hp W (fun b=>b<W.heap.size) args ⟨fun b _=>by rw [iG],by rw [iG];exact yr _⟩ (fun b hb=>hb) h1 h2
 have key:∀e W',acz O W (fun b=>b<W.heap.size) (.bool true) e W'->∃v,e= .returned v/\s.post enc O.P fn apart fresh handsOn again W args v W':=by
  rintro e W' ⟨u,S',rfl,hc,_,_,_,hr⟩;simp only [nj,ia,ah] at hr;obtain ⟨_,_,hu,_⟩:=hr;subst hu;exact ⟨_,rfl,arz hW hv M9 hc hfs FC ko⟩
 rcases hi with ⟨_,hi⟩ | ⟨u,w',hi,_⟩
 ·exact callsIn_wide.1 (hi.mono key)
 ·rw [Mc kW hb sA] at hi;cases hi
end
end
section
namespace J1
open Go Go.Proofs
noncomputable def O (W:yi):bk:=⟨Tryz.prog,VE.aE,zK sD.af,VE.prog,M8 sD.cd sD.hd,W⟩
def abX {w:yi} {k:Nat} {os:Array Go.Obj}:Calm w (Go.Sort.grow (w.drewN k) os):=HC (Lib.below_grow w.heap.size w (yr _) k os)
def acR {W w:yi} (h:Lib.TabIs Tryz.prog W "internal/strconv.uint64pow10" .u64 Lib.pow10Tab) (hg:A3 (O W) w):Lib.TabIs Tryz.prog w "internal/strconv.uint64pow10" .u64 Lib.pow10Tab:=by
 unfold Lib.TabIs World.var? at h ⊢
 cases hn:Tryz.prog.globalNamed "internal/strconv.uint64pow10" with
 | none=>rw [hn] at h;exact h
 | some g=>
  rw [hn] at h;simp only [xN] at h ⊢;have hb:g<W.heap.size:=by
   cases hq:W.heap[g]? with
   | none=>rw [hq] at h;cases h
   | some o=>exact (xt.1 hq).1
  rw [hg.1 g hb];exact h
def aAP:∀args w,(callFunc 129 args).run Tryz.prog w= .ok (.enter 129 args) w:=enters_of Tryz.func129 (by kernel_rfl) rfl
def aAQ:∀args w,(callFunc 154 args).run Tryz.prog w= .ok (.enter 154 args) w:=enters_of Tryz.func154 (by kernel_rfl) rfl
def aAR:∀args w,(callFunc 202 args).run Tryz.prog w= .ok (.enter 202 args) w:=enters_of Tryz.func202 (by kernel_rfl) rfl
def aAS:∀args w,(callFunc 203 args).run Tryz.prog w= .ok (.enter 203 args) w:=enters_of Tryz.func203 (by kernel_rfl) rfl
def aAT:∀args w,(callFunc 204 args).run Tryz.prog w= .ok (.enter 204 args) w:=enters_of Tryz.func204 (by kernel_rfl) rfl
def aAU:∀args w,(callFunc 178 args).run Tryz.prog w= .ok (.enter 178 args) w:=enters_of Tryz.func178 (by kernel_rfl) rfl
def aAV:∀args w,(callFunc 182 args).run Tryz.prog w= .ok (.enter 182 args) w:=enters_of Tryz.func182 (by kernel_rfl) rfl
def aAW:∀args w,(callFunc 183 args).run Tryz.prog w= .ok (.enter 183 args) w:=enters_of Tryz.func183 (by kernel_rfl) rfl
def aAX:∀args w,(callFunc 184 args).run Tryz.prog w= .ok (.enter 184 args) w:=enters_of Tryz.func184 (by kernel_rfl) rfl
def aAY:∀args w,(callFunc 192 args).run Tryz.prog w= .ok (.enter 192 args) w:=enters_of Tryz.func192 (by kernel_rfl) rfl
def aAZ:∀args w,(callFunc 223 args).run Tryz.prog w= .ok (.enter 223 args) w:=enters_of Tryz.func223 (by kernel_rfl) rfl
def aA0:∀args w,(callFunc 167 args).run Tryz.prog w= .ok (.enter 167 args) w:=enters_of Tryz.func167 (by kernel_rfl) rfl
def att (b:Nat) (w:yi):(callFunc 198 #[.float .f64 b]).run Tryz.prog w= .ok (.value (.int .u64 b)) w:=by
 rw [run_callFunc_extern Tryz.func198 (by kernel_rfl) (by kernel_rfl) (by kernel_rfl) (e:=Extern.MathFloatBits.float64bits) (by kernel_rfl)];rfl
def an2 (b:Nat) (w:yi):(callFunc 201 #[.int .u64 b]).run Tryz.prog w= .ok (.value (.float .f64 b)) w:=by
 rw [run_callFunc_extern Tryz.func201 (by kernel_rfl) (by kernel_rfl) (by kernel_rfl) (e:=Extern.MathFloatBits.float64frombits) (by kernel_rfl)];rfl
def azC (W:yi) (n:Nat) (sp:List AV->Option AV):Prop:=∀av r,sp av=some r->ep (O W) n av r
section
variable {W:yi} {m:Int} (hm:W.cell? ⟨1,0,none⟩=some (.int .i64 m)) (ht:Lib.TabIs Tryz.prog W "internal/strconv.uint64pow10" .u64 Lib.pow10Tab)
include hm ht
def awW:ajx.lZ (azC W):=
 (Tr.jE (aro (O:=O W) (f:=184) (by rfl) aAX (fun s z w hl h=>(Tryz.strconv_Atoi s z hl h w).mono fun _ _ ⟨h1,t,h2⟩=>⟨h1,h2▸HC (Lib.bytesWorld_below _ _ _)⟩))
  (Tr.jE (aou (O:=O W) (f:=204) (by rfl) aAT Tryz.strings_Repeat)
  (Tr.jE (arn (O:=O W) (f:=202) (by rfl) aAR (fun z w h0 h1 hg=>(Tryz.strconv_Itoa z h0 h1 w (acR ht hg)).mono fun _ _ ⟨h1,k,os,h2⟩=>⟨h1,h2▸abX⟩))
  (Tr.jE (anp (O:=O W) (f:=154) (by rfl) aAQ Tryz.strings_CutPrefix)
  (Tr.jE (atb (O:=O W) (f:=129) (by rfl) aAP (a:=⟨1,0,none⟩) (m:=m) hm (fun s sep w hs hc=>Tryz.strings_Cut s sep m w hs hc))
  Tr.iQ Tr.iQ) Tr.iQ) (Tr.jE (anm (O:=O W) (f:=203) (by rfl) aAS (fun z w hz hg=>(Tryz.ane z hz w (acR ht hg)).mono fun _ _ ⟨h1,k,os,h2⟩=>⟨h1,h2▸abX⟩))
  Tr.iQ Tr.iQ)) (Tr.jE (anq (O:=O W) (f:=182) (by rfl) aAV Tryz.strings_HasPrefix)
  (Tr.jE (apw (O:=O W) (f:=178) (by rfl) aAU (fun x y w hx hy=>Tryz.bits_Mul64 x y hx hy w))
  Tr.iQ Tr.iQ) (Tr.jE (anl (O:=O W) (f:=183) (by rfl) aAW Tryz.strings_TrimPrefix)
  Tr.iQ Tr.iQ))) (Tr.jE (apz (O:=O W) (f:=209) (by rfl) (fun x y b w h=>Tryz.bits_Sub64 x y b h w))
  (Tr.jE (arp (O:=O W) (f:=223) (by rfl) aAZ (fun x w h0 h1=>Tryz.bits_LeadingZeros64 x w h0 h1))
  (Tr.jE (arm (O:=O W) (f:=192) (by rfl) aAY (fun s cs w hs jM ha=>Tryz.anE s cs w hs jM ha))
  Tr.iQ Tr.iQ) (Tr.jE (apy (O:=O W) (f:=207) (by rfl) (fun x y c w h=>Tryz.bits_Add64 x y c h w))
  Tr.iQ Tr.iQ)) (Tr.jE (anP (O:=O W) (f:=198) (by rfl) att)
  (Tr.jE (apx (O:=O W) (f:=167) (by rfl) aA0 (fun x w h0 h1=>Tryz.bits_Len64 x w h0 h1))
  Tr.iQ Tr.iQ) (Tr.jE (anj (O:=O W) (f:=201) (by rfl) an2)
  Tr.iQ Tr.iQ))))
def atu:eD (O W) where
 hint n f g h:=Tr.Cl (p:=fun f g=>zK sD.af g=f) (Qx sD.avC) h
 mixed:=by kernel_rfl
 prog n F h:=Tr.Cl sD.atp h
 aE n sp av r h hs:=Tr.Cl (awW hm ht) h av r hs
 E3 n sp hp ct av v ap a7 h:=by cases h
end
end J1
end
section
def bW:List Int->Int
 | []=>0
 | a::r=>if a=0 then bW r else a
def an3 {l:List Int} {i:Nat} (h:i<l.length):bW (l.drop i)=if l[i]=0 then bW (l.drop (i+1)) else l[i]:=by
 rw [yU h,bW]
def nl (lo hi:Int):List Int->Bool
 | []=>false
 | a::r=>if a<lo\/hi<a then true else nl lo hi r
def aiI (n:Nat) (lo hi:Int):List (List Int)->Int
 | []=>0
 | r::s=>if r.length≠n then 2 else if nl lo hi r=true then 3 else aiI n lo hi s
def apG (s:List (List Int)):Int:=if s.length=0 then 12 else if 16<s.length then 5 else aiI s.length (-1000) 1000 s
def acS {lo hi:Int} {l:List Int} (h:nl lo hi l=false):∀i (dT:i<l.length),lo<=l[i]/\l[i]<=hi:=by
 induction l with
 | nil=>intro i dT;exact absurd dT (Nat.not_lt_zero _)
 | cons a r ih=>
  simp only [nl] at h
  grind
def apH {lo hi:Int} {l:List Int} (h:nl lo hi l=false):∀i,nl lo hi (l.take i)=false:=by
 induction l with
 | nil=>intro i;simp [nl]
 | cons a r ih=>
  intro i;simp only [nl] at h
  split at h
  ·grind
  ·rename_i hc
   cases i with
   | zero=>simp [nl]
   | succ i=>simp only [List.take_succ_cons,nl,hc,xf,ih h i]
end
section
def dv:List Int->Nat
 | []=>0
 | a::r=>a.toNat+1000000000*dv r
def mU:∀(a b:List Int),dv (a++b)=dv a+1000000000^a.length*dv b
 | [],b=>by simp [dv]
 | x::a,b=>by
  simp only [xm,dv,mU a b,yz,xd,xA]
  grind
def oX {l:List Int} (i:Nat):dv (l.take (i+1))=dv (l.take i)+1000000000^i*(l.getD i 0).toNat:=by
 by_cases h:i<l.length
 ·rw [yY h,mU,yI,xn (by omega)];simp [dv,y7,xU h]
 ·rw [yG (by omega),yG (by omega)]
  grind
abbrev dg (l:List Int):Prop:=nl 0 999999999 l=false
def gW {a b:List Int}:dg (a++b)↔dg a/\dg b:=by
 induction a with
 | nil=>simp [dg,nl]
 | cons x a ih=>
  simp only [dg,xm,nl] at ih ⊢
  grind
def lF {x:Int}:dg [x]↔0<=x/\x<1000000000:=by
 simp only [dg,nl]
 grind
def gY {l:List Int} (h:dg l) (i:Nat):0<=l.getD i 0/\l.getD i 0<1000000000:=by
 by_cases hi:i<l.length
 ·have:=acS h i hi
  grind
 ·grind
def Cp {l:List Int} (h:dg l) (i:Nat):dg (l.take i):=apH h i
def jG:∀{l:List Int},dg l->dv l<1000000000^l.length
 | [],_=>by simp [dv]
 | x::l,h=>by
  have h':dg ([x]++l):=h;obtain ⟨h1,h2⟩:=gW.1 h';have h1:=lF.1 h1
  have:=jG h2
  simp only [dv,yz,xd];omega
def dV:List Int->List Int
 | []=>[]
 | a::r=>match dV r with | []=>if a=0 then [] else [a] | t::q=>a::t::q
def HF:∀l:List Int,dV (l++[0])=dV l
 | []=>rfl
 | a::l=>by simp only [xm,dV,HF l]
def LD {a:Int} (h:a≠0):∀l:List Int,dV (l++[a])=l++[a]
 | []=>by simp [dV,h]
 | b::l=>by
  simp only [xm,dV,LD h l]
  cases hq:l++[a] with
  | nil=>simp at hq
  | cons t q=>rfl
def sW:∀l:List Int,dv (dV l)=dv l
 | []=>rfl
 | a::l=>by
  have ih:=sW l;simp only [dV,dv]
  split
  ·rename_i h;rw [h] at ih
   split
   ·rename_i h0;subst h0;simp [dv,<-ih]
   ·simp [dv,<-ih]
  ·rename_i t q h;rw [h] at ih;simp only [dv] at ih ⊢;omega
def AE:∀{l:List Int},dg l->dg (dV l)
 | [],_=>rfl
 | a::l,h=>by
  have h':dg ([a]++l):=h;obtain ⟨h1,h2⟩:=gW.1 h';have ih:=AE h2;simp only [dV]
  split
  ·grind
  ·rename_i t q hq;rw [hq] at ih
   exact (gW (a:=[a]) (b:=t::q)).2 ⟨h1,ih⟩
def LV:∀l:List Int,(dV l).length<=l.length
 | []=>yr _
 | a::l=>by
  have ih:=LV l;simp only [dV]
  grind
def snoc {α:Type} (l:List α):l=[]\/∃m a,l=m++[a]:=by
 rcases List.eq_nil_or_concat l with h | ⟨m,a,h⟩
 ·grind
 ·grind
def an4:∀(n:Nat) (l:List Int),l.length=n->dV (dV l)=dV l:=by
 intro n
 induction n with
 | zero=>intro l h;rw [yx h];rfl
 | succ n ih=>
  intro l h;rcases snoc l with rfl | ⟨m,a,rfl⟩
  ·rfl
  ·by_cases h0:a=0
   ·subst h0;rw [HF]
    grind
   ·rw [LD h0,LD h0]
def aox (l:List Int):dV (dV l)=dV l:=an4 _ l rfl
abbrev nz (l:List Int):Prop:=dV l=l
def Eg (l:List Int):nz (dV l):=aox l
def Na {l:List Int} (h:nz l) (hd:dg l) (h0:l≠[]):1000000000^(l.length-1)<=dv l:=by
 rcases snoc l with rfl | ⟨m,a,rfl⟩
 ·grind
 ·by_cases ha:a=0
  ·subst ha
   have:=LV m
   have e:=congrArg yae h;rw [HF] at e
   grind
  ·rw [mU]
   have:=lF.1 (gW.1 hd).2
   simp only [dv,yL,uF,tC,xB,y8];have h1:1<=a.toNat:=by omega
   have:=yZ (1000000000^m.length) h1
   omega
def agr {l:List Int} (h:nz l) (hd:dg l) (h0:dv l=0):l=[]:=by
 by_cases hl:l=[]
 ·grind
 ·have:=Na h hd hl
  grind
def Sk {a b:List Int} (ha:dg a) (hb:nz b) (cw:dg b) (h:a.length<b.length):dv a<dv b:=by
 have h1:=jG ha;have h2:=Na hb cw (fun e=>by subst e;simp at h);have h3:1000000000^a.length<=1000000000^(b.length-1):=xh (by decide) (by omega);omega
def dR (m n:Nat):Int:=if m<n then -1 else if n<m then 1 else 0
def ahU {l:List Int} {i:Nat} (h:i<l.length):dv l=dv (l.take i)+1000000000^i*(l[i].toNat+1000000000*dv (l.drop (i+1))):=by
 have e:l=l.take i++l[i]::l.drop (i+1):=by simp_all
 have:dv l=dv (l.take i++l[i]::l.drop (i+1)):=congrArg dv e
 rw [this,mU,yI,xn (by omega)];rfl
def ags {a b:List Int} {i:Nat} (ha:dg a) (hb:dg b) (h1:i<a.length) (h2:i<b.length) (he:a.drop (i+1)=b.drop (i+1)) (h:a[i]<b[i]):dv a<dv b:=by
 rw [ahU h1,ahU h2,he];have hl:=jG (Cp ha i);have g1:=acS ha i h1;have h3:a[i].toNat+1000000000*dv (b.drop (i+1))+1<=b[i].toNat+1000000000*dv (b.drop (i+1)):=by omega
 have:=yZ (1000000000^i) h3
 grind
def Sl:∀{l:List Int} {j:Nat} {x:Int},j<l.length->dv (l.set j x)+1000000000^j*(l.getD j 0).toNat=dv l+1000000000^j*x.toNat
 | [],j,x,h=>by simp at h
 | a::l,0,x,_=>by simp [dv];omega
 | a::l,j+1,x,h=>by
  have ih:=Sl (l:=l) (j:=j) (x:=x) (by simpa using h);simp only [yao,dv,yai,xd]
  grind
def MS {l:List Int} (h:dg l) {j:Nat} {x:Int} (hx:0<=x/\x<1000000000):dg (l.set j x):=by
 by_cases hj:j<l.length
 ·rw [List.set_eq_take_append_cons_drop,yQ hj];have e:l=l.take (j+1)++l.drop (j+1):=(xO _ _).symm;have hd:dg (l.drop (j+1)):=by rw [e] at h;exact (gW.1 h).2
  exact gW.2 ⟨Cp h j,(gW (a:=[x]) (b:=l.drop (j+1))).2 ⟨lF.2 hx,hd⟩⟩
 ·rw [List.set_eq_of_length_le (by omega)];exact h
def acT {l:List Int} {j m:Nat} {x:Int} (h:m≠j):(l.set j x).getD m 0=l.getD m 0:=by grind
def arA {V0 V V' p q A X Y o c s:Nat} (hs:s=o+A*X+c) (bc:V'+p*q*o=V+p*q*(s%1000000000)) (hv:V+p*q*c=V0+p*(A*Y)):
  V'+p*(q*1000000000)*(s/1000000000)=V0+p*(A*(Y+q*X)):=by
 have e:=Nat.mod_add_div s 1000000000;have e2:p*q*s=p*q*(s%1000000000)+p*(q*1000000000)*(s/1000000000):=by
  conv=>lhs;rw [<-e]
  rw [xA,<-xj (p*q),<-xj p q]
 have e3:p*q*s=p*q*o+p*q*(A*X)+p*q*c:=by rw [hs,xA,xA]
 have e4:p*(A*(Y+q*X))=p*(A*Y)+p*q*(A*X):=by
  rw [xA,xA,xj p q,<-xj A q X,xE A q,xj q A X]
 omega
def acU (n:Nat):dv (ym n 0)=0:=by
 induction n with
 | zero=>rfl
 | succ n ih=>simp [wC,dv,ih]
def acV (n:Nat):dg (ym n 0):=by
 induction n with
 | zero=>rfl
 | succ n ih=>exact (gW (a:=[0]) (b:=ym n 0)).2 ⟨by decide,ih⟩
end
section
def bv (b:Nat):List Nat->Nat
 | []=>0
 | a::r=>a+b*bv b r
def lo (b:Nat) (l:List Nat):Prop:=∀x,x∈l->x<b
section
variable {b:Nat}
def AU (a:Nat):bv b [a]=a:=by simp [bv]
def rn:∀(l m:List Nat),bv b (l++m)=bv b l+b^l.length*bv b m
 | [],m=>by simp [bv]
 | x::l,m=>by
  simp only [xm,bv,rn l m,yz,xd,xA]
  grind
def gd {l:List Nat} {i:Nat} (h:i<l.length):l[i]=l.getD i 0:=by simp_all
def Sm {l:List Nat} {i:Nat} (h:l.length<=i):l.getD i 0=0:=by simp_all
def js {l:List Nat} (i:Nat):bv b (l.take (i+1))=bv b (l.take i)+b^i*l.getD i 0:=by
 by_cases h:i<l.length
 ·rw [yY h,rn,yI,xn (by omega),AU,gd h]
 ·rw [yG (by omega),yG (by omega),Sm (by omega),xB,y8]
def MT:lo b []:=fun _ h=>by simp at h
def LW {l m:List Nat}:lo b (l++m)↔lo b l/\lo b m:=by
 constructor
 ·intro h;exact ⟨fun x hx=>h x (by simp [hx]),fun x hx=>h x (by simp [hx])⟩
 ·rintro ⟨h1,h2⟩ x hx;rcases List.mem_append.1 hx with h | h
  ·exact h1 x h
  ·exact h2 x h
def EK {x:Nat}:lo b [x]↔x<b:=by simp [lo]
def gE (hb:0<b) {l:List Nat} (h:lo b l) (i:Nat):l.getD i 0<b:=by
 by_cases hi:i<l.length
 ·rw [<-gd hi];exact h _ (List.getElem_mem hi)
 ·grind
def AN {l:List Nat} (h:lo b l) (i:Nat):lo b (l.take i):=fun x hx=>h x (List.mem_of_mem_take hx)
def agt {l:List Nat} (h:lo b l) (i:Nat):lo b (l.drop i):=fun x hx=>h x (List.mem_of_mem_drop hx)
def mr {l:List Nat} (h:lo b l) {i x:Nat} (hx:x<b):lo b (l.set i x):=fun y hy=>by
 rcases List.mem_or_eq_of_mem_set hy with h1 | h1
 ·exact h y h1
 ·omega
def EL (hb:0<b) (n:Nat):lo b (ym n 0):=fun x hx=>by
 grind
def EM (n:Nat):bv b (ym n 0)=0:=by
 induction n with
 | zero=>rfl
 | succ n ih=>simp [wC,bv,ih]
def Cq (n m:Nat):(ym n (0:Nat)).getD m 0=0:=by grind
def mw:∀{l:List Nat},lo b l->bv b l<b^l.length
 | [],_=>by simp [bv]
 | x::l,h=>by
  have h1:=h x (by simp);have h2:=mw (l:=l) (fun y hy=>h y (by simp [hy]));simp only [bv,yz,xd,xE _ b]
  have:=yZ b (show bv b l+1<=b^l.length from h2)
  grind
def nQ:∀{l:List Nat} {i x:Nat},i<l.length->bv b (l.set i x)+b^i*l.getD i 0=bv b l+b^i*x
 | [],i,x,h=>by simp at h
 | a::l,0,x,_=>by simp [bv];omega
 | a::l,i+1,x,h=>by
  have ih:=nQ (l:=l) (i:=i) (x:=x) (by simpa using h)
  have:=congrArg (fun t=>b*t) ih
  simp only [xA] at this;simp only [yao,bv,yai,xd,xE _ b,xj] at this ⊢;omega
def oY {l:List Nat} {i m x:Nat} (h:i≠m):(l.set i x).getD m 0=l.getD m 0:=by simp_all
def aoy {l:List Nat} {i x:Nat} (h:i<l.length):(l.set i x).getD i 0=x:=by simp_all
def HV (l:List Nat) (i:Nat) (h:i<=l.length):bv b l=bv b (l.take i)+b^i*bv b (l.drop i):=by
 have:=rn (b:=b) (l.take i) (l.drop i)
 simp_all
def dW:List Nat->List Nat
 | []=>[]
 | a::r=>match dW r with | []=>if a=0 then [] else [a] | t::q=>a::t::q
def LF:∀l:List Nat,dW (l++[0])=dW l
 | []=>rfl
 | a::l=>by simp only [xm,dW,LF l]
def D2 {a:Nat} (h:a≠0):∀l:List Nat,dW (l++[a])=l++[a]
 | []=>by simp [dW,h]
 | b::l=>by
  simp only [xm,dW,D2 h l]
  cases hq:l++[a] with
  | nil=>simp at hq
  | cons t q=>rfl
abbrev gm (l:List Nat):Prop:=dW l=l
def aoz:∀(n:Nat) (l:List Nat),l.length=n->∃i,i<=n/\dW l=l.take i/\gm (l.take i)/\bv b (l.take i)=bv b l:=by
 intro n
 induction n with
 | zero=>intro l h;rw [yx h];exact ⟨0,yr _,rfl,rfl,rfl⟩
 | succ n ih=>
  intro l h;rcases snoc l with rfl | ⟨m,a,rfl⟩
  ·grind
  ·have hm:m.length=n:=by simp_all
   by_cases h0:a=0
   ·subst h0;obtain ⟨i,h1,h2,h3,h4⟩:=ih m hm;have e:(m++[0]).take i=m.take i:=by grind
    refine ⟨i,by omega,by rw [LF,h2,e],by rw [e];exact h3,?_⟩
    rw [e,h4,rn];simp [bv]
   ·have e:(m++[a]).take (n+1)=m++[a]:=yG (by simp [hm]);exact ⟨n+1,yr _,by rw [e,D2 h0],by rw [e];exact D2 h0 m,by rw [e]⟩
def LX (l:List Nat):∃i,i<=l.length/\dW l=l.take i/\gm (dW l)/\bv b (dW l)=bv b l:=by
 obtain ⟨i,h1,h2,h3,h4⟩:=aoz (b:=b) l.length l rfl
 grind
def AF (l:List Nat):bv b (dW l)=bv b l:=by
 obtain ⟨_,_,_,_,h⟩:=LX (b:=b) l;exact h
def AG (l:List Nat):gm (dW l):=by
 obtain ⟨_,_,_,h,_⟩:=LX (b:=2) l;exact h
def AH {l:List Nat} (h:lo b l):lo b (dW l):=by
 obtain ⟨i,_,h2,_⟩:=LX (b:=b) l;rw [h2];exact AN h i
def apI (l:List Nat):(dW l).length<=l.length:=by
 obtain ⟨i,_,h2,_⟩:=LX (b:=2) l
 grind
def Me {l:List Nat} (h:gm l) (h0:l≠[]):l.getD (l.length-1) 0≠0:=by
 rcases snoc l with rfl | ⟨m,a,rfl⟩
 ·grind
 ·intro ha
  have:a=0:=by
   grind
  subst this;have e:=congrArg yae h;rw [LF] at e
  have:=apI m
  grind
def Sn (hb:0<b) {l:List Nat} (h:gm l) (h0:l≠[]):b^(l.length-1)<=bv b l:=by
 rcases snoc l with rfl | ⟨m,a,rfl⟩
 ·grind
 ·have ha:=Me h h0;simp [y7] at ha;rw [rn,AU];simp only [yL,uF,tC]
  have:=yZ (b^m.length) (show 1<=a by omega)
  omega
def Mz (hb:1<b) {l m:List Nat} (hl:lo b l) (hm:gm m) (h:l.length<m.length):bv b l<bv b m:=by
 have h1:=mw hl;have h2:=Sn (b:=b) (by omega) hm (fun e=>by subst e;simp at h);have h3:b^l.length<=b^(m.length-1):=xh (by omega) (by omega);omega
def agu {l m:List Nat} (hl:lo b l) {i:Nat} (h1:i<l.length) (h2:i<m.length) (he:l.drop (i+1)=m.drop (i+1)) (h:l.getD i 0<m.getD i 0):bv b l<bv b m:=by
 rw [HV l (i+1) (by omega),HV m (i+1) (by omega),he,js,js]
 have:=mw (AN hl i)
 have:=yZ (b^i) (show l.getD i 0+1<=m.getD i 0 from h)
 grind
def apJ (hb:1<b) {l:List Nat} {k:Nat} (h:gm l) (hk:bv b l<b^k):l.length<=k:=by
 by_cases h0:l=[]
 ·grind
 ·have h1:=Sn (b:=b) (by omega) h h0;have h2:b^(l.length-1)<b^k:=wQ h1 hk
  have:=(Nat.pow_lt_pow_iff_right hb).1 h2
  omega
def aba {V v1 v2 vr U u0 u1 u2 ur p t r:Nat} (hV:V=(v1*b+v2)*p+vr) (hU:U=((u0*b+u1)*b+u2)*p+ur) (hur:ur<p)
  (ht:t*v1+r=u0*b+u1) (h:r*b+u2<t*v2):U/V<=t-1:=by
 have h1:U<t*V:=by
  have e:t*((v1*b+v2)*p)=((t*v1)*b+t*v2)*p:=by
   grind
  have h2:((u0*b+u1)*b+u2)+1<=(t*v1)*b+t*v2:=by rw [<-ht,wL];omega
  have h3:=yV p h2;rw [hV,hU,xA,e]
  grind
 have nB:0<V:=by
  grind
 have:=(Nat.div_lt_iff_lt_mul nB).2 h1
 omega
def abY {V v1 v2 vr U u0 u1 u2 ur p t r:Nat} (hb:0<b) (hV:V=(v1*b+v2)*p+vr) (KR:vr<p) (hU:U=((u0*b+u1)*b+u2)*p+ur) (eN:0<v1) (dB:v2<b) (ko:t<b)
  (ht:t*v1+r=u0*b+u1) (h:b<=r\/t*v2<=r*b+u2):t<=U/V+1:=by
 have h2:t*v2<=r*b+u2:=by
  rcases h with h | h
  ·have:=Nat.mul_le_mul (uU ko) (uU dB)
   have:=yV b h
   omega
  ·exact h
 have h3:t*(v1*b+v2)<=(u0*b+u1)*b+u2:=by
  rw [xA,<-xj,<-ht,wL];omega
 have hp:0<p:=by omega
 have aHQ:b<=v1*b:=Nat.le_mul_of_pos_left b eN;have nB:0<V:=by
  have:=tW (show 0<v1*b+v2 by omega) hp
  omega
 rcases xk t with h0 | h0
 ·grind
 ·obtain ⟨s,rfl⟩:∃s,t=s+1:=⟨t-1,by omega⟩;have h4:s*V<=U:=by
   have h5:V<=(v1*b+v2+1)*p:=by grind
   have h6:=yZ s h5;have h7:s*(v1*b+v2+1)<=(s+1)*(v1*b+v2):=by
    grind
   have h8:=yV p (Nat.le_trans h7 h3)
   grind
  exact Nat.succ_le_succ ((yaf nB).2 h4)
def Qm {V v1 v2 vr U u0 u1 u2 ur p:Nat} (hV:V=(v1*b+v2)*p+vr) (hU:U=((u0*b+u1)*b+u2)*p+ur) (hur:ur<p) (Af:u2<b) (eN:0<v1):U/V<=(u0*b+u1)/v1:=by
 by_cases nB:V=0
 ·grind
 ·refine (yaf eN).2 ?_;have h1:=Nat.div_mul_le_self U V;generalize U/V=q at h1 ⊢;have h2:q*v1*(b*p)<=q*V:=by
   rw [hV,xj]
   grind
  have h3:U<(u0*b+u1+1)*(b*p):=by
   have:(u0*b+u1)*b+u2+1<=(u0*b+u1+1)*b:=by grind
   have:=yV p this
   grind
  have h4:q*v1*(b*p)<(u0*b+u1+1)*(b*p):=by omega
  have:=tF h4
  omega
def abZ {V v1 v2 vr U u0 u1 u2 ur p:Nat} (hV:V=(v1*b+v2)*p+vr) (hU:U=((u0*b+u1)*b+u2)*p+ur) (KR:vr<p) (dB:v2<b) (h:U<b*V):u0<=v1:=by
 refine Nat.le_of_lt_succ ?_;have h1:V<(v1+1)*(b*p):=by
  have:v1*b+v2+1<=(v1+1)*b:=by grind
  have:=yV p this
  grind
 have h2:u0*(b*(b*p))<=U:=by
  grind
 have h3:=yZ b (uU h1);have e:b*((v1+1)*(b*p))=(v1+1)*(b*(b*p)):=by grind
 rw [e] at h3;have h4:u0*(b*(b*p))<(v1+1)*(b*(b*p)):=wQ h2 (yT h h3);exact tF h4
end
end
section
section
variable {P:aI} {L:Lib} {f:cA} {F:Nat->cA}
def BR (f:cA) (F:Nat->cA):Prop:=∀c s r,f c s=some r->∃n,F n c s=some r
def Mon (F:Nat->cA):Prop:=∀n m,n<=m->Le (F n) (F m)
def Lq (h:BR f F) (n:Nat) (av:List AV) (r:AV) (hr:bO P L f n av=some r):∃k,bO P L (F k) n av=some r:=by
 unfold bO at hr ⊢
 cases hL:L.pure n with
 | some sp=>exact ⟨0,by simpa only [hL] using hr⟩
 | none=>
  simp only [hL] at hr ⊢
  cases hP:P n with
  | none=>simp [hP] at hr
  | some G=>
   simp only [hP] at hr ⊢
   cases hf:f G.body ⟨eh 0 av,[],0,0⟩ with
   | none=>simp [hf] at hr
   | some q=>
    obtain ⟨k,hk⟩:=h _ _ _ hf
    grind
def Qy (h:BR f F) (hp:Hp) (ct:Nat) (n:Nat) (av:List AV) (r:AV×Hp×Nat) (hr:iL P L f hp ct n av=some r):∃k,iL P L (F k) hp ct n av=some r:=by
 unfold iL at hr ⊢
 cases hL:L.heap n with
 | some sp=>exact ⟨0,by simpa only [hL] using hr⟩
 | none=>
  simp only [hL] at hr ⊢
  cases hP:P n with
  | none=>simp [hP] at hr
  | some G=>
   simp only [hP] at hr ⊢
   cases hf:f G.body ⟨eh 0 av,hp,ct,ct⟩ with
   | none=>simp [hf] at hr
   | some q=>
    obtain ⟨k,hk⟩:=h _ _ _ hf
    grind
def aaH (h:BR f F) (hm:Mon F) (hp:Hp) (ct:Nat) (l:Nat) (xs:List AV) (r:AV×Hp×Nat) (hr:nJ f hp ct l xs=some r):∃k,nJ (F k) hp ct l xs=some r:=by
 have key:∃k,∀g,Le (F k) g->nJ g hp ct l xs=some r:=by
  unfold nJ at hr
  cases hl:aq hp l with
  | none=>simp [hl] at hr
  | some o=>
   split at hr
   ·rename_i tm ps cK body pe mP
    cases hb:rF tm ps xs with
    | none=>simp [hb] at hr
    | some tm'=>
     simp only [hb] at hr
     cases h1:f cK ⟨tm',hp,ct,ct⟩ with
     | none=>simp [h1] at hr
     | some q=>
      obtain ⟨k1,kh⟩:=h _ _ _ h1
      split at hr
      ·rename_i s1 Ti
       split at hr
       ·rename_i jK Dm BF CS zZ ajq
        cases h2:f body ⟨s1.tm,bc s1.hp l (.lp jK Dm BF CS 1 zZ),s1.ct,s1.ct⟩ with
        | none=>simp [h2] at hr
        | some q2=>
         obtain ⟨k2,fD⟩:=h _ _ _ h2;refine ⟨max k1 k2,fun g hg=>?_⟩;have e1:=hg _ _ _ (hm k1 _ (vX k1 k2) _ _ _ kh);have e2:=hg _ _ _ (hm k2 _ (vR k1 k2) _ _ _ fD);unfold nJ
         grind
       ·simp at hr
      ·simp at hr
   ·simp at hr
 obtain ⟨k,hk⟩:=key;exact ⟨k,hk _ (fun _ _ _ h=>h)⟩
def abb (h:BR f F) (hm:Mon F) (hp:Hp) (ct:Nat) (m:Md) (fv:AV) (xs:List AV) (r:AV×Hp×Nat) (hr:eJ P L f hp ct m fv xs=some r):∃k,eJ P L (F k) hp ct m fv xs=some r:=by
 unfold eJ at hr ⊢
 split at hr
 ·rename_i n first cap
  cases m with
  | pure=>
   cases hz:cI deep hp (first++(xs++cap)) with
   | none=>simp [hz] at hr
   | some q=>
    simp only [hz] at hr ⊢
    cases hc:bO P L f n q.1 with
    | none=>simp [hc] at hr
    | some u=>
     obtain ⟨k,hk⟩:=Lq h n q.1 u hc
     grind
  | own=>
   cases hz:cI deep hp (first++(xs++cap)) with
   | none=>simp [hz] at hr
   | some q=>
    simp only [hz] at hr ⊢
    cases hc:bO P L f n q.1 with
    | none=>simp [hc] at hr
    | some u=>
     obtain ⟨k,hk⟩:=Lq h n q.1 u hc
     grind
  | heap=>exact Qy h _ _ _ _ _ hr
  | dyn=>
   cases hz:aG (first++(xs++cap)) with
   | true=>
    simp only [hz,yA] at hr ⊢
    cases hc:bO P L f n (first++(xs++cap)) with
    | none=>simp [hc] at hr
    | some u=>
     obtain ⟨k,hk⟩:=Lq h n _ u hc
     grind
   | false=>
    simp only [hz,yS] at hr ⊢;exact Qy h _ _ _ _ _ hr
 ·split at hr
  ·exact aaH h hm _ _ _ _ _ hr
  ·exact aaH h hm _ _ _ _ _ hr
  ·simp at hr
 ·simp at hr
def arB (h:BR f F) (hm:Mon F) (tm:Env) (hp:Hp) (ct:Nat) (o:Op) (r:AV×Hp×Nat) (hr:bf P L f tm hp ct o=some r):∃k,bf P L (F k) tm hp ct o=some r:=by
 unfold bf at hr ⊢
 split at hr
 ·exact abb h hm _ _ _ _ _ _ hr
 ·rename_i rs fv xs
  cases hc:eJ P L f hp ct .dyn (aD tm fv) (dw tm xs) with
  | none=>simp [hc] at hr
  | some q=>
   obtain ⟨k,hk⟩:=abb h hm _ _ _ _ _ _ hc
   grind
 all_goals exact ⟨0,by simpa only using hr⟩
def QU (h:BR f F) (hm:Mon F):∀(ops:List a8) (s s':St),dC P L f ops s=some s'->∃k,dC P L (F k) ops s=some s'
 | [],s,s',hr=>⟨0,by simpa only [dC] using hr⟩
 | ⟨d,gd,o⟩::r,s,s',hr=>by
  simp only [dC] at hr ⊢
  split at hr
  ·rename_i hw
   cases ho:bf P L f s.tm s.hp s.ct o with
   | none=>simp [ho] at hr
   | some q=>
    obtain ⟨k1,kh⟩:=arB h hm _ _ _ _ _ ho;simp only [ho] at hr;obtain ⟨k2,fD⟩:=QU h hm r _ _ hr;refine ⟨max k1 k2,?_⟩;rw [abR (hm k1 _ (vX k1 k2)) _ _ _ _ _ kh];exact Lz (hm k2 _ (vR k1 k2)) r _ _ fD
  ·rename_i hw;exact QU h hm r _ _ hr
  ·simp at hr
def Ch (h:BR f F) (hm:Mon F):∀(c:VC) (s:St) (r:Ex×St),bM P L f c s=some r->∃k,bM P L (F k) c s=some r
 | .skip,s,r,hr=>⟨0,by simpa only [bM] using hr⟩
 | .aM ops,s,r,hr=>by
  simp only [bM] at hr ⊢
  cases ho:dC P L f ops s with
  | none=>simp [ho] at hr
  | some s'=>
   obtain ⟨k,hk⟩:=QU h hm _ _ _ ho
   grind
 | .seq a b,s,r,hr=>by
  simp only [bM] at hr ⊢
  cases ha:bM P L f a s with
  | none=>simp [ha] at hr
  | some q=>
   obtain ⟨k1,kh⟩:=Ch h hm a s q ha;obtain ⟨ex,s1⟩:=q
   cases ex with
   | normal=>
    simp only [ha] at hr;obtain ⟨k2,fD⟩:=Ch h hm b s1 r hr;refine ⟨max k1 k2,?_⟩;rw [p7 (hm k1 _ (vX k1 k2)) a s _ kh];exact p7 (hm k2 _ (vR k1 k2)) b s1 r fD
   | ret=>exact ⟨k1,by rw [kh];simpa only [ha] using hr⟩
   | exit id=>exact ⟨k1,by rw [kh];simpa only [ha] using hr⟩
 | .cond x a b,s,r,hr=>by
  simp only [bM] at hr ⊢
  split at hr
  ·rename_i t ht
   cases t with
   | true=>simp only [yA] at hr ⊢;exact Ch h hm a s r hr
   | false=>simp only [yS] at hr ⊢;exact Ch h hm b s r hr
  ·simp at hr
 | .aF id a,s,r,hr=>by
  simp only [bM] at hr ⊢
  cases ha:bM P L f a s with
  | none=>simp [ha] at hr
  | some q=>
   obtain ⟨k,hk⟩:=Ch h hm a s q ha
   grind
 | .kp live,s,r,hr=>⟨0,by simpa only [bM] using hr⟩
 | .fz ts,s,r,hr=>⟨0,by simpa only [bM] using hr⟩
 | .loop live a,s,r,hr=>by
  simp only [bM] at hr ⊢
  cases ha:bM P L f a (aS live s) with
  | none=>simp [ha] at hr
  | some q=>
   obtain ⟨k1,kh⟩:=Ch h hm a _ q ha;obtain ⟨ex,s1⟩:=q
   cases ex with
   | normal=>
    simp only [ha] at hr;obtain ⟨k2,fD⟩:=h _ _ _ hr;refine ⟨max k1 k2,?_⟩;rw [p7 (hm k1 _ (vX k1 k2)) a _ _ kh];exact hm k2 _ (vR k1 k2) _ _ _ fD
   | ret=>exact ⟨k1,by rw [kh];simpa only [ha] using hr⟩
   | exit id=>exact ⟨k1,by rw [kh];simpa only [ha] using hr⟩
 | .rf fv ps cK body,s,r,hr=>by
  simp only [bM] at hr ⊢
  split at hr
  ·rename_i n first cap hx
   split at hr
   ·grind
   ·rename_i hL
    cases hc:iL P L f ((s.ct,.lp s.tm ps cK body 0 .none)::s.hp) (s.ct+1) n (first++(.fn (.y s.ct) [] []::cap)) with
    | none=>simp [hc] at hr
    | some q=>
     obtain ⟨k,hk⟩:=Qy h _ _ _ _ _ hc
     grind
  ·simp at hr
 | .exit id,s,r,hr=>⟨0,by simpa only [bM] using hr⟩
 | .ret,s,r,hr=>⟨0,by simpa only [bM] using hr⟩
end
section
variable (P:aI) (L:Lib)
noncomputable def D:cA:=fun c s=>@dite _ (∃r n,ev P L n c s=some r) (Classical.propDecidable _) (fun h=>some h.choose) (fun _=>none)
variable {P L}
def akl {c:VC} {s:St} {r:Ex×St} {n:Nat} (h:ev P L n c s=some r):D P L c s=some r:=by
 have hx:∃r n,ev P L n c s=some r:=⟨r,n,h⟩;unfold D;obtain ⟨m,hm⟩:=hx.choose_spec;have e1:=RQ P L (vX n m) _ _ _ h;have e2:=RQ P L (vR n m) _ _ _ hm
 grind
def XT {c:VC} {s:St} {r:Ex×St} (h:D P L c s=some r):∃n,ev P L n c s=some r:=by
 unfold D at h;by_cases hx:∃r n,ev P L n c s=some r
 ·grind
 ·grind
def aA1 (n:Nat):Le (ev P L n) (D P L):=fun _ _ _ h=>akl h
def aiJ:BR (D P L) (ev P L):=fun _ _ _ h=>XT h
def awX:Mon (ev P L):=fun _ _ h=>RQ P L h
def lS (c:VC) (s:St):D P L c s=bM P L (D P L) c s:=by
 cases h:D P L c s with
 | some r=>
  obtain ⟨n,hn⟩:=XT h
  cases n with
  | zero=>rw [Ic] at hn;cases hn
  | succ n=>rw [Ie] at hn;exact (p7 (aA1 n) c s r hn).symm
 | none=>
  cases hs:bM P L (D P L) c s with
  | none=>rfl
  | some r=>
   obtain ⟨n,hn⟩:=Ch aiJ awX c s r hs;rw [<-Ie] at hn;rw [akl hn] at h;cases h
def ahV {f:Nat} {av:List AV} {r:AV} (h:bO P L (D P L) f av=some r):∃n,YA P L n f av=some r:=Lq aiJ f av r h
end
end
section
open Go (IntKind BinOp UnOp)
section
variable {P:aI} {L:Lib}
structure Has (P:aI) (L:Lib) (n:Nat) (F:aZ):Prop where
 pure:L.pure n=none
 heap:L.heap n=none
 code:P n=some F
noncomputable def nc (P:aI) (L:Lib) (r:Option (Ex×St)) (b:VC):Option (Ex×St):=match r with | some (.normal,s)=>D P L b s | r=>r
def zu (id:Nat) (r:Option (Ex×St)):Option (Ex×St):=match r with | some (.exit j,s)=>bif yu j id then some (.normal,s) else some (.exit j,s) | r=>r
noncomputable def Jb (P:aI) (L:Lib) (live:List Nat) (a:VC) (r:Option (Ex×St)):Option (Ex×St):=match r with | some (.normal,s)=>D P L (.loop live a) s | r=>r
def norm (r:Option St):Option (Ex×St):=match r with | some s=>some (.normal,s) | none=>none
noncomputable def Nb (P:aI) (L:Lib) (v:AV) (a b:VC) (s:St):Option (Ex×St):=match v with | .bool t=>bif t then D P L a s else D P L b s | _=>none
def awY (s:St):D P L .skip s=some (.normal,s):=by rw [lS];rfl
def awZ (id:Nat) (s:St):D P L (.exit id) s=some (.exit id,s):=by rw [lS];rfl
def azD (s:St):D P L .ret s=some (.ret,s):=by rw [lS];rfl
def akm (live:List Nat) (s:St):D P L (.kp live) s=some (.normal,aS live s):=by rw [lS];rfl
def aA2 (ts:List Nat) (s:St):D P L (.fz ts) s=norm (pk ts s):=by rw [lS];rfl
def azE (ops:List a8) (s:St):D P L (.aM ops) s=norm (dC P L (D P L) ops s):=by rw [lS];rfl
def jY (a b:VC) (s:St):D P L (.seq a b) s=nc P L (D P L a s) b:=by
 rw [lS,lS a];simp only [bM,nc]
 cases bM P L (D P L) a s with
 | none=>rfl
 | some q=>
  obtain ⟨e,s1⟩:=q
  cases e with
  | normal=>exact (lS b s1).symm
  | ret=>rfl
  | exit id=>rfl
def aw0 (x:X) (a b:VC) (s:St):D P L (.cond x a b) s=Nb P L (aD s.tm x) a b s:=by
 rw [lS];simp only [bM,Nb]
 cases aD s.tm x with
 | bool t=>
  cases t with
  | true=>exact (lS a s).symm
  | false=>exact (lS b s).symm
 | _=>rfl
def azF (id:Nat) (a:VC) (s:St):D P L (.aF id a) s=zu id (D P L a s):=by
 rw [lS,lS a];simp only [bM,zu]
 cases bM P L (D P L) a s with
 | none=>rfl
 | some q=>obtain ⟨e,s1⟩:=q;cases e<;>rfl
def MU (live:List Nat) (a:VC) (s:St):D P L (.loop live a) s=Jb P L live a (D P L a (aS live s)):=by
 rw [lS,lS a];simp only [bM,Jb]
 cases bM P L (D P L) a (aS live s) with
 | none=>rfl
 | some q=>obtain ⟨e,s1⟩:=q;cases e<;>rfl
def fm (s:St) (b:VC):nc P L (some (.normal,s)) b=D P L b s:=rfl
def atv (s:St) (b:VC):nc P L (some (.ret,s)) b=some (.ret,s):=rfl
def atw (id:Nat) (s:St) (b:VC):nc P L (some (.exit id,s)) b=some (.exit id,s):=rfl
def agv (live:List Nat) (a:VC) (s:St):Jb P L live a (some (.normal,s))=D P L (.loop live a) s:=rfl
def atx (live:List Nat) (a:VC) (s:St):Jb P L live a (some (.ret,s))=some (.ret,s):=rfl
def aty (live:List Nat) (a:VC) (id:Nat) (s:St):Jb P L live a (some (.exit id,s))=some (.exit id,s):=rfl
def atz (id:Nat) (s:St):zu id (some (.normal,s))=some (.normal,s):=rfl
def atA (id:Nat) (s:St):zu id (some (.ret,s))=some (.ret,s):=rfl
def agw (id:Nat) (s:St):zu id (some (.exit id,s))=some (.normal,s):=by simp only [zu,wV,yA]
def atB {id j:Nat} (s:St) (h:j≠id):zu id (some (.exit j,s))=some (.exit j,s):=by
 have:yu j id=false:=by
  cases hq:yu j id with
  | false=>rfl
  | true=>exact absurd (yj hq) h
 simp only [zu,this,yS]
def aw1 (s:St):norm (some s)=some (.normal,s):=rfl
def aw2:norm none=none:=rfl
def atD (a b:VC) (s:St):Nb P L (.bool true) a b s=D P L a s:=rfl
def atE (a b:VC) (s:St):Nb P L (.bool false) a b s=D P L b s:=rfl
noncomputable def SM (P:aI) (L:Lib) (d:Option Nat) (r:List a8) (tm:Env) (base:Nat) (q:fS):Option St:=
 match q with | some (v,hp,ct)=>dC P L (D P L) r ⟨put d v tm,hp,ct,base⟩ | none=>none
noncomputable def CK (P:aI) (L:Lib) (v:AV) (b:Bool) (d:Option Nat) (o:Op) (r:List a8) (s:St):Option St:=
 match v with
 | .bool c=>bif c==b then dC P L (D P L) (⟨d,none,o⟩::r) s else dC P L (D P L) r ⟨put d (.ae []) s.tm,s.hp,s.ct,s.base⟩
 | .ae []=>dC P L (D P L) r ⟨put d (.ae []) s.tm,s.hp,s.ct,s.base⟩
 | _=>none
def atF (s:St):dC P L (D P L) [] s=some s:=rfl
def arC (d:Option Nat) (o:Op) (r:List a8) (tm:Env) (hp:Hp) (ct base:Nat):
  dC P L (D P L) (⟨d,none,o⟩::r) ⟨tm,hp,ct,base⟩=SM P L d r tm base (bf P L (D P L) tm hp ct o):=by
 simp only [dC,SM]
 grind
def apK (d:Option Nat) (t:Nat) (b:Bool) (o:Op) (r:List a8) (tm:Env) (hp:Hp) (ct base:Nat):
  dC P L (D P L) (⟨d,some (t,b),o⟩::r) ⟨tm,hp,ct,base⟩=CK P L (ai tm t) b d o r ⟨tm,hp,ct,base⟩:=by
 simp only [dC,CK]
 cases ai tm t with
 | bool c=>
  simp only
  cases hc:(c==b) with
  | true=>simp only [yA]
  | false=>simp only [yS]
 | ae vs=>cases vs<;>rfl
 | _=>rfl
def atG (d:Option Nat) (r:List a8) (tm:Env) (base:Nat) (v:AV) (hp:Hp) (ct:Nat):SM P L d r tm base (some (v,hp,ct))=dC P L (D P L) r ⟨put d v tm,hp,ct,base⟩:=rfl
def azG (i:Nat) (v:AV) (tm:Env):put (some i) v tm=(i,v)::tm:=rfl
def azH (v:AV) (tm:Env):put none v tm=tm:=rfl
def arD (d:Option Nat) (o:Op) (r:List a8) (s:St):CK P L (.bool true) true d o r s=dC P L (D P L) (⟨d,none,o⟩::r) s:=rfl
def arE (d:Option Nat) (o:Op) (r:List a8) (s:St):CK P L (.bool false) false d o r s=dC P L (D P L) (⟨d,none,o⟩::r) s:=rfl
def arF (d:Option Nat) (o:Op) (r:List a8) (tm:Env) (hp:Hp) (ct base:Nat):CK P L (.bool true) false d o r ⟨tm,hp,ct,base⟩=dC P L (D P L) r ⟨put d (.ae []) tm,hp,ct,base⟩:=rfl
def arG (d:Option Nat) (o:Op) (r:List a8) (tm:Env) (hp:Hp) (ct base:Nat):CK P L (.bool false) true d o r ⟨tm,hp,ct,base⟩=dC P L (D P L) r ⟨put d (.ae []) tm,hp,ct,base⟩:=rfl
def atH (b:Bool) (d:Option Nat) (o:Op) (r:List a8) (tm:Env) (hp:Hp) (ct base:Nat):CK P L (.ae []) b d o r ⟨tm,hp,ct,base⟩=dC P L (D P L) r ⟨put d (.ae []) tm,hp,ct,base⟩:=rfl
def fW {j i:Nat} (h:j≠i):yu j i=false:=by
 cases hq:yu j i with
 | false=>rfl
 | true=>exact absurd (yj hq) h
def aw3 (tm:Env) (i:Nat):aD tm (.t i)=ai tm i:=rfl
def aw4 (tm:Env) (v:AV):aD tm (.c v)=v:=rfl
def apL (tm:Env):dw tm []=[]:=rfl
def aoA (tm:Env) (x:X) (r:List X):dw tm (x::r)=aD tm x::dw tm r:=rfl
def arH (i:Nat) (v:AV) (r:Env):ai ((i,v)::r) i=v:=by simp only [ai,wV,yA]
def apM {j i:Nat} (v:AV) (r:Env) (h:j≠i):ai ((j,v)::r) i=ai r i:=by simp only [ai,fW h,yS]
def jn (i:Nat) (o:Obj) (r:Hp):aq ((i,o)::r) i=some o:=by simp only [aq,wV,yA]
def fL {j i:Nat} (o:Obj) (r:Hp) (h:j≠i):aq ((j,o)::r) i=aq r i:=by simp only [aq,fW h,yS]
def acW (i:Nat) (o u:Obj) (r:Hp):bc ((i,o)::r) i u=(i,u)::r:=by simp only [bc,wV,yA]
def ab0 {j i:Nat} (o u:Obj) (r:Hp) (h:j≠i):bc ((j,o)::r) i u=(j,o)::bc r i u:=by simp only [bc,fW h,yS]
def arI (i:Nat):dP [] i=[]:=rfl
def acX (i:Nat) (o:Obj) (r:Hp):dP ((i,o)::r) i=dP r i:=by simp only [dP,wV,yA]
def ab1 {j i:Nat} (o:Obj) (r:Hp) (h:j≠i):dP ((j,o)::r) i=(j,o)::dP r i:=by simp only [dP,fW h,yS]
def rd (hp:Hp) (ct:Nat) (q:Option AV):fS:=match q with | some v=>some (v,hp,ct) | none=>none
def mk (hp:Hp) (ct:Nat) (q:Option (AV×Obj)):fS:=match q with | some (v,b)=>some (v,(ct,b)::hp,ct+1) | none=>none
def aA3 (hp:Hp) (ct:Nat) (v:AV):rd hp ct (some v)=some (v,hp,ct):=rfl
def aA4 (hp:Hp) (ct:Nat) (v:AV) (b:Obj):mk hp ct (some (v,b))=some (v,(ct,b)::hp,ct+1):=rfl
def SN (c a b:AV):Option AV:=match c with | .bool t=>some (bif t then a else b) | _=>none
def KS (k:Nat->Option AV) (n:Option Nat):Option AV:=match n with | some i=>k i | none=>none
def aiK (r:Option (List AV)):Option AV:=match r with | some cs=>some (.agg cs) | none=>none
def JV (ne:Bool) (r:Option Bool):Option AV:=match r with | some b=>some (.bool (ne !=b)) | none=>none
def aA5:AV->Option AV
 | .ptr id o=>some (.ptr id o)
 | .b5 cs=>some (.b5 cs)
 | .fn f a b=>some (.fn f a b)
 | _=>none
def JW (i:Nat):AV->Option AV | .ae vs=>vs[i]? | _=>none
section
variable {f:cA} {tm:Env} {hp:Hp} {ct:Nat}
def aw5 (x:X):bf P L f tm hp ct (.cu x)=some (aD tm x,hp,ct):=rfl
def atI (c a b:X):bf P L f tm hp ct (.pick c a b)=rd hp ct (SN (aD tm c) (aD tm a) (aD tm b)):=by
 rfl
def arJ (z:List AV) (ps:List (Nat×Nat×X)):bf P L f tm hp ct (.fO z ps)=rd hp ct (aiK (fill tm z ps)):=by
 rfl
def azI (sz:Nat) (ag:Bool) (x:X):bf P L f tm hp ct (.ld sz ag x)=rd hp ct (iU hp sz ag (aD tm x)):=rfl
def atJ (x:X):bf P L f tm hp ct (.Jg x)=rd hp ct (aA5 (aD tm x)):=by
 rfl
def aw6 (op:BinOp) (x y:X):bf P L f tm hp ct (.bin op x y)=rd hp ct (binOp op (aD tm x) (aD tm y)):=rfl
def azJ (ne:Bool) (k:Pf) (x y:X):bf P L f tm hp ct (.eq ne k x y)=rd hp ct (JV ne (jI k (aD tm x) (aD tm y))):=by
 rfl
def azK (op:UnOp) (x:X):bf P L f tm hp ct (.un op x)=rd hp ct (unOp op (aD tm x)):=rfl
def azL (k:Conv) (x:X):bf P L f tm hp ct (.cv k x)=rd hp ct (pw k (aD tm x)):=rfl
def aw7 (g:Fr) (a b:List X):bf P L f tm hp ct (.Dl g a b)=some (.fn g (dw tm a) (dw tm b),hp,ct):=rfl
def aw8 (k:Cut) (x:X) (lo hi:Option X):bf P L f tm hp ct (.dS k x lo hi)=rd hp ct (eV hp k (aD tm x) tm lo hi):=rfl
def aw9 (k:Nat) (x:X):bf P L f tm hp ct (.off k x)=rd hp ct (IW k (aD tm x)):=rfl
def axa (o sz:Nat) (ag:Bool) (x:X):bf P L f tm hp ct (.Ko o sz ag x)=rd hp ct (M1 o sz ag (aD tm x)):=rfl
def axb (sz:Nat) (x i:X):bf P L f tm hp ct (.aQ sz x i)=rd hp ct (KS (fun j=>iN sz j (aD tm x)) (dz (aD tm i))):=by
 rfl
def axc (n sz:Nat) (x i:X):bf P L f tm hp ct (.FQ n sz x i)=rd hp ct (KS (fun j=>M2 n sz j (aD tm x)) (dz (aD tm i))):=by
 rfl
def axd (x i:X):bf P L f tm hp ct (.kT x i)=rd hp ct (KS (fun j=>mY j (aD tm x)) (dz (aD tm i))):=by
 rfl
def axe (n sz:Nat) (ag:Bool) (x i:X):bf P L f tm hp ct (.FR n sz ag x i)=rd hp ct (KS (fun j=>M3 n sz ag j (aD tm x)) (dz (aD tm i))):=by
 rfl
def axf (i:Nat) (x:X):bf P L f tm hp ct (.ext i x)=rd hp ct (JW i (aD tm x)):=by
 rfl
def axg (k:Nat) (x:X):bf P L f tm hp ct (.len k x)=rd hp ct (fP hp k (aD tm x)):=rfl
def axh (sz:Nat) (x:X):bf P L f tm hp ct (.box sz x)=mk hp ct (cP tm hp ct (.box sz x)):=rfl
def atK (n sz:Nat) (z:List AV) (ps:List (Nat×Nat×X)):bf P L f tm hp ct (.cZ n sz z ps)=mk hp ct (cP tm hp ct (.cZ n sz z ps)):=rfl
def axi (sz by':Nat) (z:List AV) (l c:X):bf P L f tm hp ct (.gj sz by' z l c)=mk hp ct (cP tm hp ct (.gj sz by' z l c)):=rfl
def axj:bf P L f tm hp ct .zY=some (.map ct,(ct,.mp true [] [])::hp,ct+1):=rfl
def axk (x:X):bf P L f tm hp ct (.pL x)=mk hp ct (cP tm hp ct (.pL x)):=rfl
def azM (sz:Nat) (x v:X):bf P L f tm hp ct (.st sz x v)=cJ tm hp ct (.st sz x v):=rfl
def axl (sz by':Nat) (s x:X):bf P L f tm hp ct (.aO sz by' s x)=cJ tm hp ct (.aO sz by' s x):=rfl
def Nc (hp:Hp) (ct:Nat) (r:Option AV):fS:=match r with | some v=>some (shut v,hp,ct) | none=>none
def OR (hp:Hp) (ct:Nat) (r:Option AV):fS:=match r with | some v=>some (own hp ct v) | none=>none
def SO (P:aI) (L:Lib) (f:cA) (ct n:Nat) (q:Option (List AV×Hp)):fS:=match q with | some (av,hp)=>Nc hp ct (bO P L f n av) | none=>none
def SP (P:aI) (L:Lib) (f:cA) (ct n:Nat) (q:Option (List AV×Hp)):fS:=match q with | some (av,hp)=>OR hp ct (bO P L f n av) | none=>none
def SQ (P:aI) (L:Lib) (f:cA) (hp:Hp) (ct:Nat) (fv:AV) (xs:List AV):fS:=eJ P L f hp ct .pure fv xs
def SR (P:aI) (L:Lib) (f:cA) (hp:Hp) (ct:Nat) (fv:AV) (xs:List AV):fS:=eJ P L f hp ct .own fv xs
def arK (g:X) (xs:List X):bf P L f tm hp ct (.call .pure g xs)=SQ P L f hp ct (aD tm g) (dw tm xs):=rfl
def arL (g:X) (xs:List X):bf P L f tm hp ct (.call .own g xs)=SR P L f hp ct (aD tm g) (dw tm xs):=rfl
def arM (g:X) (xs:List X):bf P L f tm hp ct (.call .heap g xs)=eJ P L f hp ct .heap (aD tm g) (dw tm xs):=rfl
def atL (n:Nat) (first cap xs:List AV):SQ P L f hp ct (.fn (.f n) first cap) xs=SO P L f ct n (cI deep hp (first++(xs++cap))):=by
 simp only [SQ,eJ,SO,Nc]
 cases cI deep hp (first++(xs++cap)) with
 | none=>rfl
 | some q=>cases bO P L f n q.1<;>rfl
def atM (n:Nat) (first cap xs:List AV):SR P L f hp ct (.fn (.f n) first cap) xs=SP P L f ct n (cI deep hp (first++(xs++cap))):=by
 simp only [SR,eJ,SP,OR]
 cases cI deep hp (first++(xs++cap)) with
 | none=>rfl
 | some q=>cases bO P L f n q.1<;>rfl
def atN (n:Nat) (av:List AV):SO P L f ct n (some (av,hp))=Nc hp ct (bO P L f n av):=rfl
def atO (n:Nat) (av:List AV):SP P L f ct n (some (av,hp))=OR hp ct (bO P L f n av):=rfl
def atP (v:AV):Nc hp ct (some v)=some (shut v,hp,ct):=rfl
def axm (v:AV):OR hp ct (some v)=some (own hp ct v):=rfl
def OS (hp:Hp) (r:Option AV):Option AV:=match r with | some v=>result hp v | none=>none
def gh (rs:List RV) (q:Option (Ex×St)):Option AV:=
 match q with
 | some (.normal,s) | some (.ret,s)=>OS s.hp (iJ s rs)
 | _=>none
def aH {n:Nat} {F:aZ} (h:Has P L n F) (av:List AV):bO P L f n av=gh F.gk (f F.body ⟨eh 0 av,[],0,0⟩):=by
 simp only [bO,h.pure,h.code]
 cases hq:f F.body ⟨eh 0 av,[],0,0⟩ with
 | none=>rfl
 | some q=>
  obtain ⟨e,s⟩:=q
  cases e with
  | normal=>rfl
  | ret=>rfl
  | exit id=>rfl
def axn (rs:List RV) (s:St):gh rs (some (.normal,s))=OS s.hp (iJ s rs):=rfl
def axo (rs:List RV) (s:St):gh rs (some (.ret,s))=OS s.hp (iJ s rs):=rfl
def axp (v:AV):OS hp (some v)=result hp v:=rfl
def XU (r:RV) (s:St):iJ s [r]=results1 s r:=by
 simp only [iJ,lk];cases results1 s r<;>rfl
def akn (r:Option (List AV)):Option AV:=match r with | some vs=>some (.ae vs) | none=>none
def aA6 (r q:RV) (l:List RV) (s:St):iJ s (r::q::l)=akn (lk s (r::q::l)):=by
 simp only [iJ,lk];cases results1 s r<;>cases results1 s q<;>cases lk s l<;>rfl
def aiL (r:Option AV) (l:Option (List AV)):Option (List AV):=match r,l with | some v,some vs=>some (v::vs) | _,_=>none
def arN (s:St):lk s []=some []:=rfl
def apN (r:RV) (l:List RV) (s:St):lk s (r::l)=aiL (results1 s r) (lk s l):=rfl
def atQ (v:AV) (vs:List AV):aiL (some v) (some vs)=some (v::vs):=rfl
def axq (vs:List AV):akn (some vs)=some (.ae vs):=rfl
def SS (i:Nat) (s:St):results1 s (.t i)=some (ai s.tm i):=rfl
def azN (a:AV):eh 0 [a]=[(0,a)]:=rfl
def azO (a b:AV):eh 0 [a,b]=[(0,a),(1,b)]:=rfl
def azP (a b c:AV):eh 0 [a,b,c]=[(0,a),(1,b),(2,c)]:=rfl
def azQ (a b c d:AV):eh 0 [a,b,c,d]=[(0,a),(1,b),(2,c),(3,d)]:=rfl
def azR (a b c d e:AV):eh 0 [a,b,c,d,e]=[(0,a),(1,b),(2,c),(3,d),(4,e)]:=rfl
def aoB (k:y9) (n:Int):result hp (.int k n)=some (.int k n):=rfl
def an5 (b:Bool):result hp (.bool b)=some (.bool b):=rfl
def aoC (s:List Nat):result hp (.str s)=some (.str s):=rfl
def an6:result hp .aa=some .aa:=rfl
def aoD (e:Bool) (n:Nat) (cs:List AV):result hp (.aA e n cs)=some (.aA e n cs):=rfl
def shut_int (k:y9) (n:Int):shut (.int k n)= .int k n:=rfl
def shut_bool (b:Bool):shut (.bool b)= .bool b:=rfl
def arO (s:List Nat):shut (.str s)= .str s:=rfl
def apO:shut .aa= .aa:=rfl
def arP (e:Bool) (n:Nat) (cs:List AV):shut (.aA e n cs)= .aA e n cs:=rfl
def arQ (e:Bool) (sz n:Nat) (cs:List AV):shut (.bD e sz n cs)= .aA e n cs:=rfl
def b6 (cs:List AV):shut (.agg cs)= .agg cs:=rfl
def atS (g:Fr) (a b:List AV):shut (.fn g a b)= .fn g a b:=rfl
def oQ (vs:List AV):shut (.ae vs)= .ae (CP vs):=rfl
def oO:CP []=[]:=rfl
def oN (v:AV) (r:List AV):CP (v::r)=bH v::CP r:=rfl
def sR (k:y9) (n:Int):bH (.int k n)= .int k n:=rfl
def aoE (b:Bool):bH (.bool b)= .bool b:=rfl
def apP (s:List Nat):bH (.str s)= .str s:=rfl
def HG:bH .aa= .aa:=rfl
def apQ (e:Bool) (n:Nat) (cs:List AV):bH (.aA e n cs)= .aA e n cs:=rfl
def apR (e:Bool) (sz n:Nat) (cs:List AV):bH (.bD e sz n cs)= .aA e n cs:=rfl
def Cj (cs:List AV):bH (.agg cs)= .agg cs:=rfl
def XV (n:Nat) (r:List AV) (q:Option (AV×Hp)):Option (List AV×Hp):=match q with | some (v,hp)=>(match cI n hp r with | some (vs,jJ)=>some (v::vs,jJ) | none=>none) | none=>none
def ako (v:AV) (q:Option (List AV×Hp)):Option (List AV×Hp):=match q with | some (vs,hp)=>some (v::vs,hp) | none=>none
def arR (n:Nat):cI (n+1) hp []=some ([],hp):=rfl
def ab2 (n:Nat) (v:AV) (r:List AV):cI (n+1) hp (v::r)=XV n r (freeze n hp v):=by
 simp only [cI,XV];cases freeze n hp v<;>rfl
def ahW (n:Nat) (r:List AV) (v:AV):XV n r (some (v,hp))=ako v (cI n hp r):=by
 rfl
def ahX (v:AV) (vs:List AV):ako v (some (vs,hp))=some (v::vs,hp):=rfl
def atT (n:Nat) (k:y9) (a:Int):freeze (n+1) hp (.int k a)=some (.int k a,hp):=rfl
def arS (n:Nat) (b:Bool):freeze (n+1) hp (.bool b)=some (.bool b,hp):=rfl
def atU (n:Nat) (s:List Nat):freeze (n+1) hp (.str s)=some (.str s,hp):=rfl
def arT (n:Nat):freeze (n+1) hp .aa=some (.aa,hp):=rfl
def atV (n:Nat) (e:Bool) (k:Nat) (cs:List AV):freeze (n+1) hp (.aA e k cs)=some (.aA e k cs,hp):=rfl
def arU (n:Nat) (cs:List AV):freeze (n+1) hp (.b5 cs)=some (.b5 cs,hp):=rfl
end
end
section
variable {hp:Hp}
def axr (a b:AV):SN (.bool true) a b=some a:=rfl
def axs (a b:AV):SN (.bool false) a b=some b:=rfl
def azS (k:Nat->Option AV) (n:Nat):KS k (some n)=k n:=rfl
def Aw (k:y9) (n:Nat):dz (.int k (n:Int))=some n:=rfl
def ahY (k:y9):dz (.int k 0)=some 0:=rfl
def axt (k:y9):dz (.int k 1)=some 1:=rfl
def axu (k:y9):dz (.int k 2)=some 2:=rfl
def axv (k:y9):dz (.int k 3)=some 3:=rfl
def axw (k:y9):dz (.int k 4)=some 4:=rfl
def axx (k:y9):dz (.int k 5)=some 5:=rfl
def axy (k:y9):dz (.int k 6)=some 6:=rfl
def axz (k:y9):dz (.int k 7)=some 7:=rfl
def axA (k:y9):dz (.int k 8)=some 8:=rfl
def axB (k:y9):dz (.int k 9)=some 9:=rfl
def atW (cs:List AV):aiK (some cs)=some (.agg cs):=rfl
def agx (k:y9) (a b:Int):binOp .add (.int k a) (.int k b)=some (.int k (k.wrap (a+b))):=by simp [binOp,lG]
def MA (k:y9) (a b:Int):binOp .sub (.int k a) (.int k b)=some (.int k (k.wrap (a-b))):=by simp [binOp,lG]
def agy (k:y9) (a b:Int):binOp .mul (.int k a) (.int k b)=some (.int k (k.wrap (a*b))):=by simp [binOp,lG]
def fX (k:y9) (a b:Int) (h:b≠0):binOp .quo (.int k a) (.int k b)=some (.int k (k.wrap (a.tdiv b))):=by simp [binOp,lG,h]
def iK (k:y9) (a b:Int) (h:b≠0):binOp .rem (.int k a) (.int k b)=some (.int k (a.tmod b)):=by simp [binOp,lG,h]
def atX (k:y9) (a b:Int):binOp .eql (.int k a) (.int k b)=some (.bool (decide (a=b))):=by
 simp [binOp,lG,intCmp,BEq.beq]
def atY (k:y9) (a b:Int):binOp .neq (.int k a) (.int k b)=some (.bool (!decide (a=b))):=by
 simp [binOp,lG,intCmp,bne,BEq.beq]
def atZ (k:y9) (a b:Int):binOp .lss (.int k a) (.int k b)=some (.bool (decide (a<b))):=by simp [binOp,lG,intCmp]
def at0 (k:y9) (a b:Int):binOp .leq (.int k a) (.int k b)=some (.bool (decide (a<=b))):=by simp [binOp,lG,intCmp]
def at1 (k:y9) (a b:Int):binOp .gtr (.int k a) (.int k b)=some (.bool (decide (b<a))):=by simp [binOp,lG,intCmp]
def at2 (k:y9) (a b:Int):binOp .geq (.int k a) (.int k b)=some (.bool (decide (b<=a))):=by simp [binOp,lG,intCmp]
def axC (k:y9) (a:Int):unOp .neg (.int k a)=some (.int k (k.wrap (0-a))):=rfl
def axD (b:Bool):unOp .not (.bool b)=some (.bool !b):=rfl
def arV:fP hp 1 .aa=some (.int .i64 0):=rfl
def at3 (e:Bool) (n:Nat) (cs:List AV):fP hp 1 (.aA e n cs)=some (.int .i64 n):=rfl
def at4 (id o n:Nat):fP hp 1 (.aB id o n)=some (.int .i64 n):=rfl
def at5 (s:List Nat):fP hp 0 (.str s)=some (.int .i64 s.length):=rfl
def RS {sz i n:Nat} (e:Bool) (cs:List AV) (h:i<n):iN sz i (.aA e n cs)=some (.b5 (cs.drop (i*sz))):=by
 have hb:yR i n=true:=yo h;simp only [iN]
 grind
def cM {sz i n:Nat} (id o:Nat) (h:i<n):iN sz i (.aB id o n)=some (.ptr id (o+i*sz)):=by
 have hb:yR i n=true:=yo h;simp only [iN]
 grind
def arW (v:AV) (cs:List AV):iU hp 1 false (.b5 (v::cs))=some v:=rfl
def PM (sz:Nat) (ag:Bool) (o:Nat) (q:Option Obj):Option AV:=match q with | some (.cells _ _ _ _ cs)=>ib sz ag (cs.drop o) | _=>none
def axE (sz:Nat) (ag:Bool) (id o:Nat):iU hp sz ag (.ptr id o)=PM sz ag o (aq hp id):=by
 rfl
def azT (sz:Nat) (ag:Bool) (o:Nat) (rw pu ex:Bool) (z:Nat) (cs:List AV):PM sz ag o (some (.cells rw pu ex z cs))=ib sz ag (cs.drop o):=rfl
def EW (sz:Nat) (v:AV) (cs:List AV):ib sz false (v::cs)=some v:=rfl
def aA7 (a:AV) (l:List AV):JW 0 (.ae (a::l))=some a:=rfl
def ext1 (a b:AV) (l:List AV):JW 1 (.ae (a::b::l))=some b:=rfl
def aA8 (a b c:AV) (l:List AV):JW 2 (.ae (a::b::c::l))=some c:=rfl
def aA9 (a b c d:AV) (l:List AV):JW 3 (.ae (a::b::c::d::l))=some d:=rfl
end
def zx:Env->Bool
 | []=>true
 | (_,v)::r=>a6 v&&zx r
mutual
def au:∀{v:AV},a6 v=true->refs v=[]
 | .int _ _,_ | .bool _,_ | .bS _ _,_ | .str _,_ | .kN,_ | .b5 _,_ | .aa,_ | .aA _ _ _,_ | .iS,_ | .j0,_ | .jw _ _,_ | .undef,_=>rfl
 | .ptr _ _,h | .aB _ _ _,h | .map _,h | .it _,h | .bD _ _ _ _,h=>by simp [a6] at h
 | .fn (.y _) _ _,h=>by simp [a6] at h
 | .fn (.f _) first cap,h=>by
  simp only [a6,ye] at h;simp only [refs,HH h.1,HH h.2,wD]
 | .agg cs,h=>by simp only [a6] at h;simp only [refs,HH h]
 | .ae cs,h=>by simp only [a6] at h;simp only [refs,HH h]
def HH:∀{vs:List AV},aG vs=true->fZ vs=[]
 | [],_=>rfl
 | v::r,h=>by
  simp only [aG,ye] at h;simp only [fZ,au h.1,HH h.2,wD]
end
mutual
def ay (f:Nat->Option Nat):∀{v:AV},a6 v=true->cd f v=v
 | .int _ _,_ | .bool _,_ | .bS _ _,_ | .str _,_ | .kN,_ | .b5 _,_ | .aa,_ | .aA _ _ _,_ | .iS,_ | .j0,_ | .jw _ _,_ | .undef,_=>rfl
 | .ptr _ _,h | .aB _ _ _,h | .map _,h | .it _,h | .bD _ _ _ _,h=>by simp [a6] at h
 | .fn (.y _) _ _,h=>by simp [a6] at h
 | .fn (.f _) first cap,h=>by
  simp only [a6,ye] at h;simp only [cd,HO f h.1,HO f h.2]
 | .agg cs,h=>by simp only [a6] at h;simp only [cd,HO f h]
 | .ae cs,h=>by simp only [a6] at h;simp only [cd,HO f h]
def HO (f:Nat->Option Nat):∀{vs:List AV},aG vs=true->eK f vs=vs
 | [],_=>rfl
 | v::r,h=>by
  simp only [aG,ye] at h;simp only [eK,ay f h.1,HO f h.2]
end
def abc:∀{tm:Env},zx tm=true->gF tm=[]
 | [],_=>rfl
 | (i,v)::r,h=>by
  simp only [zx,ye] at h;simp only [gF,au h.1,abc h.2,wD]
def ab3 (f:Nat->Option Nat):∀{tm:Env},zx tm=true->iT f tm=tm
 | [],_=>rfl
 | (i,v)::r,h=>by
  simp only [zx,ye] at h;simp only [iT,ay f h.1,ab3 f h.2]
def anF {live:List Nat} {tm:Env} {ct:Nat} (h:zx (da tm live)=true):aS live ⟨tm,[],ct,0⟩=⟨da tm live,[],0,0⟩:=by
 simp only [aS,abc h,jq,wD];simp only [reach,gG,mv,ab3 _ h,yO,y8]
def an7 {tm:Env} {ct:Nat}:aS [] ⟨tm,[],ct,0⟩=⟨[],[],0,0⟩:=rfl
def acY {P:aI} {L:Lib} {live:List Nat} {a:VC} (I:Nat->St->Prop) (Q:Ex->St->Prop)
  (step:∀k s,I k s->(∃s' k',D P L a (aS live s)=some (.normal,s')/\k'<k/\I k' s')\/(∃ex s',D P L a (aS live s)=some (ex,s')/\ex≠.normal/\Q ex s')):
  ∀k s,I k s->∃ex s',D P L (.loop live a) s=some (ex,s')/\Q ex s':=by
 intro k
 induction k using vN with
 | _ k ih=>
  intro s hI;rw [MU];rcases step k s hI with ⟨s',k',h1,h2,h3⟩ | ⟨ex,s',h1,h2,h3⟩
  ·rw [h1,agv];exact ih k' h2 s' h3
  ·rw [h1]
   cases ex with
   | normal=>exact absurd rfl h2
   | ret=>exact ⟨.ret,s',rfl,h3⟩
   | exit id=>exact ⟨.exit id,s',rfl,h3⟩
def fM {P:aI} {L:Lib} {live:List Nat} {a:VC} (I:Nat->St->Prop) (Q:Ex->St->Prop)
  (step:∀k s,I k s->(∃s' k',D P L a s=some (.normal,s')/\k'<k/\I k' (aS live s'))\/(∃ex s',D P L a s=some (ex,s')/\ex≠.normal/\Q ex s')):
  ∀k s,I k (aS live s)->∃ex s',D P L (.loop live a) s=some (ex,s')/\Q ex s':=
 acY (fun k s=>I k (aS live s)) Q (fun k s h=>step k _ h)
def dI {P:aI} {L:Lib} {live:List Nat} {a:VC} {I:Nat->St->Prop} {Q:Ex->St->Prop}
  (step:∀k s,I k s->(∃s' k',D P L a s=some (.normal,s')/\k'<k/\I k' (aS live s'))\/(∃ex s',D P L a s=some (ex,s')/\ex≠.normal/\Q ex s')):
  ∀k s s0,aS live s=s0->I k s0->∃ex s',D P L (.loop live a) s=some (ex,s')/\Q ex s':=fun k s s0 h hi=>fM I Q step k s (h▸hi)
def bQ {P:aI} {L:Lib} {c:VC} {s:St} {q:Option (Ex×St)} {I:St->Prop} {Q:Ex->St->Prop} (hq:D P L c s=q) (key:∀s,I s->∃ex s',D P L c s=some (ex,s')/\Q ex s') (hI:I s):
  ∃ex s',q=some (ex,s')/\Q ex s':=by
 rw [<-hq];exact key s hI
def arX (tm:Env):da tm []=[]:=rfl
def apS (tm:Env) (i:Nat) (r:List Nat):da tm (i::r)=(i,ai tm i)::da tm r:=rfl
def apT:zx []=true:=rfl
def aoF (i:Nat) (v:AV) (r:Env):zx ((i,v)::r)=(a6 v&&zx r):=rfl
def ahZ (k:y9) (n:Int):a6 (.int k n)=true:=(rfl)
def at6 (b:Bool):a6 (.bool b)=true:=(rfl)
def ah0 (s:List Nat):a6 (.str s)=true:=(rfl)
def at7:a6 .aa=true:=(rfl)
def axF (e:Bool) (n:Nat) (cs:List AV):a6 (.aA e n cs)=true:=(rfl)
def aua (cs:List AV):a6 (.b5 cs)=true:=(rfl)
def arY:a6 .undef=true:=(rfl)
attribute [go_sem] deep an7 arX apS apT aoF ahZ at6 ah0 at7 axF aua arY vt xQ
attribute [go_sem] awY awZ azD akm aA2 azE jY aw0 azF fm atv atw agv atx aty atz atA agw atB aw1 aw2 atD atE
 atF arC apK atG azG azH arD arE arF arG atH aw3 aw4 apL aoA arH apM jn fL acW ab0 arI acX ab1
 aA3 aA4 aw5 atI arJ azI atJ aw6 azJ azK azL aw7 aw8 aw9 axa axb axc axd axe axf axg axh atK axi axj axk azM axl arK arL arM
 atL atM atN atO atP axm axn axo axp XU aA6 arN apN atQ axq SS azN azO azP azQ azR
 aoB an5 aoC an6 aoD shut_int shut_bool arO apO arP arQ b6 atS oQ oO oN sR aoE apP HG apQ apR Cj
 arR ab2 ahW ahX atT arS atU arT atV arU
 axr axs azS Aw ahY axt axu axv axw axx axy axz axA axB atW agx MA agy atX atY atZ at0 at1 at2 axC axD arV at3 at4 at5 arW axE azT EW aA7 ext1 aA8 aA9
 xG wD xm yq yy Bool.not_true Bool.not_false ne_eq not_false_eq_true
end
section
open Go (IntKind)
abbrev ab (n:Int):AV:= .int .i64 n
def cR (v:AV) (cs:List AV):Prop:=(v= .aa/\cs=[])\/∃e,v= .aA e cs.length cs
section
variable {v:AV} {cs:List AV} {hp:Hp}
def cR.len (h:cR v cs) {hp:Hp}:fP hp 1 v=some (.int .i64 (cs.length:Nat)):=by
 rcases h with ⟨rfl,rfl⟩ | ⟨e,rfl⟩<;>rfl
def cR.pu (h:cR v cs):a6 v=true:=by
 rcases h with ⟨rfl,rfl⟩ | ⟨e,rfl⟩<;>rfl
def cR.ak (h:cR v cs) (n:Nat) {hp:Hp}:freeze (n+1) hp v=some (v,hp):=by
 rcases h with ⟨rfl,rfl⟩ | ⟨e,rfl⟩<;>rfl
def cR.shut (h:cR v cs):shut v=v:=by
 rcases h with ⟨rfl,rfl⟩ | ⟨e,rfl⟩<;>rfl
def cR.bH (h:cR v cs):bH v=v:=by
 rcases h with ⟨rfl,rfl⟩ | ⟨e,rfl⟩<;>rfl
def cR.gk (h:cR v cs) {hp:Hp}:result hp v=some v:=by
 rcases h with ⟨rfl,rfl⟩ | ⟨e,rfl⟩<;>rfl
def cR.aQ (h:cR v cs) {i:Nat} (hi:i<cs.length):iN 1 i v=some (.b5 (cs[i]::cs.drop (i+1))):=by
 rcases h with ⟨rfl,rfl⟩ | ⟨e,rfl⟩
 ·grind
 ·rw [RS e _ hi,Nat.mul_one,yU hi]
def cR.one (h:cR v cs):dh v=true:=by
 rcases h with ⟨rfl,rfl⟩ | ⟨e,rfl⟩<;>rfl
def cR.cells (h:cR v cs):cellsOf v=[v]:=by
 rcases h with ⟨rfl,rfl⟩ | ⟨e,rfl⟩<;>rfl
def Ih (e:Bool) (cs:List AV):cR (.aA e cs.length cs) cs:= .inr ⟨e,rfl⟩
def rq:cR .aa []:= .inl ⟨rfl,rfl⟩
end
def bE (v:AV) (l:List Int):Prop:=cR v (l.map ab)
section
variable {v:AV} {l:List Int}
def bE.len (h:bE v l) {hp:Hp}:fP hp 1 v=some (.int .i64 (l.length:Nat)):=by
 have:=cR.len (hp:=hp) h
 grind
def bE.pu (h:bE v l):a6 v=true:=cR.pu h
def bE.ak (h:bE v l) (n:Nat) {hp:Hp}:freeze (n+1) hp v=some (v,hp):=cR.ak h n
def bE.shut (h:bE v l):VE.shut v=v:=cR.shut h
def bE.bH (h:bE v l):VE.bH v=v:=cR.bH h
def bE.gk (h:bE v l) {hp:Hp}:result hp v=some v:=cR.gk h
def bE.one (h:bE v l):dh v=true:=cR.one h
def bE.cells (h:bE v l):cellsOf v=[v]:=cR.cells h
def bE.aQ (h:bE v l) {i:Nat} (hi:i<l.length):iN 1 i v=some (.b5 (.int .i64 l[i]::(l.map ab).drop (i+1))):=by
 have:=cR.aQ h (i:=i) (by simpa using hi)
 grind
def lE (e:Bool) (l:List Int):bE (.aA e l.length (l.map ab)) l:=by
 have:=Ih e (l.map ab)
 rwa [yt] at this
end
def cf {α β:Type} (p:α->β->Prop):List α->List β->Prop
 | [],[]=>True
 | a::r,b::s=>p a b/\cf p r s
 | _,_=>False
section
variable {α β:Type} {p:α->β->Prop}
def cf.len:∀{l:List α} {m:List β},cf p l m->l.length=m.length
 | [],[],_=>rfl
 | _::_,_::_,h=>by rw [yz,yz,h.2.len]
def cf.get:∀{l:List α} {m:List β} (_:cf p l m) {i:Nat} (h1:i<l.length) (h2:i<m.length),p l[i] m[i]
 | a::r,b::s,h,0,_,_=>h.1
 | a::r,b::s,h,i+1,h1,h2=>by
  exact h.2.get (by simpa using h1) (by simpa using h2)
end
def IsS (v:AV) (s:List (List Int)):Prop:=∃rows,cR v rows/\cf bE rows s
def wrap64 {n:Int} (h1: -9223372036854775808<=n) (h2:n<9223372036854775808):IntKind.wrap .i64 n=n:=by
 simp only [IntKind.wrap,IntKind.bits,IntKind.signed,xQ]
 grind
def wrapN {n:Nat} (h:n<9223372036854775808):IntKind.wrap .i64 (n:Int)=n:=wrap64 (by omega) (by omega)
end
section
open Go (IntKind)
section
variable {P:aI} {L:Lib}
abbrev aj (P:aI) (L:Lib) (f:Nat) (av:List AV) (r:AV):Prop:=bO P L (D P L) f av=some r
end
end
section
open Go (IntKind)
section
variable {P:aI} {L:Lib} {f:cA} {tm:Env} {hp:Hp} {ct:Nat}
def apU (k:y9) (n:Int):cellsOf (.int k n)=[.int k n]:=(rfl)
def aoG (b:Bool):cellsOf (.bool b)=[.bool b]:=(rfl)
def apV (s:List Nat):cellsOf (.str s)=[.str s]:=(rfl)
def aoH:cellsOf .aa=[.aa]:=(rfl)
def apW (e:Bool) (n:Nat) (cs:List AV):cellsOf (.aA e n cs)=[.aA e n cs]:=(rfl)
def apX (id o n:Nat):cellsOf (.aB id o n)=[.aB id o n]:=(rfl)
def apY (id o:Nat):cellsOf (.ptr id o)=[.ptr id o]:=(rfl)
def arZ (g:Fr) (a b:List AV):cellsOf (.fn g a b)=[.fn g a b]:=(rfl)
def apZ (cs:List AV):cellsOf (.agg cs)=cs:=(rfl)
def agz (k:y9) (n:Int):dh (.int k n)=true:=(rfl)
def ar0 (b:Bool):dh (.bool b)=true:=(rfl)
def agA (s:List Nat):dh (.str s)=true:=(rfl)
def ar1:dh .aa=true:=(rfl)
def aub (e:Bool) (n:Nat) (cs:List AV):dh (.aA e n cs)=true:=(rfl)
def auc (id o n:Nat):dh (.aB id o n)=true:=(rfl)
def aud (id o:Nat):dh (.ptr id o)=true:=(rfl)
def axG (g:Fr) (a b:List AV):dh (.fn g a b)=true:=(rfl)
def ar2:cy []=true:=(rfl)
def ab4 (v:AV) (r:List AV):cy (v::r)=(dh v&&cy r):=(rfl)
def ap0:aG []=true:=(rfl)
def aoI (v:AV) (r:List AV):aG (v::r)=(a6 v&&aG r):=(rfl)
def axH (id o:Nat):a6 (.ptr id o)=false:=(rfl)
def axI (id o n:Nat):a6 (.aB id o n)=false:=(rfl)
def azU (g:Nat) (a b:List AV):a6 (.fn (.f g) a b)=(aG a&&aG b):=(rfl)
def aBa (l:Nat) (a b:List AV):a6 (.fn (.y l) a b)=false:=(rfl)
def axJ (cs:List AV):a6 (.agg cs)=aG cs:=(rfl)
def axK (cs:List AV):a6 (.ae cs)=aG cs:=(rfl)
def FD (ct sz:Nat) (cs:List AV):Option (AV×Obj):=bif yu cs.length sz&&cy cs then some (.ptr ct 0,.cells true (aG cs) true sz cs) else none
def axL (sz:Nat) (x:X):cP tm hp ct (.box sz x)=FD ct sz (cellsOf (aD tm x)):=rfl
def Nf {v:AV} (h:dh v=true):FD ct 1 [v]=some (.ptr ct 0,.cells true (a6 v&&true) true 1 [v]):=by
 simp [FD,cy,aG,h]
def bh {cs:List AV} {n:Nat} (hn:cs.length=n) (h:cy cs=true):FD ct n cs=some (.ptr ct 0,.cells true (aG cs) true n cs):=by
 subst hn;simp [FD,h]
def ji (hp:Hp) (ct id o sz:Nat) (new:List AV) (q:Option Obj):fS:=
 match q with
 | some (.cells true pu ex z cs)=>bif yu new.length sz&&yE (o+sz) cs.length&&cy new then some (.ae [],bc hp id (.cells true (pu&&aG new) ex z (over o new cs)),ct) else none
 | _=>none
def stV (hp:Hp) (ct sz:Nat) (p:AV) (new:List AV):fS:=match p with | .ptr id o=>ji hp ct id o sz new (aq hp id) | _=>none
def acZ (sz:Nat) (x v:X):cJ tm hp ct (.st sz x v)=stV hp ct sz (aD tm x) (cellsOf (aD tm v)):=rfl
def aiM (sz id o:Nat) (new:List AV):stV hp ct sz (.ptr id o) new=ji hp ct id o sz new (aq hp id):=rfl
def aBb {v u:AV} {id z:Nat} {pu ex:Bool} (h:dh v=true):ji hp ct id 0 1 [v] (some (.cells true pu ex z [u]))=some (.ae [],bc hp id (.cells true (pu&&(a6 v&&true)) ex z [v]),ct):=by
 simp [ji,cy,aG,h,over];rfl
def A8 {new cs:List AV} {id o sz z:Nat} {pu ex:Bool} (h1:new.length=sz) (h2:o+sz<=cs.length) (h:cy new=true):
  ji hp ct id o sz new (some (.cells true pu ex z cs))=some (.ae [],bc hp id (.cells true (pu&&aG new) ex z (over o new cs)),ct):=by
 subst h1;simp [ji,h,yo h2]
def Ng (ct n sz:Nat) (q:Option (List AV)):Option (AV×Obj):=match q with | some cs=>bif yu cs.length (n*sz) then some (.aB ct 0 n,.cells true (aG cs) true sz cs) else none | none=>none
def aue (n sz:Nat) (z:List AV) (ps:List (Nat×Nat×X)):cP tm hp ct (.cZ n sz z ps)=Ng ct n sz (fill tm z ps):=by
 simp only [cP,Ng];cases fill tm z ps<;>rfl
def auf {n sz:Nat} {cs:List AV} (h:cs.length=n*sz):Ng ct n sz (some cs)=some (.aB ct 0 n,.cells true (aG cs) true sz cs):=by
 simp [Ng,h]
def nT (tm:Env) (cs:List AV) (o sz:Nat) (new:List AV) (r:List (Nat×Nat×X)):Option (List AV):=
 bif yu new.length sz&&yE (o+sz) cs.length&&cy new then fill tm (over o new cs) r else none
def ar3 (cs:List AV):fill tm cs []=some cs:=rfl
def ap1 (cs:List AV) (o sz:Nat) (x:X) (r:List (Nat×Nat×X)):fill tm cs ((o,sz,x)::r)=nT tm cs o sz (cellsOf (aD tm x)) r:=rfl
def agB {cs:List AV} {o:Nat} {v:AV} {r:List (Nat×Nat×X)} (h1:o+1<=cs.length) (h2:dh v=true):nT tm cs o 1 [v] r=fill tm (over o [v] cs) r:=by
 simp [nT,cy,h2,yo h1]
def RU {cs new:List AV} {o sz:Nat} {r:List (Nat×Nat×X)} (h0:new.length=sz) (h1:o+sz<=cs.length) (h2:cy new=true):nT tm cs o sz new r=fill tm (over o new cs) r:=by
 subst h0;simp [nT,h2,yo h1]
def azV (v u:AV) (r:List AV):over 0 [v] (u::r)=v::r:=rfl
def azW (v a u:AV) (r:List AV):over 1 [v] (a::u::r)=a::v::r:=rfl
def azX (v a b u:AV) (r:List AV):over 2 [v] (a::b::u::r)=a::b::v::r:=rfl
def azY (v a b c u:AV) (r:List AV):over 3 [v] (a::b::c::u::r)=a::b::c::v::r:=rfl
def azZ (v a b c d u:AV) (r:List AV):over 4 [v] (a::b::c::d::u::r)=a::b::c::d::v::r:=rfl
def az0 (v a b c d e u:AV) (r:List AV):over 5 [v] (a::b::c::d::e::u::r)=a::b::c::d::e::v::r:=rfl
def qH (ct sz by':Nat) (zero:List AV) (l c:Option Nat):Option (AV×Obj):=
 match l,c with
 | some l,some c=>bif yE l c&&(yE c room&&(yE (c*by') room&&(yu zero.length sz&&cy zero))) then some (.aB ct 0 l,.cells true (aG zero) (yu l c) sz (ym l zero).flatten) else none
 | _,_=>none
def axM (sz by':Nat) (z:List AV) (l c:X):cP tm hp ct (.gj sz by' z l c)=qH ct sz by' z (dz (aD tm l)) (dz (aD tm c)):=by
 simp only [cP,qH]
 grind
def CL {sz by' l:Nat} {z:List AV} (h1:l<=1099511627776) (h2:l*by'<=1099511627776) (h3:z.length=sz) (h4:cy z=true):
  qH ct sz by' z (some l) (some l)=some (.aB ct 0 l,.cells true (aG z) true sz (ym l z).flatten):=by
 subst h3;simp [qH,h4,yo (show l<=room from h1),yo (show l*by'<=room from h2),yo (yr l)]
def rY (hp:Hp) (ct sz by':Nat) (s:AV) (src:Option (Nat×List AV)):fS:=
 match src with
 | none=>none
 | some (m,new)=>
  match s with
  | .aa=>
   bif yu m 0 then some (.aa,hp,ct)
   else bif yE m room&&(yE (m*by') room&&yR 0 sz) then some (.aB ct 0 m,(ct,.cells true (aG new) false sz new)::hp,ct+1) else none
  | .aA true n cs=>
   bif yu m 0 then some (.aA true n cs,hp,ct)
   else bif yE (n+m) room&&(yE ((n+m)*by') room&&(yu cs.length (n*sz)&&yR 0 sz)) then some (.aB ct 0 (n+m),(ct,.cells true (aG cs&&aG new) false sz (cs++new))::hp,ct+1) else none
  | .aB id o n=>
   match aq hp id with
   | some (.cells true pu _ z cs)=>
    bif yu z sz&&(yE (n+m) room&&(yE ((n+m)*by') room&&(yE (o+n*sz) cs.length&&(yR 0 sz&&cy new)))) then
     some (.aB ct 0 (n+m),(ct,.cells true (pu&&aG new) false sz (slice o (n*sz) cs++new))::dP hp id,ct+1)
    else none
   | _=>none
  | _=>none
def ap2 (sz by':Nat) (s x:X):cJ tm hp ct (.aO sz by' s x)=rY hp ct sz by' (aD tm s) (jt hp sz (aD tm x)):=by
 simp only [cJ,rY]
 cases jt hp sz (aD tm x) with
 | none=>rfl
 | some q=>obtain ⟨m,new⟩:=q;cases aD tm s<;>rfl
def aoJ (sz id o n:Nat):jt hp sz (.aB id o n)=jD hp sz (.aB id o n):=rfl
def aoK (sz:Nat) (e:Bool) (n:Nat) (cs:List AV):jt hp sz (.aA e n cs)=jD hp sz (.aA e n cs):=rfl
def an8 (sz:Nat):jt hp sz .aa=some (0,[]):=rfl
def Ge (o n sz:Nat) (q:Option Obj):Option (Nat×List AV):=match q with | some (.cells _ _ _ _ cs)=>bif yE (o+n*sz) cs.length then some (n,slice o (n*sz) cs) else none | _=>none
def an9 (sz id o n:Nat):jD hp sz (.aB id o n)=Ge o n sz (aq hp id):=rfl
def az1 (rw pu ex:Bool) (z:Nat) (v:AV):Ge 0 1 1 (some (.cells rw pu ex z [v]))=some (1,[v]):=rfl
def aug {rw pu ex:Bool} {z n sz:Nat} {cs:List AV} (h:cs.length=n*sz):Ge 0 n sz (some (.cells rw pu ex z cs))=some (n,cs):=by
 simp only [Ge,yf,<-h,yo (yr cs.length),yA,slice,yK,xx]
def gX {sz by':Nat} {new:List AV} {m:Nat} (hm:0<m) (h1:m<=1099511627776) (h2:m*by'<=1099511627776) (hs:0<sz):
  rY hp ct sz by' .aa (some (m,new))=some (.aB ct 0 m,(ct,.cells true (aG new) false sz new)::hp,ct+1):=by
 have e1:yu m 0=false:=fW (by omega);have e2:yR 0 sz=true:=yo hs;simp [rY,e1,e2,yo (show m<=room from h1),yo (show m*by'<=room from h2)]
def fY {sz by' id n m:Nat} {pu ex:Bool} {cs new:List AV} (hg:aq hp id=some (.cells true pu ex sz cs)) (hl:cs.length=n*sz) (h1:n+m<=1099511627776) (h2:(n+m)*by'<=1099511627776) (hs:0<sz) (ho:cy new=true):
  rY hp ct sz by' (.aB id 0 n) (some (m,new))=some (.aB ct 0 (n+m),(ct,.cells true (pu&&aG new) false sz (cs++new))::dP hp id,ct+1):=by
 have e2:yR 0 sz=true:=yo hs;simp only [rY,hg];simp [e2,ho,yo (show n+m<=room from h1),yo (show (n+m)*by'<=room from h2),<-hl,slice,yo (yr cs.length)]
def akp (n:Nat) (g:Nat) (cap:List AV) (q:Option (List AV×Hp)):Option (AV×Hp):=match q with | some (first,hp)=>(match cI n hp cap with | some (Nt,jJ)=>some (.fn (.f g) first Nt,jJ) | none=>none) | none=>none
def akq (g:Nat) (first:List AV) (q:Option (List AV×Hp)):Option (AV×Hp):=match q with | some (cap,hp)=>some (.fn (.f g) first cap,hp) | none=>none
def axN (n g:Nat) (first cap:List AV):freeze (n+1) hp (.fn (.f g) first cap)=akp n g cap (cI n hp first):=rfl
def axO (n g:Nat) (first cap:List AV):akp n g cap (some (first,hp))=akq g first (cI n hp cap):=rfl
def axP (g:Nat) (first cap:List AV):akq g first (some (cap,hp))=some (.fn (.f g) first cap,hp):=rfl
def akr (o:Nat) (q:Option (Bool×Nat×List AV×Hp)):Option (AV×Hp):=match q with | some (_,_,cs,hp)=>some (.b5 (cs.drop o),hp) | none=>none
def auh (n id o:Nat):freeze (n+1) hp (.ptr id o)=akr o (qc n hp id):=rfl
def axQ (o:Nat) (ex:Bool) (sz:Nat) (cs:List AV):akr o (some (ex,sz,cs,hp))=some (.b5 (cs.drop o),hp):=rfl
def iX (o k:Nat) (q:Option (Bool×Nat×List AV×Hp)):Option (AV×Hp):=
 match q with
 | some (ex,sz,cs,hp)=>bif yE (o+k*sz) cs.length then some (.aA (ex&&yR 0 sz&&yu (o+k*sz) cs.length) k (slice o (k*sz) cs),hp) else none
 | none=>none
def agC (n id o k:Nat):freeze (n+1) hp (.aB id o k)=iX o k (qc n hp id):=rfl
def lC {sz k:Nat} {cs:List AV} (ex:Bool) (hl:cs.length=k*sz) (hs:0<sz):iX 0 k (some (ex,sz,cs,hp))=some (.aA ex k cs,hp):=by
 have e2:yR 0 sz=true:=yo hs;simp [iX,<-hl,e2,slice,yo (yr cs.length)]
def zP (n id:Nat) (hp:Hp) (q:Option Obj):Option (Bool×Nat×List AV×Hp):=
 match q with
 | some (.cells rw pu ex sz cs)=>
  bif pu then some (ex,sz,cs,bif rw then bc hp id (.cells false true ex sz cs) else hp)
  else match cI n hp cs with
   | some (dF,ap)=>some (ex,sz,dF,bc ap id (.cells false false ex sz cs))
   | none=>none
 | _=>none
def agD (n id:Nat):qc (n+1) hp id=zP n id hp (aq hp id):=rfl
def axR (n id:Nat) (ex:Bool) (sz:Nat) (cs:List AV):zP n id hp (some (.cells true true ex sz cs))=some (ex,sz,cs,bc hp id (.cells false true ex sz cs)):=rfl
def axS (n id:Nat) (ex:Bool) (sz:Nat) (cs:List AV):zP n id hp (some (.cells false true ex sz cs))=some (ex,sz,cs,hp):=rfl
def cG (n:Nat) (cs:List AV) (h:cI n hp cs=some (cs,hp)):freeze (n+1) hp (.agg cs)=some (.agg cs,hp):=by
 simp only [freeze,h]
def D3 {id n sz:Nat} {ex:Bool} {cs:List AV} (hg:aq hp id=some (.cells true true ex sz cs)) (hl:cs.length=n*sz) (hs:0<sz):result hp (.aB id 0 n)=some (.bD ex sz n cs):=by
 have e2:yR 0 sz=true:=yo hs;simp only [result,pc,hg,yf,<-hl,yo (yr cs.length),yA,e2,vt,slice,yK,xx]
 simp
def ap3 {k id n sz:Nat} {ex:Bool} {cs:List AV} (hg:aq hp id=some (.cells true true ex sz cs)) (hl:cs.length=n*sz) (hs:0<sz):pc k hp (.aB id 0 n)=some (.bD ex sz n cs,dP hp id):=by
 have e2:yR 0 sz=true:=yo hs;simp only [pc,hg,yf,<-hl,yo (yr cs.length),yA,e2,vt,slice,yK,xx]
 simp
def anG {id n sz:Nat} {ex:Bool} {cs:List AV} {k:y9} {b:Int} (hg:aq hp id=some (.cells true true ex sz cs)) (hl:cs.length=n*sz) (hs:0<sz):result hp (.ae [.aB id 0 n,.int k b])=some (.ae [.bD ex sz n cs,.int k b]):=by
 have h1:Em [.aB id 0 n,.int k b]=some [id]:=rfl;simp only [result,h1,sY,ap3 hg hl hs];rfl
def anr (b:Bool):result hp (.ae [.aa,.bool b])=some (.ae [.aa,.bool b]):=rfl
def ans (k:y9) (b:Int):result hp (.ae [.aa,.int k b])=some (.ae [.aa,.int k b]):=rfl
def ant (e:Bool) (n:Nat) (cs:List AV) (k:y9) (b:Int):result hp (.ae [.aA e n cs,.int k b])=some (.ae [.aA e n cs,.int k b]):=rfl
def ap4 (s:St):pk [] s=some s:=rfl
def Zp (t:Nat) (r:List Nat) (tm:Env) (ct base:Nat) (q:Option (AV×Hp)):Option St:=match q with | some (v,hp)=>pk r ⟨(t,v)::tm,hp,ct,base⟩ | none=>none
def aoL (t:Nat) (r:List Nat) (tm:Env) (hp:Hp) (ct base:Nat):pk (t::r) ⟨tm,hp,ct,base⟩=Zp t r tm ct base (freeze deep hp (ai tm t)):=by
 simp only [pk,Zp];cases freeze deep hp (ai tm t)<;>rfl
def az2 (t:Nat) (r:List Nat) (tm:Env) (ct base:Nat) (v:AV) (hp:Hp):Zp t r tm ct base (some (v,hp))=pk r ⟨(t,v)::tm,hp,ct,base⟩:=rfl
end
attribute [go_sem] anr ans ant apU aoG apV aoH apW apX apY arZ apZ agz ar0 agA ar1 aub auc aud axG ar2 ab4
 ap0 aoI axH axI azU aBa axJ axK axL Nf acZ aiM aBb aue ar3 ap1 azV azW azX azY azZ az0 axM
 ap2 aoJ aoK an8 an9 az1 axN axO axP auh axQ agC lC auf agB agD axR axS ap4 aoL az2
 Bool.and_false Bool.false_and yK eq_self
end
section
open Go (IntKind)
def ac0:∀hp:Hp,jq 0 hp=[]
 | []=>rfl
 | (id,o)::r=>by
  have:yR id 0=false:=rfl
  simp only [jq,this,yS,ac0 r]
def ah1 (f:Nat->Option Nat):∀hp:Hp,mv 0 f hp=[]
 | []=>rfl
 | (id,o)::r=>by
  have:yR id 0=false:=rfl
  simp only [mv,this,yS,ah1 f r]
def pos (seen:List Nat):Nat->Option Nat:=fun id=>hX id seen 0
def XW (tm:Env) (hp:Hp) (seen:List Nat):St:=⟨iT (pos seen) tm,gG hp (pos seen) seen 0 [],seen.length,0⟩
def mQ (hp:Hp):Nat->List Nat->List Nat->List Nat:=reach hp 0
def ax (live:List Nat) (tm:Env) (hp:Hp) (ct:Nat):aS live ⟨tm,hp,ct,0⟩=XW (da tm live) hp (mQ hp 100000 (gF (da tm live)) []):=by
 have e:∀seen,kG 0 seen=pos seen:=fun seen=>by
  funext id
  have:yR id 0=false:=rfl
  simp only [kG,this,yS,pos]
 simp only [aS,ac0,wD,e,ah1,XW,mQ,yf]
def ap5:gF []=[]:=rfl
def aoM (i:Nat) (v:AV) (r:Env):gF ((i,v)::r)=refs v++gF r:=rfl
def ar4 (k:y9) (n:Int):refs (.int k n)=[]:=rfl
def ap6 (b:Bool):refs (.bool b)=[]:=rfl
def ar5 (s:List Nat):refs (.str s)=[]:=rfl
def ap7:refs .aa=[]:=rfl
def ar6 (e:Bool) (n:Nat) (cs:List AV):refs (.aA e n cs)=[]:=rfl
def ap8 (cs:List AV):refs (.b5 cs)=[]:=rfl
def aoN:refs .undef=[]:=rfl
def ar7 (id o:Nat):refs (.ptr id o)=[id]:=rfl
def ar8 (id o n:Nat):refs (.aB id o n)=[id]:=rfl
def aui (g:Nat) (a b:List AV):refs (.fn (.f g) a b)=fZ a++fZ b:=rfl
def axT (l:Nat) (a b:List AV):refs (.fn (.y l) a b)=[l]:=rfl
def ar9 (cs:List AV):refs (.agg cs)=fZ cs:=rfl
def ap9:fZ []=[]:=rfl
def aoO (v:AV) (r:List AV):fZ (v::r)=refs v++fZ r:=rfl
def OT (hp:Hp) (n id:Nat) (fB seen:List Nat) (q:Option Obj):List Nat:=match q with | some o=>mQ hp n (kF o++fB) (seen++[id]) | none=>mQ hp n fB seen
def OU (hp:Hp) (n id:Nat) (fB seen:List Nat) (b:Bool):List Nat:=bif b then mQ hp n fB seen else OT hp n id fB seen (aq hp id)
def agE (hp:Hp) (n:Nat) (seen:List Nat):mQ hp (n+1) [] seen=seen:=rfl
def Rv (hp:Hp) (n id:Nat) (fB seen:List Nat):mQ hp (n+1) (id::fB) seen=OU hp n id fB seen (jy id seen):=by
 have:yR id 0=false:=rfl
 simp only [mQ,reach,this,Bool.false_or,OU,OT]
 cases jy id seen with
 | true=>rfl
 | false=>simp only [yS];cases aq hp id<;>rfl
def axU (hp:Hp) (n id:Nat) (fB seen:List Nat):OU hp n id fB seen true=mQ hp n fB seen:=rfl
def So (hp:Hp) (n id:Nat) (fB seen:List Nat):OU hp n id fB seen false=OT hp n id fB seen (aq hp id):=rfl
def Sp (hp:Hp) (n id:Nat) (fB seen:List Nat) (o:Obj):OT hp n id fB seen (some o)=mQ hp n (kF o++fB) (seen++[id]):=rfl
def ac1 (i:Nat):jy i []=false:=rfl
def ac2 (i:Nat) (r:List Nat):jy i (i::r)=true:=by simp only [jy,wV,yA]
def ab5 {i j:Nat} (r:List Nat) (h:j≠i):jy i (j::r)=jy i r:=by simp only [jy,fW h,yS]
def auj (rw ex:Bool) (sz:Nat) (cs:List AV):kF (.cells rw true ex sz cs)=[]:=rfl
def agF (rw ex:Bool) (sz:Nat) (cs:List AV):kF (.cells rw false ex sz cs)=fZ cs:=rfl
def asa (tm:Env) (ps:List Nat) (a b:VC) (st:Nat) (pe:zE):kF (.lp tm ps a b st pe)=gF tm:=rfl
def agG (i:Nat) (r:List Nat) (k:Nat):hX i (i::r) k=some k:=by simp only [hX,wV,yA]
def ac3 {i j:Nat} (r:List Nat) (k:Nat) (h:j≠i):hX i (j::r) k=hX i r (k+1):=by simp only [hX,fW h,yS]
def pos_eq (seen:List Nat) (i:Nat):pos seen i=hX i seen 0:=rfl
def aiN (o:Nat) (q:Option Nat):AV:=match q with | some j=> .ptr j o | none=> .undef
def aiO (o n:Nat) (q:Option Nat):AV:=match q with | some j=> .aB j o n | none=> .undef
def asb (s:List Nat):iT (pos s) []=[]:=rfl
def aqa (s:List Nat) (i:Nat) (v:AV) (r:Env):iT (pos s) ((i,v)::r)=(i,cd (pos s) v)::iT (pos s) r:=rfl
def auk (s:List Nat) (k:y9) (n:Int):cd (pos s) (.int k n)= .int k n:=rfl
def asc (s:List Nat) (b:Bool):cd (pos s) (.bool b)= .bool b:=rfl
def aul (s:List Nat) (t:List Nat):cd (pos s) (.str t)= .str t:=rfl
def asd (s:List Nat):cd (pos s) .aa= .aa:=rfl
def aum (s:List Nat) (e:Bool) (n:Nat) (cs:List AV):cd (pos s) (.aA e n cs)= .aA e n cs:=rfl
def ase (s:List Nat) (cs:List AV):cd (pos s) (.b5 cs)= .b5 cs:=rfl
def aqb (s:List Nat):cd (pos s) .undef= .undef:=rfl
def aun (s:List Nat) (id o:Nat):cd (pos s) (.ptr id o)=aiN o (hX id s 0):=rfl
def auo (s:List Nat) (id o n:Nat):cd (pos s) (.aB id o n)=aiO o n (hX id s 0):=rfl
def axV (s:List Nat) (g:Nat) (a b:List AV):cd (pos s) (.fn (.f g) a b)= .fn (.f g) (eK (pos s) a) (eK (pos s) b):=rfl
def aup (s:List Nat) (cs:List AV):cd (pos s) (.agg cs)= .agg (eK (pos s) cs):=rfl
def asf (s:List Nat):eK (pos s) []=[]:=rfl
def aqc (s:List Nat) (v:AV) (r:List AV):eK (pos s) (v::r)=cd (pos s) v::eK (pos s) r:=rfl
def auq (o j:Nat):aiN o (some j)= .ptr j o:=rfl
def aur (o n j:Nat):aiO o n (some j)= .aB j o n:=rfl
def XX (hp:Hp) (f:Nat->Option Nat) (r:List Nat) (k:Nat) (acc:Hp) (q:Option Obj):Hp:=match q with | some o=>gG hp f r (k+1) ((k,jx f o)::acc) | none=>gG hp f r (k+1) acc
def aqd (hp:Hp) (s:List Nat) (k:Nat) (acc:Hp):gG hp (pos s) [] k acc=acc:=rfl
def aoP (hp:Hp) (s:List Nat) (id:Nat) (r:List Nat) (k:Nat) (acc:Hp):gG hp (pos s) (id::r) k acc=XX hp (pos s) r k acc (aq hp id):=by
 simp only [gG,XX];cases aq hp id<;>rfl
def axW (hp:Hp) (s r:List Nat) (k:Nat) (acc:Hp) (o:Obj):XX hp (pos s) r k acc (some o)=gG hp (pos s) r (k+1) ((k,jx (pos s) o)::acc):=rfl
def axX (f:Nat->Option Nat) (rw ex:Bool) (sz:Nat) (cs:List AV):jx f (.cells rw true ex sz cs)= .cells rw true ex sz cs:=rfl
def axY (f:Nat->Option Nat) (rw ex:Bool) (sz:Nat) (cs:List AV):jx f (.cells rw false ex sz cs)= .cells rw false ex sz (eK f cs):=rfl
def aus (f:Nat->Option Nat) (tm:Env) (ps:List Nat) (a b:VC) (st:Nat) (pe:zE):jx f (.lp tm ps a b st pe)= .lp (iT f tm) ps a b st pe:=rfl
def agH (tm:Env) (hp:Hp) (seen:List Nat):XW tm hp seen=⟨iT (pos seen) tm,gG hp (pos seen) seen 0 [],seen.length,0⟩:=rfl
attribute [go_sem] ap5 aoM ar4 ap6 ar5 ap7 ar6 ap8 aoN ar7 ar8 aui axT ar9 ap9 aoO agE Rv axU So Sp
 ac1 ac2 ab5 auj agF asa agG ac3 asb aqa auk asc aul asd aum ase aqb aun auo axV aup asf aqc auq aur
 aqd aoP axW axX axY aus agH yz yO
end
section
open Go (IntKind)
section
variable {P:aI} {L:Lib}
def LY {k:y9} {n:Int} (h:0<=n):dz (.int k n)=some n.toNat:=by
 cases n with
 | ofNat n=>rfl
 | negSucc n=>exact absurd h (by simp)
end
end
section
open Go (IntKind)
section
variable {P:aI} {L:Lib}
def b8 (k id o:Nat):IW k (.ptr id o)=some (.ptr id (o+k)):=rfl
def db {α:Type} (a:α) (l:List α):ui 1 (a::l)=l:=rfl
def az3 {α:Type} (a b:α) (l:List α):ui 2 (a::b::l)=l:=rfl
def aiP {α:Type} (a b c:α) (l:List α):ui 3 (a::b::c::l)=l:=rfl
end
end
section
open Go (IntKind)
section
variable {P:aI} {L:Lib}
abbrev Nm (n:Int):AV:= .agg [ab n,.aa]
def rI (hp:Hp) (ct id:Nat) (a:Int) (x y:AV):ji hp ct id 0 2 [.int .i64 a,.aa] (some (.cells true true true 2 [x,y]))=some (.ae [],bc hp id (.cells true true true 2 [.int .i64 a,.aa]),ct):=rfl
def ek (b:Bool):JV false (some b)=some (.bool b):=by cases b<;>rfl
def ah2 (f:cA) (tm:Env) (hp:Hp) (ct:Nat) (x y:X):bf P L f tm hp ct (.mn [x,y])=rd hp ct (min2 (aD tm x) (aD tm y)):=by
 simp only [bf,rd,bw,dw,A1]
 grind
def IN (f:cA) (tm:Env) (hp:Hp) (ct:Nat) (x y:X):bf P L f tm hp ct (.mx [x,y])=rd hp ct (max2 (aD tm x) (aD tm y)):=by
 simp only [bf,rd,bw,dw,A1]
 grind
def ac4 (k k':y9) (x y:Int):min2 (.int k x) (.int k' y)=some (.int k (if y<x then y else x)):=rfl
def HW (k k':y9) (x y:Int):max2 (.int k x) (.int k' y)=some (.int k (if y>x then y else x)):=rfl
def df (n:Int):Int:=if n<0 then -1 else if n=0 then 0 else 1
def axZ (n:Int):(if (if n<1 then n else 1)> -1 then (if n<1 then n else 1) else -1)=df n:=by
 unfold df
 grind
def n117 (h:Has P L 117 NG) (n:Int):aj P L 117 [ab n] (Nm n):=by
 unfold aj;rw [aH h];simp only [go_sem,ya,yb,Nat.reduceLeDiff,NG,bh,yf,rI];rfl
def pq (hp:Hp) (p q:Bool):jI .b (.bool p) (.bool q)=some (p==q):=rfl
end
end
section
open Go (IntKind)
section
variable {P:aI} {L:Lib}
def jo {n:Nat} {sp:List AV->Option AV} (h:L.pure n=some sp) {f:cA} (av:List AV):bO P L f n av=sp av:=by simp only [bO,h]
abbrev U64 (n:Int):AV:= .int .u64 n
def az4 {n:Int} (h1:0<=n) (h2:n<18446744073709551616):IntKind.wrap .u64 n=n:=by
 simp only [IntKind.wrap,IntKind.signed,IntKind.bits]
 grind
def ah3 (n:Int):pw (.toInt .u64) (ab n)=some (U64 (IntKind.wrap .u64 n)):=rfl
def MV (n:Int):pw (.toInt .i64) (U64 n)=some (ab (IntKind.wrap .i64 n)):=rfl
def IP (b:Bool):JV true (some b)=some (.bool (!b)):=by cases b<;>rfl
def cp (a b:AV) (r:List AV):ib 2 true (a::b::r)=some (.agg [a,b]):=rfl
def ix (a b c d:AV) (r:List AV):ib 4 true (a::b::c::d::r)=some (.agg [a,b,c,d]):=rfl
def aqe {a b:Int} (hb:0<b):(a.tmod b<0->a/b=a.tdiv b-1/\a%b=a.tmod b+b)/\(¬a.tmod b<0->a/b=a.tdiv b/\a%b=a.tmod b):=by
 have h1:=Int.mul_tdiv_add_tmod a b;have h2:a.tmod b<b:=Int.tmod_lt_of_pos a hb;have h3: -b<a.tmod b:=Int.lt_tmod_of_pos a hb;refine ⟨fun h=>(tf hb).2 ⟨?_,?_,?_⟩,fun h=>(tf hb).2 ⟨?_,?_,?_⟩⟩
 ·grind
 ·omega
 ·omega
 ·omega
 ·omega
 ·omega
def asg (a b:Nat) (hb:b≠0):wI b (a%b)=wI a b:=by
 rw [uV b,<-ybF,uV]
end
end
section
def dn (a b:Int):Int:=a/(vc a b:Nat)
def dA (a b:Int):Int:=b/(vc a b:Nat)
def MB {a b:Int} (hb:0<b):(0:Int)<(vc a b:Nat):=by
 have:=Int.gcd_pos_of_ne_zero_right a (show b≠0 by omega)
 omega
def ax0 (a b:Int):a=(vc a b:Nat)*dn a b:=(yaj (tn a b)).symm
def ax1 (a b:Int):b=(vc a b:Nat)*dA a b:=(yaj (uZ a b)).symm
def HX {a b:Int} (hb:0<b):0<dA a b:=by
 have h1:=MB (a:=a) hb;have h2:=ax1 a b;rcases Int.lt_trichotomy (dA a b) 0 with h | h | h
 ·have:=Int.mul_neg_of_pos_of_neg h1 h;omega
 ·grind
 ·exact h
def ac5 (a b:Int):(dn a b).natAbs<=a.natAbs:=by
 unfold dn;rw [uj (tn a b)];exact vI _ _
def ac6 (a b:Int):(dA a b).natAbs<=b.natAbs:=by
 unfold dA;rw [uj (uZ a b)];exact vI _ _
def pD (a b:Int):List Nat:=if dA a b=1 then aV (dn a b) else aV (dn a b)++[47]++aV (dA a b)
end
section
def aiQ {a b:Nat} (h:¬a<b):yR a b=false:=by
 cases hb:yR a b with
 | false=>rfl
 | true=>exact absurd (yv hb) (by omega)
def RW:∀(f n:Nat) (acc:List Nat),n<f->mV f n acc=mV f n []++acc
 | 0,_,_,h=>by omega
 | f+1,n,acc,h=>by
  simp only [mV];by_cases h1:n<10
  ·rw [show yR n 10=true from yo h1];rfl
  ·rw [show yR n 10=false from aiQ (by omega)];rw [RW f (n/10) _ (by omega),RW f (n/10) [48+n%10] (by omega)]
   simp
def QV {f n:Nat} (h:n<10):mV (f+1) n []=[48+n]:=by
 simp only [mV];rw [show yR n 10=true from yo h];rfl
def RX {f n:Nat} (h:¬n<10) (hf:n<=f):mV (f+1) n []=mV f (n/10) []++[48+n%10]:=by
 rw [<-RW f (n/10) _ (by omega)];simp only [mV];rw [show yR n 10=false from aiQ (by omega)];rfl
def ash:∀(n f:Nat),n<f->mV f n []=aw n:=by
 intro n
 induction n using vN with
 | _ n ih=>
  intro f hf;obtain ⟨g,rfl⟩:∃g,f=g+1:=⟨f-1,by omega⟩;by_cases h:n<10
  ·rw [QV h];unfold aw;rw [QV h]
  ·rw [RX h (by omega),ih (n/10) (by omega) g (by omega)];unfold aw;rw [RX h (yr n),ih (n/10) (by omega) n (by omega)];rfl
def nH {n:Nat} (h:n<10):aw n=[48+n]:=QV h
def oR {n:Nat} (h:¬n<10):aw n=aw (n/10)++[48+n%10]:=by
 rw [show aw n=mV (n+1) n [] from rfl,RX h (yr n),ash (n/10) n (by omega)]
def ru:∀{k n:Nat},n<10^(k+1)->(aw n).length<=k+1
 | 0,n,h=>by rw [nH (by simpa using h)];simp
 | k+1,n,h=>by
  by_cases h1:n<10
  ·rw [nH h1];simp
  ·rw [oR h1,yL]
   have:n/10<10^(k+1):=by
    grind
   have:=ru this
   grind
def LH {n:Nat} (h:n<18446744073709551616):(aw n).length<=20:=ru (k:=19) (by omega)
def lD (n:Nat):aV (n:Int)=aw n:=rfl
def kD {n:Int} (h:n<0):aV n=45::aw n.natAbs:=by
 cases n with
 | ofNat n=>exact absurd h (by simp)
 | negSucc n=>rfl
def bX:List Nat->Nat
 | []=>0
 | b::r=>if b=47 then 0 else bX r+1
def aoa {s:List Nat} {i:Nat} (h:i<s.length):bX (s.drop i)=if s[i]=47 then 0 else bX (s.drop (i+1))+1:=by
 rw [yU h];rfl
def HP:∀s:List Nat,bX s<=s.length
 | []=>yr _
 | b::r=>by
  unfold bX
  have:=HP r
  grind
def dd:List Nat->Bool
 | []=>true
 | b::r=>yE 48 b&&yE b 57&&dd r
def Ls:∀(a b:List Nat),dd (a++b)=(dd a&&dd b)
 | [],b=>by simp [dd]
 | x::a,b=>by simp [dd,Ls a b,Bool.and_assoc]
def sS (n:Nat):dd (aw n)=true:=by
 induction n using vN with
 | _ n ih=>
  by_cases h:n<10
  ·rw [nH h];simp [dd];omega
  ·rw [oR h,Ls,ih (n/10) (by omega)];simp [dd];omega
def Hx:∀{s:List Nat} (r:List Nat),dd s=true->bX (s++r)=s.length+bX r
 | [],r,_=>by simp
 | b::s,r,h=>by
  simp only [dd,ye] at h;have h1:=yv h.1.1;simp only [xm,bX,yz];rw [yB (by omega),Hx r h.2];omega
def Lt:∀(l:List Nat) (a d:Nat),d<10->cN (l++[48+d]) a=(cN l a).map (fun v=>10*v+d)
 | [],a,d,h=>by
  simp only [xG,cN];rw [show yE 48 (48+d)=true from yo (by omega),show yE (48+d) 57=true from yo (by omega)]
  simp
 | b::l,a,d,h=>by
  simp only [xm,cN]
  cases (yE 48 b&&yE b 57) with
  | true=>exact Lt l _ d h
  | false=>rfl
def sT (n:Nat):cN (aw n) 0=some n:=by
 induction n using vN with
 | _ n ih=>
  by_cases h:n<10
  ·rw [nH h]
   have:=Lt [] 0 n h
   simpa [cN] using this
  ·rw [oR h,Lt _ _ _ (by omega),ih (n/10) (by omega)]
   simp;omega
def aqf {s:List Nat} {i a v:Nat} (h:i<s.length) (hv:cN (s.drop i) a=some v):48<=s[i]/\s[i]<=57/\cN (s.drop (i+1)) (10*a+(s[i]-48))=some v:=by
 rw [yU h] at hv;simp only [cN] at hv
 cases hb:(yE 48 s[i]&&yE s[i] 57) with
 | false=>rw [hb] at hv;cases hv
 | true=>
  simp_all
def iz:Nat->Nat->List Nat
 | 0,_=>[]
 | k+1,n=>iz k (n/10)++[48+n%10]
def Rw:∀k n,(iz k n).length=k
 | 0,_=>rfl
 | k+1,n=>by simp [iz,Rw k]
def Mf:∀(k m r:Nat),0<m->r<10^k->aw (m*10^k+r)=aw m++iz k r
 | 0,m,r,_,h=>by simp at h;subst h;simp [iz]
 | k+1,m,r,hm,h=>by
  have h1:m*10^(k+1)+r=(m*10^k)*10+r:=by grind
  have hp:0<m*10^k:=tW hm (Nat.pow_pos (by decide));have e1:(m*10^(k+1)+r)/10=m*10^k+r/10:=by omega
  have e2:(m*10^(k+1)+r)%10=r%10:=by omega
  rw [oR (by omega),e1,e2,Mf k m (r/10) hm (by rw [xd] at h;omega)];simp [iz]
def ac7:∀(k r a:Nat),r<10^k->cN (iz k r) a=some (a*10^k+r)
 | 0,r,a,h=>by simp at h;subst h;simp [iz,cN]
 | k+1,r,a,h=>by
  rw [iz,Lt _ _ _ (xy _ (by decide)),ac7 k (r/10) a (by omega)];simp only [wP,yd,xd]
  grind
def asi {m:Nat} (h:1000000000<=m):aw m=aw (m/1000000000)++iz 9 (m%1000000000):=by
 have:=Mf 9 (m/1000000000) (m%1000000000) (by omega) (by omega)
 grind
end
section
open Go (IntKind)
def iA (s:List Nat) (l h:Option Nat):Option AV:=
 match l,h with
 | some l,some h=>bif yE l h&&yE h s.length then some (.str ((s.take h).drop l)) else none
 | _,_=>none
def eI (hp:Hp) (s:List Nat) (tm:Env) (lo hi:Option X):eV hp .str (.str s) tm lo hi=iA s (cY tm 0 lo) (cY tm s.length hi):=by
 unfold iA;simp only [eV]
 grind
def eU (tm:Env) (d:Nat):cY tm d none=some d:=rfl
def dO (tm:Env) (d:Nat) (x:X):cY tm d (some x)=dz (aD tm x):=rfl
def mg {s:List Nat} {l h:Nat} (h1:l<=h) (h2:h<=s.length):iA s (some l) (some h)=some (.str ((s.take h).drop l)):=by
 simp [iA,yo h1,yo h2]
def gD {a b:List Nat} (h:a.length+b.length<=9223372036854775807):binOp .add (.str a) (.str b)=some (.str (a++b)):=by
 show IV .add a b=_
 simp only [IV,yo h,yA]
def aut (k:y9) (n:Int):pw (.toInt .i64) (.int k n)=some (ab (IntKind.wrap .i64 n)):=rfl
def mh (a b:List Nat):binOp .eql (.str a) (.str b)=some (.bool (cV a b)):=rfl
def qt {s:List Nat} {i:Nat} (h:i<s.length):mY i (.str s)=some (.int .u8 (s[i]:Nat)):=by
 simp only [mY,xU h]
def abd {r:Nat} (h:r<10):iA [48,49,50,51,52,53,54,55,56,57] (some r) (some (r+1))=some (.str [48+r]):=by
 have:r=0\/r=1\/r=2\/r=3\/r=4\/r=5\/r=6\/r=7\/r=8\/r=9:=by omega
 rcases this with rfl | rfl | rfl | rfl | rfl | rfl | rfl | rfl | rfl | rfl<;>rfl
section
variable {P:aI} {L:Lib}
def XY (h:Has P L 292 zI) {n:Nat} (hn:n<9223372036854775808):aj P L 292 [ab n,ab 1] (.str (aw n)):=by
 have key:=fM (P:=P) (L:=L) (live:=[0,1,5]) (a:=nP)
  (I:=fun k st=>∃(m:Nat) (s:List Nat),st=⟨[(0,ab m),(1,ab 1),(5,.str s)],[],0,0⟩/\m<=n/\m+(1-s.length)=k/\s.length<=20/\((s=[]/\m=n)\/(0<s.length/\(m=0->s=aw n)/\(0<m->aw n=aw m++s))))
  (Q:=fun ex st=>∃tm ct,st=⟨tm,[],ct,0⟩/\ex= .exit 0/\ai tm 5= .str (aw n)) ?_
 ·unfold aj;rw [aH h];simp only [go_sem,zI];generalize hq:D P L (.loop [0,1,5] nP) _=q;obtain ⟨ex,st,rfl,tm,ct,rfl,rfl,h2⟩:=bQ hq (key (n+1)) ⟨n,[],by simp only [go_sem,ya,ax]<;>rfl,by omega,rfl,by simp,.inl ⟨rfl,rfl⟩⟩
  simp only [go_sem,ax,h2]
 ·rintro k st ⟨m,s,rfl,hm,hk,hl,hs⟩;by_cases sF:0<m\/s.length<1
  ·left
   have hc:((decide ((0:Int)<m))=true)\/((decide ((0:Int)<m))=false/\((s.length:Nat):Int)<1):=by
    by_cases h0:0<m
    ·exact .inl (xo (by omega))
    ·exact .inr ⟨xa (by omega),by omega⟩
   have hr:((m:Int)).tmod 10=((m%10:Nat):Int):=by rw [wo (by omega)];rfl
   have hq:((m:Int)).tdiv 10=((m/10:Nat):Int):=by rw [Int.tdiv_eq_ediv_of_nonneg (by omega)];rfl
   have hd:=abd (r:=m%10) (by omega);have fin:∃s' k',D P L nP ⟨[(0,ab m),(1,ab 1),(5,.str s)],[],0,0⟩=some (.normal,s')/\k'<k/\aS [0,1,5] s'=⟨[(0,ab (m/10:Nat)),(1,ab 1),(5,.str ([48+m%10]++s))],[],0,0⟩/\m/10+(1-([48+m%10]++s).length)=k':=by
    rcases hc with hc | ⟨hc,su⟩
    ·have hc:(0:Int)<m:=of_decide_eq_true hc
     simp only [go_sem,ya,yb,nP,hc,iK _ _ _ (show (10:Int)≠0 by decide),fX _ _ _ (show (10:Int)≠0 by decide),hr,hq,wrapN (n:=m%10+1) (by omega),wrap64 (n:=((m/10:Nat):Int)) (by omega) (by omega),eI,dO,show ((m%10:Nat):Int)+1=((m%10+1:Nat):Int) from rfl,hd,gD (a:=[48+m%10]) (b:=s) (by simp;omega)];refine ⟨_,_,rfl,?_,by simp only [go_sem,ya,ax],rfl⟩
     simp;omega
    ·have hc:¬(0:Int)<m:=of_decide_eq_false hc
     simp only [go_sem,ya,yb,nP,hc,su,iK _ _ _ (show (10:Int)≠0 by decide),fX _ _ _ (show (10:Int)≠0 by decide),hr,hq,wrapN (n:=m%10+1) (by omega),wrap64 (n:=((m/10:Nat):Int)) (by omega) (by omega),eI,dO,show ((m%10:Nat):Int)+1=((m%10+1:Nat):Int) from rfl,hd,gD (a:=[48+m%10]) (b:=s) (by simp;omega)];refine ⟨_,_,rfl,?_,by simp only [go_sem,ya,ax],rfl⟩
     simp;omega
   obtain ⟨s',k',f1,f2,f3,f4⟩:=fin;refine ⟨s',k',f1,f2,m/10,[48+m%10]++s,f3,by omega,f4,?_,.inr ⟨by simp,fun h0=>?_,fun h0=>?_⟩⟩
   ·have aHR:=LH (n:=n) (by omega);rcases hs with ⟨rfl,rfl⟩ | ⟨h1,h2,h3⟩
    ·simp
    ·by_cases h0:0<m
     ·have e:=congrArg yae (h3 h0);have e2:0<(aw m).length:=by
       by_cases h9:m<10
       ·rw [nH h9];simp
       ·rw [oR h9];simp
      simp only [yL] at e
      simp;omega
     ·omega
   ·have h9:m<10:=by omega
    rcases hs with ⟨rfl,rfl⟩ | ⟨h1,h2,h3⟩
    ·rw [nH h9,yW h9];rfl
    ·have:0<m:=by omega
     rw [h3 this,nH h9,yW h9]
   ·have h9:¬m<10:=by omega
    rcases hs with ⟨rfl,rfl⟩ | ⟨h1,h2,h3⟩
    ·rw [oR h9];simp
    ·rw [h3 (by omega),oR h9];simp
  ·right
   simp only [go_sem,ya,nP,show ¬(0:Int)<m by omega,show ¬((s.length:Nat):Int)<1 by omega];refine ⟨_,_,rfl,by simp,_,_,rfl,rfl,?_⟩;simp only [go_sem,ya];rcases hs with ⟨rfl,rfl⟩ | ⟨h1,h2,h3⟩
   ·simp at sF
   ·rw [h2 (by omega)]
def aBc (h:Has P L 291 JB) {a b:Nat} (ha:a<9223372036854775808) (hb:b<9223372036854775808):aj P L 291 [ab a,ab b] (ab (wI a b)):=by
 have key:=fM (P:=P) (L:=L) (live:=[0,1]) (a:=II)
  (I:=fun k st=>∃x y:Nat,st=⟨[(0,ab x),(1,ab y)],[],0,0⟩/\y=k/\wI x y=wI a b)
  (Q:=fun ex st=>∃tm ct,st=⟨tm,[],ct,0⟩/\ex= .exit 0/\ai tm 0=ab (wI a b)) ?_
 ·unfold aj;rw [aH h];simp only [go_sem,JB];generalize hq:D P L (.loop [0,1] II) _=q;obtain ⟨ex,st,rfl,tm,ct,rfl,rfl,h2⟩:=bQ hq (key b) ⟨a,b,by simp only [go_sem,ya,ax]<;>rfl,rfl,rfl⟩
  simp only [go_sem,ax,h2]
 ·rintro k st ⟨x,y,rfl,rfl,hg⟩;by_cases hy:y=0
  ·right
   subst hy;simp only [go_sem,ya,II,show ¬(0:Int)<((0:Nat):Int) by omega];refine ⟨_,_,rfl,by simp,_,_,rfl,rfl,?_⟩;simp only [go_sem,ya];rw [<-hg,Nat.gcd_zero_right]
  ·left
   have hr:((x:Int)).tmod y=((x%y:Nat):Int):=by rw [wo (by omega)];rfl
   simp only [go_sem,ya,II,show (0:Int)<y by omega,iK _ _ _ (show (y:Int)≠0 by omega),hr];refine ⟨_,x%y,rfl,xy _ (by omega),y,x%y,by simp only [go_sem,ya,ax],rfl,?_⟩;rw [<-hg,uV y,<-ybF,uV]
end
end
section
open Go (IntKind)
section
variable {P:aI} {L:Lib}
def FE (h:Has P L 272 Jy) {s:List Nat} (hl:s.length<9223372036854775808):aj P L 272 [.str s] (ab (bX s)):=by
 have key:=fM (P:=P) (L:=L) (live:=[0,3]) (a:=EE)
  (I:=fun k st=>∃i:Nat,st=⟨[(0,.str s),(3,ab i)],[],0,0⟩/\i+k=s.length/\i+bX (s.drop i)=bX s)
  (Q:=fun ex st=>∃tm ct,st=⟨tm,[],ct,0⟩/\((ex= .ret/\ai tm 2=ab (bX s))\/(ex= .exit 0/\ai tm 0= .str s/\bX s=s.length))) ?_
 ·unfold aj;rw [aH h];simp only [go_sem,Jy];generalize hq:D P L (.loop [0,3] EE) _=q;obtain ⟨ex,st,rfl,tm,ct,rfl,h2⟩:=bQ hq (key s.length) ⟨0,by simp only [go_sem,ya,ax]<;>rfl,by omega,by simp⟩
  rcases h2 with ⟨rfl,h2⟩ | ⟨rfl,h2,h3⟩
  ·simp only [go_sem,h2]
  ·simp only [go_sem,ax,h2,h3]
 ·rintro k st ⟨i,rfl,hk,hs⟩;by_cases hi:i<s.length
  ·rw [aoa hi] at hs;by_cases h7:s[i]=47
   ·right
    rw [yQ h7] at hs;simp only [go_sem,ya,EE,show (i:Int)<s.length by omega,qt hi,show ((s[i]:Nat):Int)=47 by omega];refine ⟨_,_,rfl,by simp,_,_,rfl,.inl ⟨rfl,?_⟩⟩;simp only [go_sem];rw [<-hs];rfl
   ·left
    rw [yB h7] at hs;simp only [go_sem,ya,EE,show (i:Int)<s.length by omega,qt hi,show ¬((s[i]:Nat):Int)=47 by omega];refine ⟨_,k-1,rfl,by omega,i+1,?_,by omega,by omega⟩;rw [wrap64 (by omega) (by omega)];simp only [go_sem,ya,ax]<;>rfl
  ·right
   simp only [go_sem,ya,EE,show ¬(i:Int)<s.length by omega];refine ⟨_,_,rfl,by simp,_,_,rfl,.inr ⟨rfl,by simp only [go_sem,ya],?_⟩⟩;rw [xe (by omega)] at hs;simp only [bX] at hs;omega
def JX (h:Has P L 290 Fe) {s:List Nat} {v:Nat} (hl:s.length<=18) (hv:cN s 0=some v):aj P L 290 [.str s] (ab v):=by
 have key:=fM (P:=P) (L:=L) (live:=[0,3,4]) (a:=IG)
  (I:=fun k st=>∃i a:Nat,st=⟨[(0,.str s),(3,ab a),(4,ab i)],[],0,0⟩/\i+k=s.length/\a<10^i/\cN (s.drop i) a=some v)
  (Q:=fun ex st=>∃tm ct,st=⟨tm,[],ct,0⟩/\ex= .exit 0/\ai tm 3=ab v) ?_
 ·unfold aj;rw [aH h];simp only [go_sem,Fe];generalize hq:D P L (.loop [0,3,4] IG) _=q;obtain ⟨ex,st,rfl,tm,ct,rfl,rfl,h2⟩:=bQ hq (key s.length) ⟨0,0,by simp only [go_sem,ya,ax]<;>rfl,by omega,by simp,hv⟩
  simp only [go_sem,ax,h2]
 ·rintro k st ⟨i,a,rfl,hk,ha,hs⟩;by_cases hi:i<s.length
  ·left
   obtain ⟨h1,h2,h3⟩:=aqf hi hs;have hp:10^i<=10^17:=xh (by decide) (by omega);have hb:IntKind.wrap .i64 ((s[i]:Nat):Int)=((s[i]:Nat):Int):=wrap64 (by omega) (by omega)
   simp only [go_sem,ya,IG,show (i:Int)<s.length by omega,qt hi,aut,hb,wrap64 (n:=10*(a:Int)) (by omega) (by omega),wrap64 (n:=10*(a:Int)+(s[i]:Nat)) (by omega) (by omega),wrap64 (n:=10*(a:Int)+(s[i]:Nat)-48) (by omega) (by omega)];refine ⟨_,k-1,rfl,by omega,i+1,10*a+(s[i]-48),?_,by omega,?_,h3⟩
   ·rw [wrap64 (by omega) (by omega),show 10*(a:Int)+(s[i]:Nat)-48=((10*a+(s[i]-48):Nat):Int) by omega];simp only [go_sem,ya,ax]<;>rfl
   ·rw [xd];omega
  ·right
   simp only [go_sem,ya,IG,show ¬(i:Int)<s.length by omega];refine ⟨_,_,rfl,by simp,_,_,rfl,rfl,?_⟩;rw [xe (by omega)] at hs;simp only [cN,yd] at hs;subst hs;simp only [go_sem,ya]
def MC (a:Int):(if 0-a>a then 0-a else a)=(a.natAbs:Int):=by omega
def Mg (a b:Int):a.tdiv (vc a b:Nat)=dn a b:=tQ (tn a b)
def Mh (a b:Int):b.tdiv (vc a b:Nat)=dA a b:=tQ (uZ a b)
def nI (n:Int):(if n<0 then [45] else [])++aw n.natAbs=aV n:=by
 split
 ·rename_i h;rw [kD h];rfl
 ·rename_i h;obtain ⟨m,rfl⟩:∃m:Nat,n=m:=⟨n.toNat,by omega⟩;rfl
def asj {n:Int} (h:n.natAbs<18446744073709551616):(aV n).length<=21:=by
 rw [<-nI]
 have:=LH h
 grind
def auu {a b:Int} (hb:0<b):pD a b=(if 1<dA a b then (aV (dn a b)++[47])++aw (dA a b).natAbs else aV (dn a b)):=by
 have h:=HX (a:=a) hb;unfold pD;by_cases h1:dA a b=1
 ·grind
 ·rw [yB h1,yQ (by omega)];obtain ⟨m,hm⟩:∃m:Nat,dA a b=m:=⟨(dA a b).toNat,by omega⟩;rw [hm];rfl
def aBd (h:Has P L 277 C7) (XZ:Has P L 291 JB) (qI:Has P L 292 zI) {a b:Int} (ha: -4000000000000000000<=a/\a<=4000000000000000000) (hb:0<b/\b<=4000000000000000000):
  aj P L 277 [ab a,ab b] (.str (pD a b)):=by
 have hn:=ac5 a b;have hd:=ac6 a b;have hp:=HX (a:=a) hb.1;have e1:=aBc XZ (a:=a.natAbs) (b:=b.natAbs) (by omega) (by omega);have e2:=XY qI (n:=(dn a b).natAbs) (by omega);have e3:=XY qI (n:=(dA a b).natAbs) (by omega);have hg:=MB (a:=a) hb.1;rw [show ((b.natAbs:Nat):Int)=b by omega,show wI a.natAbs b.natAbs=vc a b from rfl] at e1;rw [show (((dA a b).natAbs:Nat):Int)=dA a b by omega] at e3;have nn:=asj (n:=dn a b) (by omega);have oh:=LH (n:=(dn a b).natAbs) (by omega);have hl3:=LH (n:=(dA a b).natAbs) (by omega);have hT:=auu (a:=a) hb.1;have hS:=nI (dn a b);unfold aj at e1 e2 e3 ⊢;rw [aH h];by_cases h0:dn a b<0
 ·rw [yQ h0] at hS;by_cases h1:1<dA a b
  ·rw [yQ h1] at hT
   simp only [go_sem,ya,C7,show ¬a< -4000000000000000000 by omega,show ¬4000000000000000000<a by omega,show ¬b< -4000000000000000000 by omega,show ¬4000000000000000000<b by omega,show ¬b<0 by omega,wrap64 (n:=0-a) (by omega) (by omega),IN,HW,MC,e1,fX _ _ _ (show ((vc a b:Nat):Int)≠0 by omega),Mg,Mh,wrap64 (n:=dn a b) (by omega) (by omega),wrap64 (n:=dA a b) (by omega) (by omega),h0,wrap64 (n:=0-dn a b) (by omega) (by omega),e2,gD (a:=[45]) (b:=aw (dn a b).natAbs) (by simp;omega),hS,h1,gD (a:=aV (dn a b)) (b:=[47]) (by simp;omega),e3,gD (a:=aV (dn a b)++[47]) (b:=aw (dA a b).natAbs) (by simp;omega),hT]
  ·rw [yB h1] at hT
   simp only [go_sem,ya,C7,show ¬a< -4000000000000000000 by omega,show ¬4000000000000000000<a by omega,show ¬b< -4000000000000000000 by omega,show ¬4000000000000000000<b by omega,show ¬b<0 by omega,wrap64 (n:=0-a) (by omega) (by omega),IN,HW,MC,e1,fX _ _ _ (show ((vc a b:Nat):Int)≠0 by omega),Mg,Mh,wrap64 (n:=dn a b) (by omega) (by omega),wrap64 (n:=dA a b) (by omega) (by omega),h0,wrap64 (n:=0-dn a b) (by omega) (by omega),e2,gD (a:=[45]) (b:=aw (dn a b).natAbs) (by simp;omega),hS,h1,hT]
 ·rw [yB h0] at hS;by_cases h1:1<dA a b
  ·rw [yQ h1] at hT
   simp only [go_sem,ya,C7,show ¬a< -4000000000000000000 by omega,show ¬4000000000000000000<a by omega,show ¬b< -4000000000000000000 by omega,show ¬4000000000000000000<b by omega,show ¬b<0 by omega,wrap64 (n:=0-a) (by omega) (by omega),IN,HW,MC,e1,fX _ _ _ (show ((vc a b:Nat):Int)≠0 by omega),Mg,Mh,wrap64 (n:=dn a b) (by omega) (by omega),wrap64 (n:=dA a b) (by omega) (by omega),h0,wrap64 (n:=0-dn a b) (by omega) (by omega),e2,gD (a:=[]) (b:=aw (dn a b).natAbs) (by simp;omega),hS,h1,gD (a:=aV (dn a b)) (b:=[47]) (by simp;omega),e3,gD (a:=aV (dn a b)++[47]) (b:=aw (dA a b).natAbs) (by simp;omega),hT]
  ·rw [yB h1] at hT
   simp only [go_sem,ya,C7,show ¬a< -4000000000000000000 by omega,show ¬4000000000000000000<a by omega,show ¬b< -4000000000000000000 by omega,show ¬4000000000000000000<b by omega,show ¬b<0 by omega,wrap64 (n:=0-a) (by omega) (by omega),IN,HW,MC,e1,fX _ _ _ (show ((vc a b:Nat):Int)≠0 by omega),Mg,Mh,wrap64 (n:=dn a b) (by omega) (by omega),wrap64 (n:=dA a b) (by omega) (by omega),h0,wrap64 (n:=0-dn a b) (by omega) (by omega),e2,gD (a:=[]) (b:=aw (dn a b).natAbs) (by simp;omega),hS,h1,hT]
end
end
section
open Go (IntKind)
def TT (n:Int) (d:Nat):List Nat:=aV n++(if d=1 then [] else 47::aw d)
def auv {a b:Int} (hb:0<b):pD a b=TT (dn a b) (dA a b).toNat:=by
 have h:=HX (a:=a) hb;unfold pD TT;by_cases h1:dA a b=1
 ·grind
 ·rw [yB h1,yB (by omega)];obtain ⟨m,hm⟩:∃m:Nat,dA a b=m:=⟨(dA a b).toNat,by omega⟩;rw [hm,List.append_assoc];rfl
def rz (n:Nat):0<(aw n).length:=by
 by_cases h:n<10
 ·rw [nH h];simp
 ·rw [oR h];simp
def Ii:∀(n:Nat),n<10^(aw n).length:=by
 intro n
 induction n using vN with
 | _ n ih=>
  by_cases h:n<10
  ·rw [nH h];simpa using h
  ·have:=ih (n/10) (by omega)
   rw [oR h,yL,uF,xd];omega
def ac8 {n:Nat} (h:(aw n).length<=9):n<1000000000:=
 yT (Ii n) (by simpa using xh (show 0<10 by decide) h)
def D6 (n:Nat):∃b r,aw n=b::r/\48<=b/\b<=57:=by
 cases hq:aw n with
 | nil=>have:=rz n;rw [hq] at this;simp at this
 | cons b r=>
  have:=sS n
  rw [hq] at this;simp only [dd,ye] at this
  simp_all
section
variable {P:aI} {L:Lib}
def Dc (s:List Nat):mY 0 (.str (45::s))=some (.int .u8 45):=rfl
def Sq (q:Bool) (n:Int) (d:Nat):AV:=if q=true then .ae [ab n,ab d,.bool true] else .ae [ab 0,ab 0,.bool false]
def iR (d:Nat):List Nat:=if d=1 then [] else 47::aw d
def Qz (d:Nat):bX (iR d)=0:=by unfold iR;split<;>rfl
def aBe (h:Has P L 276 pz) (Bp:Has P L 272 Jy) (zQ:Has P L 290 Fe) {n:Int} {d:Nat} (hl:(TT n d).length<=20000000000):
  ∃q:Bool,aj P L 276 [.str (TT n d)] (Sq q n d)/\(q=true->n.natAbs<1000000000/\d<1000000000):=by
 generalize hs:TT n d=s at hl;by_cases nC:20<s.length
 ·refine ⟨false,?_,fun h=>by cases h⟩;unfold aj;rw [aH h];simp only [go_sem,ya,pz,show (20:Int)<s.length by omega];rfl
 ·have hu:∃u,u=aw n.natAbs++iR d:=⟨_,rfl⟩;obtain ⟨u,hu⟩:=hu;have hK:∃K,K=(aw n.natAbs).length:=⟨_,rfl⟩;obtain ⟨K,hK⟩:=hK;have FZ:bX u=K:=by rw [hu,Hx _ (sS _),Qz,hK];rfl
  have hlen:u.length=K+(iR d).length:=by rw [hu,hK,yL]
  have hp:=rz n.natAbs;obtain ⟨b,r,hb,jB,KT⟩:=D6 n.natAbs;have DG:(n<0/\s=45::u)\/(¬n<0/\s=u):=by
   by_cases h0:n<0
   ·left;refine ⟨h0,?_⟩;rw [<-hs,hu,TT,kD h0];rfl
   ·right;refine ⟨h0,?_⟩;rw [<-hs,hu,TT,<-nI,yB h0];rfl
  have hul:u.length<=s.length:=by rcases DG with ⟨_,e⟩ | ⟨_,e⟩<;>rw [e]<;>simp
  have BS:0<u.length:=by omega
  have qU:u[0]=b:=by
   have:u=b::(r++iR d):=by rw [hu,hb];rfl
   simp [this]
  have e1:=FE Bp (s:=u) (by omega);rw [FZ] at e1;have ef:iA u (some 0) (some K)=some (.str (aw n.natAbs)):=by
   rw [mg (by omega) (by omega),yK,hu,hK,List.take_left]
  unfold aj at e1;by_cases h9:9<K
  ·refine ⟨false,?_,fun h=>by cases h⟩;unfold aj;rw [aH h];rcases DG with ⟨h0,e⟩ | ⟨h0,e⟩
   ·have nC:¬20<u.length+1:=by rw [e] at nC;exact nC
    have kV:iA (45::u) (some 1) (some (u.length+1))=some (.str u):=by rw [mg (s:=45::u) (l:=1) (h:=u.length+1) (by omega) (by simp)];simp
    rw [e];simp only [go_sem,ya,pz,show ¬(20:Int)<((u.length+1:Nat):Int) by omega,show (0:Int)<((u.length+1:Nat):Int) by omega,Dc,eI,eU,dO,kV,e1,show (9:Int)<(K:Int) by omega];rfl
   ·rw [e];simp only [go_sem,ya,pz,show ¬(20:Int)<(u.length:Nat) by omega,show (0:Int)<(u.length:Nat) by omega,qt BS,qU,show ¬((b:Nat):Int)=45 by omega,e1,show (9:Int)<(K:Int) by omega];rfl
  ·by_cases iE:10<(iR d).length
   ·refine ⟨false,?_,fun h=>by cases h⟩;unfold aj;rw [aH h];rcases DG with ⟨h0,e⟩ | ⟨h0,e⟩
    ·have nC:¬20<u.length+1:=by rw [e] at nC;exact nC
     have kV:iA (45::u) (some 1) (some (u.length+1))=some (.str u):=by rw [mg (s:=45::u) (l:=1) (h:=u.length+1) (by omega) (by simp)];simp
     rw [e]
     simp only [go_sem,ya,pz,show ¬(20:Int)<((u.length+1:Nat):Int) by omega,show (0:Int)<((u.length+1:Nat):Int) by omega,Dc,eI,eU,dO,kV,e1,show ¬(9:Int)<(K:Int) by omega,wrap64 (n:=(u.length:Int)-(K:Int)) (by omega) (by omega),show (10:Int)<(u.length:Int)-(K:Int) by omega];rfl
    ·rw [e]
     simp only [go_sem,ya,pz,show ¬(20:Int)<(u.length:Nat) by omega,show (0:Int)<(u.length:Nat) by omega,qt BS,qU,show ¬((b:Nat):Int)=45 by omega,e1,show ¬(9:Int)<(K:Int) by omega,wrap64 (n:=(u.length:Int)-(K:Int)) (by omega) (by omega),show (10:Int)<(u.length:Int)-(K:Int) by omega];rfl
   ·have e2:=JX zQ (s:=aw n.natAbs) (by omega) (sT n.natAbs);unfold aj at e2;have hm:=ac8 (n:=n.natAbs) (by omega);by_cases hd:d=1
    ·subst hd;have ew:iR 1=[]:=rfl;refine ⟨true,?_,fun _=>⟨hm,by decide⟩⟩;rw [ew] at hlen;simp only [yO,y8] at hlen;unfold aj;rw [aH h];rcases DG with ⟨h0,e⟩ | ⟨h0,e⟩
     ·have nC:¬20<u.length+1:=by rw [e] at nC;exact nC
      have kV:iA (45::u) (some 1) (some (u.length+1))=some (.str u):=by rw [mg (s:=45::u) (l:=1) (h:=u.length+1) (by omega) (by simp)];simp
      rw [e]
      simp only [go_sem,ya,pz,show ¬(20:Int)<((u.length+1:Nat):Int) by omega,show (0:Int)<((u.length+1:Nat):Int) by omega,Dc,eI,eU,dO,kV,e1,show ¬(9:Int)<(K:Int) by omega,wrap64 (n:=(u.length:Int)-(K:Int)) (by omega) (by omega),show ¬(10:Int)<(u.length:Int)-(K:Int) by omega,ef,e2,show ¬(K:Int)<(u.length:Int) by omega,wrap64 (n:=0-(n.natAbs:Int)) (by omega) (by omega)];rw [show 0-(n.natAbs:Int)=n by omega];rfl
     ·rw [e]
      simp only [go_sem,ya,pz,show ¬(20:Int)<(u.length:Nat) by omega,show (0:Int)<(u.length:Nat) by omega,qt BS,qU,show ¬((b:Nat):Int)=45 by omega,eI,eU,dO,e1,show ¬(9:Int)<(K:Int) by omega,wrap64 (n:=(u.length:Int)-(K:Int)) (by omega) (by omega),show ¬(10:Int)<(u.length:Int)-(K:Int) by omega,ef,e2,show ¬(K:Int)<(u.length:Int) by omega];rw [show (n.natAbs:Int)=n by omega];rfl
    ·have ew:iR d=47::aw d:=yB hd;have KU:(iR d).length=(aw d).length+1:=by rw [ew];rfl
     have hpd:=rz d;have hd9:=ac8 (n:=d) (by omega);have e3:=JX zQ (s:=aw d) (by omega) (sT d);unfold aj at e3;have su:iA u (some (K+1)) (some u.length)=some (.str (aw d)):=by
      rw [mg (by omega) (yr _),xx,hu,ew,hK,show (aw n.natAbs).length+1=(aw n.natAbs++[47]).length by simp,show aw n.natAbs++47::aw d=(aw n.natAbs++[47])++aw d by simp,List.drop_left]
     refine ⟨true,?_,fun _=>⟨hm,hd9⟩⟩;unfold aj;rw [aH h];rcases DG with ⟨h0,e⟩ | ⟨h0,e⟩
     ·have nC:¬20<u.length+1:=by rw [e] at nC;exact nC
      have kV:iA (45::u) (some 1) (some (u.length+1))=some (.str u):=by rw [mg (s:=45::u) (l:=1) (h:=u.length+1) (by omega) (by simp)];simp
      rw [e]
      simp only [go_sem,ya,pz,show ¬(20:Int)<((u.length+1:Nat):Int) by omega,show (0:Int)<((u.length+1:Nat):Int) by omega,Dc,eI,eU,dO,kV,e1,show ¬(9:Int)<(K:Int) by omega,wrap64 (n:=(u.length:Int)-(K:Int)) (by omega) (by omega),show ¬(10:Int)<(u.length:Int)-(K:Int) by omega,ef,e2,show (K:Int)<(u.length:Int) by omega,wrapN (n:=K+1) (by omega),show (K:Int)+1=((K+1:Nat):Int) from rfl,su,e3,wrap64 (n:=0-(n.natAbs:Int)) (by omega) (by omega)];rw [show 0-(n.natAbs:Int)=n by omega];rfl
     ·rw [e]
      simp only [go_sem,ya,pz,show ¬(20:Int)<(u.length:Nat) by omega,show (0:Int)<(u.length:Nat) by omega,qt BS,qU,show ¬((b:Nat):Int)=45 by omega,eI,eU,dO,e1,show ¬(9:Int)<(K:Int) by omega,wrap64 (n:=(u.length:Int)-(K:Int)) (by omega) (by omega),show ¬(10:Int)<(u.length:Int)-(K:Int) by omega,ef,e2,show (K:Int)<(u.length:Int) by omega,wrapN (n:=K+1) (by omega),show (K:Int)+1=((K+1:Nat):Int) from rfl,su,e3];rw [show (n.natAbs:Int)=n by omega];rfl
end
end
end VE
