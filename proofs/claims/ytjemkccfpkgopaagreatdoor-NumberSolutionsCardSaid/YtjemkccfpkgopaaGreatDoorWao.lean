import Derived.ChangeSlices
import Derived.ChangeReads
import Derived.ChangeSame
import Derived.OpenShut
import Derived.Lib.AtoiErrMem
import Derived.Laws.Externs
import Derived.Attr
import Derived.Test.YtjemkccfpkgopaaGreatDoorWah
import Derived.Test.YtjemkccfpkgopaaGreatDoorWad
import Derived.Test.YtjemkccfpkgopaaGreatDoorWaf
import Derived.Test.YtjemkccfpkgopaaGreatDoorWan
import Derived.Test.YtjemkccfpkgopaaGreatDoorWag
set_option linter.all false
set_option maxRecDepth 100000
open Array renaming getElem?_eq_some_iff→xz
open Bool renaming and_eq_true→yg,and_true→vt,true_and→wA
open Go renaming Addr→uA,ChangeSpec→ybE,DataW→xG,Field→uM,IntKind→y7,MemPlace→wG,Program→y5,TypeId→yC,Value→yh,World→yi
open Int renaming ediv_emod_unique→tj,gcd→vc,gcd_dvd_left→tr,gcd_dvd_right→tc,mul_ediv_cancel'→yar,natAbs_ediv_of_dvd→um,tdiv_eq_ediv_of_dvd→tV,tmod_eq_emod_of_nonneg→wB
open List renaming all_cons→ybg,append_nil→xY,cons_append→xk,drop→vD,drop_drop→vX,drop_eq_getElem_cons→yP,drop_eq_nil_of_le→xf,drop_zero→yL,eq_nil_of_length_eq_zero→yB,flatMap_cons→yaG,getD_cons_succ→yaq,getD_eq_getElem?_getD→y9,getElem?_cons_zero→vP,getElem?_eq_getElem→xM,length→tG,length_append→yG,length_cons→yz,length_map→yr,length_nil→yK,length_singleton→uG,length_take→yE,mapM_cons→ui,mapM_nil→tQ,map_cons→xa,mem_append_left→uN,mem_append_right→vv,mem_flatMap→uz,nil_append→xB,range→xe,range'→xW,range'_succ→vN,range'_zero→yaO,range_eq_range'→yaj,replicate→yj,replicate_succ→wo,set_cons_succ→yax,take_append_drop→xS,take_length→xD,take_of_length_le→yN,take_succ_eq_append_getElem→xb
open Nat renaming add_mul→wJ,add_sub_cancel→tH,add_zero→yY,beq→yv,beq_refl→wW,ble→yF,ble_eq_true_of_le→ym,blt→yQ,div_le_self→vH,eq_of_beq_eq_true→yp,eq_zero_or_pos→xp,gcd→wN,gcd_comm→uY,gcd_rec→ybN,le_div_iff_mul_le→yan,le_max_left→ud,le_max_right→vU,le_of_ble_eq_true→yy,le_of_lt→uX,le_refl→yu,lt_of_le_of_lt→wR,lt_of_lt_of_le→yU,lt_of_mul_lt_mul_right→tL,min_eq_left→xA,mod_eq_of_lt→yW,mod_lt→xF,mul_add→xI,mul_assoc→xo,mul_comm→xL,mul_le_mul_left→yZ,mul_le_mul_right→yV,mul_pos→yae,mul_zero→xJ,pow_le_pow_right→xh,pow_succ→xd,reduceAdd→yb,reduceEqDiff→ya,strongRecOn→vQ,zero_add→ye
open Option renaming bind_eq_bind→vE,bind_some→xR,map_some→wM,pure_def→wV
open Option.some renaming injEq→yd
open Prod.mk renaming injEq→yo
namespace VE
section
open Go
section
variable (P:y5)
def El (self:yC->Bool):List uM->Nat->Nat->Bool
 | [],o,n=>yv o n
 | f::r,o,n=>yv f.offset o&&(self f.type&&El self r (o+P.cellsOf f.type) n)
def flat:Nat->yC->Bool
 | 0,_=>false
 | n+1,t=>
  match P.underlying t with
  | some .bool | some (.int _) | some (.float _) | some .string=>yv (P.cellsOf t) 1
  | some (.slice e)=>yv (P.cellsOf t) 1&&(yQ 0 (P.cellsOf e)&&flat n e)
  | some (.struct fs)=>El P (fun u=>flat n u) fs.toList 0 (P.cellsOf t)
  | some (.array k e)=>yv (P.cellsOf t) (k*P.cellsOf e)&&flat n e
  | _=>false
def cS {H:Type}:Nat->yC->xG H->List AV
 | 0,_,_=>[]
 | n+1,t,d=>
  match P.underlying t,d with
  | some .bool,.lit (.bool b)=>[.bool b]
  | some (.int k),.lit (.int _ m)=>[.int k m]
  | some (.float k),.lit (.float _ b)=>[.bQ k b]
  | some .string,.lit (.string s)=>[.str (s.map UInt8.toNat)]
  | some (.slice _),.nil=>[.aa]
  | some (.slice e),.slice jI spare=>[.aw spare.isEmpty jI.length (jI.flatMap fun x=>cS n e x)]
  | some (.struct fs),.agg parts=>(fs.toList.zip parts).flatMap fun x=>cS n x.1.type x.2
  | some (.array _ e),.agg parts=>parts.flatMap fun x=>cS n e x
  | _,_=>[]
end
section
variable {af:Nat->Nat} {m:Mp} {S:Nat->Prop} {w:yi}
def acF:∀{a b:List AV} {aF o:Nat},bU af m S w a aF o->bU af m S w b aF (o+a.length)->bU af m S w (a++b) aF o
 | [],b,aF,o,_,h=>by simpa using h
 | x::a,b,aF,o,h1,h2=>by
  exact ⟨h1.1,acF h1.2 (by rw [yz] at h2;rw [show o+1+a.length=o+(a.length+1) by omega];exact h2)⟩
def L3:∀{a b:List AV},aG a=true->aG b=true->aG (a++b)=true
 | [],_,_,h=>h
 | x::a,b,h1,h2=>by
  simp only [aG,xk,yg] at h1 ⊢;exact ⟨h1.1,L3 h1.2 h2⟩
def acG:∀{a:List AV} {us:List yh},ay af m S w a us->a.length=us.length
 | [],us,h=>by simp only [ay] at h;subst h;rfl
 | x::a,us,h=>by
  obtain ⟨u,r,rfl,_,h2⟩:=h;simp [acG h2]
end
section
variable {H:Type} {enc:yC×yh->H} {P:y5} {w:yi} {held:Bool} {af:Nat->Nat} {m:Mp} {S:Nat->Prop}
def ahc {a:uA} {i:Nat} {u:yh} (h:w.cell? (a.add i)=some u):w.cell? ⟨a.block,a.off+i,none⟩=some u/\(i=0->a.spot=none):=by
 by_cases hi:i=0
 ·subst hi;have e:a.add 0=a:=by simp [Addr.add]
  rw [e] at h;have hs:a.spot=none:=by
   cases hq:a.spot with
   | none=>rfl
   | some k=>
    unfold World.cell? at h
    split at h
    ·simp [hq] at h
    all_goals simp_all
  obtain ⟨b,o,sp⟩:=a;simp only at hs;subst hs;exact ⟨by simpa using h,fun _=>rfl⟩
 ·have e:a.add i=⟨a.block,a.off+i,none⟩:=by simp [Addr.add,hi]
  rw [e] at h;exact ⟨h,fun h=>(hi h).elim⟩
def aqb (a:uA) (i:Nat):(a.add i).block=a.block:=by unfold Addr.add;split<;>rfl
def at0 (a:uA) (i:Nat):(a.add i).off=a.off+i:=by unfold Addr.add;split<;>simp_all
def Mg {α β:Type} {f:α->Option β}:∀{l:List α} {r:List β},l.mapM f=some r->r.length=l.length
 | [],r,h=>by simp only [tQ,wV,yd] at h;subst h;rfl
 | x::l,r,h=>by
  rw [ui] at h
  cases h1:f x with
  | none=>simp [h1] at h
  | some y=>
   cases h2:l.mapM f with
   | none=>simp [h1,h2] at h
   | some ys=>
    simp only [h1,h2,xR,vE,wV,yd] at h;subst h;simp [Mg h2]
def ar5 {c:AV} {l:List AV} {b o:Nat} (h:bU af m S w (c::l) b o):b<w.heap.size:=by
 obtain ⟨⟨u,h1,_⟩,_⟩:=h;unfold World.cell? at h1
 cases hq:w.heap[b]? with
 | none=>simp [hq] at h1
 | some o=>exact (xz.1 hq).1
def Rx {e:yC} {bq sz:Nat} {f:xG H->List AV} {a:uA} (eT:0<sz)
  (IH:∀(cs:List yh) (d:xG H) (ps:List wG),DataW.trod enc P w 0 (fun _=>true) held bq e cs=some (d,ps)->ay af m S w (f d) cs/\aG (f d)=true/\cs.length=sz):
  ∀(k j:Nat) (xs:List (xG H×List wG)),(xW j k).mapM (fun i=>(w.cells? 0 (a.add (i*sz)) sz).bind (DataW.trod enc P w 0 (fun _=>true) held bq e))=some xs->
   bU af m S w ((xs.map (·.1)).flatMap f) a.block (a.off+j*sz)/\aG ((xs.map (·.1)).flatMap f)=true/\((xs.map (·.1)).flatMap f).length=k*sz/\xs.length=k/\(0<k->a.spot=none\/0<j)
 | 0,j,xs,h=>by
  simp only [yaO,tQ,wV,yd] at h;subst h;simp [bU,aG]
 | k+1,j,xs,h=>by
  rw [vN,ui] at h
  cases h1:(w.cells? 0 (a.add (j*sz)) sz) with
  | none=>simp [h1] at h
  | some us=>
   cases h2:DataW.trod enc P w 0 (fun _=>true) held bq e us with
   | none=>simp [h1,h2] at h
   | some x=>
    cases h3:(xW (j+1) k).mapM (fun i=>(w.cells? 0 (a.add (i*sz)) sz).bind (DataW.trod enc P w 0 (fun _=>true) held bq e)) with
    | none=>simp [h1,h2,h3] at h
    | some ys=>
     simp only [h1,h2,h3,xR,vE,wV,yd] at h;subst h;obtain ⟨d,ps⟩:=x;obtain ⟨g1,g2,g3⟩:=IH us d ps h2;obtain ⟨k1,k2,k3,k4,_⟩:=Rx eT IH k (j+1) ys h3;obtain ⟨_,c2,c3⟩:=World.cells?_some h1;have hl:(f d).length=sz:=by rw [acG g1,g3]
     have hc:∀(i:Nat) (u:yh),us[i]? =some u->w.cell? ⟨a.block,a.off+j*sz+i,none⟩=some u:=by
      intro i u hi;have Gn:i<sz:=by grind
      have h:=c3 i Gn;rw [hi] at h
      have:=(ahc h).1
      rwa [aqb,at0] at this
     refine ⟨?_,?_,?_,by simp [k4],?_⟩
     ·simp only [xa,yaG];refine acF (Et _ us _ g1 hc) ?_
      grind
     ·simp only [xa,yaG];exact L3 g2 k2
     ·grind
     ·intro _;rcases xp j with hj | hj
      ·left
       have h:=c3 0 eT;have hu:us[0]? =some us[0]:=by simp_all
       rw [hu] at h
       have:=(ahc h).2 rfl
       subst hj;simpa [Addr.add] using this
      ·grind
def abQ {bq N:Nat} {n:Nat} {cs:List yh} (hN:cs.length=N)
  (IH:∀(t:yC) (cs:List yh) (d:xG H) (ps:List wG),flat P n t=true->DataW.trod enc P w 0 (fun _=>true) held bq t cs=some (d,ps)->ay af m S w (cS P n t d) cs/\aG (cS P n t d)=true/\cs.length=P.cellsOf t):
  ∀(r:List uM) (o:Nat) (xs:List (xG H×List wG)),El P (fun u=>flat P n u) r o N=true->r.mapM (fun f=>DataW.trod enc P w 0 (fun _=>true) held bq f.type ((cs.drop f.offset).take (P.cellsOf f.type)))=some xs->
   ay af m S w ((r.zip (xs.map (·.1))).flatMap fun x=>cS P n x.1.type x.2) (cs.drop o)/\aG ((r.zip (xs.map (·.1))).flatMap fun x=>cS P n x.1.type x.2)=true
 | [],o,xs,hf,h=>by
  have:=yp hf
  rw [xf (by omega)];simp [ay,aG]
 | f::r,o,xs,hf,h=>by
  simp only [El,yg] at hf;obtain ⟨e1,e2,e3⟩:=hf;have e1:=yp e1;rw [ui] at h
  cases h2:DataW.trod enc P w 0 (fun _=>true) held bq f.type ((cs.drop f.offset).take (P.cellsOf f.type)) with
  | none=>simp [h2] at h
  | some x=>
   cases h3:r.mapM (fun f=>DataW.trod enc P w 0 (fun _=>true) held bq f.type ((cs.drop f.offset).take (P.cellsOf f.type))) with
   | none=>simp [h2,h3] at h
   | some ys=>
    simp only [h2,h3,xR,vE,wV,yd] at h;subst h;obtain ⟨d,ps⟩:=x;obtain ⟨g1,g2,g3⟩:=IH f.type _ d ps e2 h2;obtain ⟨k1,k2⟩:=abQ hN IH r _ ys e3 h3;rw [e1] at g1;have e:cs.drop o=(cs.drop o).take (P.cellsOf f.type)++cs.drop (o+P.cellsOf f.type):=by rw [<-vX];exact (xS _ _).symm
    rw [e];exact ⟨lj g1 k1,L3 g2 k2⟩
def ahd {bq sz:Nat} {e:yC} {f:xG H->List AV} {cs:List yh}
  (IH:∀(cs:List yh) (d:xG H) (ps:List wG),DataW.trod enc P w 0 (fun _=>true) held bq e cs=some (d,ps)->ay af m S w (f d) cs/\aG (f d)=true/\cs.length=sz):
  ∀(k j:Nat) (xs:List (xG H×List wG)),(xW j k).mapM (fun i=>DataW.trod enc P w 0 (fun _=>true) held bq e ((cs.drop (i*sz)).take sz))=some xs->cs.length=(j+k)*sz->
   ay af m S w ((xs.map (·.1)).flatMap f) (cs.drop (j*sz))/\aG ((xs.map (·.1)).flatMap f)=true
 | 0,j,xs,h,hl=>by
  simp only [yaO,tQ,wV,yd] at h;subst h;rw [xf (by rw [hl];simp)]
  simp [ay,aG]
 | k+1,j,xs,h,hl=>by
  rw [vN,ui] at h
  cases h2:DataW.trod enc P w 0 (fun _=>true) held bq e ((cs.drop (j*sz)).take sz) with
  | none=>simp [h2] at h
  | some x=>
   cases h3:(xW (j+1) k).mapM (fun i=>DataW.trod enc P w 0 (fun _=>true) held bq e ((cs.drop (i*sz)).take sz)) with
   | none=>simp [h2,h3] at h
   | some ys=>
    simp only [h2,h3,xR,vE,wV,yd] at h;subst h;obtain ⟨d,ps⟩:=x;obtain ⟨g1,g2,g3⟩:=IH _ d ps h2;obtain ⟨k1,k2⟩:=ahd IH k (j+1) ys h3 (by rw [hl];congr 1;omega)
    have e:cs.drop (j*sz)=(cs.drop (j*sz)).take sz++cs.drop ((j+1)*sz):=by rw [wJ,Nat.one_mul,<-vX];exact (xS _ _).symm
    rw [e];exact ⟨lj g1 k1,L3 g2 k2⟩
def adD (hS:∀b,b<w.heap.size->S b):∀(n bq:Nat) (t:yC) (cs:List yh) (d:xG H) (ps:List wG),flat P n t=true->DataW.trod enc P w 0 (fun _=>true) held bq t cs=some (d,ps)->
  ay af m S w (cS P n t d) cs/\aG (cS P n t d)=true/\cs.length=P.cellsOf t
 | 0,bq,t,cs,d,ps,hf,h=>by simp [flat] at hf
 | n+1,0,t,cs,d,ps,hf,h=>by simp [DataW.trod] at h
 | n+1,bq+1,t,cs,d,ps,hf,h=>by
  have IH:=adD hS n bq;unfold DataW.trod at h;simp only [flat] at hf
  split at h
  ·rename_i hu;simp only [hu] at hf;simp only [yd,yo] at h;obtain ⟨rfl,rfl⟩:=h;simp only [cS,hu];exact ⟨by simp [ay,ah],by simp [aG,bg],by rw [yp hf];rfl⟩
  ·rename_i hu;simp only [hu] at hf
   split at h
   ·rename_i hk;simp only [yd,yo] at h;obtain ⟨rfl,rfl⟩:=h;simp only [cS,hu];refine ⟨?_,by simp [aG,bg],by rw [yp hf];rfl⟩
    rw [hk.1];simp [ay,ah]
   ·cases h
  ·rename_i hu;simp only [hu] at hf
   split at h
   ·rename_i hk;simp only [yd,yo] at h;obtain ⟨rfl,rfl⟩:=h;simp only [cS,hu];refine ⟨?_,by simp [aG,bg],by rw [yp hf];rfl⟩
    rw [hk.1];simp [ay,ah]
   ·cases h
  ·rename_i hu;simp only [hu] at hf
   split at h
   ·simp only [yd,yo] at h;obtain ⟨rfl,rfl⟩:=h;simp only [cS,hu];refine ⟨?_,by simp [aG,bg],by rw [yp hf];rfl⟩
    simp only [ay,ah];exact ⟨_,_,rfl,⟨_,rfl,rfl⟩,rfl⟩
   ·cases h
  ·rename_i hu;simp [hu] at hf
  ·rename_i hu;simp [hu] at hf
  ·rename_i hu;simp only [hu,yg] at hf;simp only [yd,yo] at h;obtain ⟨rfl,rfl⟩:=h;simp only [cS,hu];exact ⟨by simp [ay,ah],by simp [aG,bg],by rw [yp hf.1];rfl⟩
  ·rename_i e a len cap hu;simp only [hu,yg] at hf;obtain ⟨f1,f2,f3⟩:=hf;have eT:=zo.1 f2;simp only at h
   split at h
   case isFalse=>cases h
   rename_i hc;simp only [xE] at h
   cases h1:(xe len).mapM fun i=>(w.cells? 0 (a.add (i*P.cellsOf e)) (P.cellsOf e)).bind (DataW.trod enc P w 0 (fun _=>true) held bq e) with
   | none=>rw [h1] at h;simp at h
   | some jI=>
    cases h2:(xe (cap-len)).mapM fun j=>(w.cells? 0 (a.add ((len+j)*P.cellsOf e)) (P.cellsOf e)).bind (DataW.trod enc P w 0 (fun _=>true) held bq e) with
    | none=>rw [h1] at h;simp [h2] at h
    | some rest=>
     rw [h1] at h;simp only [xR,h2,wM,yd,yo] at h;obtain ⟨rfl,rfl⟩:=h;have hIH:=fun cs d ps h=>IH e cs d ps f3 h
     rw [yaj] at h1 h2;obtain ⟨k1,k2,k3,k4,k5⟩:=Rx (af:=af) (m:=m) (S:=S) eT hIH len 0 jI h1;have hrl:rest.length=cap-len:=by rw [Mg h2];simp
     have ib:cap≠0->a.spot=none:=by
      intro Yw;rcases xp len with h0 | h0
      ·subst h0;simp only [ye,Nat.sub_zero] at h2;obtain ⟨_,_,_,_,q5⟩:=Rx (af:=af) (m:=m) (S:=S) eT hIH cap 0 rest h2;exact (q5 (by omega)).resolve_right (by omega)
      ·exact (k5 h0).resolve_right (by omega)
     simp only [cS,hu,yr];refine ⟨?_,by simp [aG,bg],by rw [yp f1];rfl⟩
     simp only [ay];refine ⟨_,_,rfl,?_,rfl⟩;simp only [ah];by_cases Yw:cap=0
     ·subst Yw;have kz:len=0:=by omega
      subst kz;have he:jI=[]:=yB k4;subst he;exact .inr ⟨a,rfl,rfl,rfl⟩
     ·obtain ⟨b,o,sp⟩:=a;have ib:=ib Yw;simp only at ib;subst ib;refine .inl ⟨b,o,cap,by rw [k4],by omega,fun hx=>?_,?_,k2,by simpa using k1⟩
      ·have:rest.length=0:=by simpa using hx
       omega
      ·generalize hg:((jI.map (·.1)).flatMap fun x=>cS P n e x)=l at k1
       cases l with
       | nil=>exact .inl rfl
       | cons c l=>exact .inr (hS b (ar5 k1))
  ·rename_i sL x1 K6 fs hu;simp only [hu] at hf
   split at h
   case isFalse=>cases h
   rename_i hlen
   cases h1:fs.toList.mapM fun f=>DataW.trod enc P w 0 (fun _=>true) held bq f.type ((sL.drop f.offset).take (P.cellsOf f.type)) with
   | none=>rw [h1] at h;simp at h
   | some xs=>
    rw [h1] at h;simp only [wM,yd,yo] at h;obtain ⟨rfl,rfl⟩:=h;obtain ⟨k1,k2⟩:=abQ hlen (fun t cs d ps hf h=>IH t cs d ps hf h) fs.toList 0 xs hf h1;simp only [cS,hu];exact ⟨by simpa using k1,k2,hlen⟩
  ·rename_i sL x1 K6 k e hu;simp only [hu,yg] at hf;obtain ⟨f1,f2⟩:=hf;have f1:=yp f1
   split at h
   case isFalse=>cases h
   rename_i hlen
   cases h1:(xe k).mapM fun i=>DataW.trod enc P w 0 (fun _=>true) held bq e ((sL.drop (i*P.cellsOf e)).take (P.cellsOf e)) with
   | none=>rw [h1] at h;simp at h
   | some xs=>
    rw [h1] at h;simp only [wM,yd,yo] at h;obtain ⟨rfl,rfl⟩:=h;rw [yaj] at h1;obtain ⟨k1,k2⟩:=ahd (af:=af) (m:=m) (S:=S) (fun cs d ps h=>IH e cs d ps f2 h) k 0 xs h1 (by rw [hlen,f1];simp)
    simp only [cS,hu];exact ⟨by simpa using k1,k2,hlen⟩
  all_goals first
   | (cases h;done)
   | (simp_all;done)
def lH (P:y5) (n:Nat) (t:yC) (d:xG H):AV:=
 match P.underlying t with
 | some (.struct _) | some (.array _ _)=> .agg (cS P n t d)
 | _=>(cS P n t d).headD .undef
def at1 (hS:∀b,b<w.heap.size->S b) {n base:Nat} {t:yC} {v:yh} {d:xG H} {ps:List wG} (hf:flat P n t=true) (h:DataW.Trod enc P w 0 (fun _=>true) held t v d ps)
  (hv:Value.okWide P w .any base t v):ah af m S w (lH P n t d) v/\bg (lH P n t d)=true:=by
 obtain ⟨bq,h⟩:=h;obtain ⟨h1,h2,h3⟩:=adD (af:=af) (m:=m) hS n bq t _ d ps hf h;have one:v.cells=#[v]->(∀fs,P.underlying t≠some (.struct fs))->(∀k e,P.underlying t≠some (.array k e))->ah af m S w (lH P n t d) v/\bg (lH P n t d)=true:=by
  intro hc Gi hna;have e:lH P n t d=(cS P n t d).headD .undef:=by
   unfold lH
   grind
  rw [e];rw [hc] at h1;generalize cS P n t d=l at h1 h2
  cases l with
  | nil=>simp [ay] at h1
  | cons x l=>
   simp only [ay] at h1;simp only [aG,yg] at h2
   grind
 cases n with
 | zero=>simp [flat] at hf
 | succ n=>
  unfold Value.okWide at hv;simp only [flat] at hf
  cases hu:P.underlying t with
  | none=>simp [hu] at hf
  | some ty=>
   rw [hu] at hv hf;cases ty<;>simp only [Bool.false_eq_true] at hf hv
   case struct fs=>
    obtain ⟨cs,rfl,_,_⟩:=hv;have e:lH P (n+1) t d= .agg (cS P (n+1) t d):=by simp only [lH,hu]
    rw [e];exact ⟨by simp only [ah];exact ⟨cs,rfl,h1⟩,by simpa only [bg] using h2⟩
   case array k e=>
    obtain ⟨cs,rfl,_,_⟩:=hv;have e:lH P (n+1) t d= .agg (cS P (n+1) t d):=by simp only [lH,hu]
    rw [e];exact ⟨by simp only [ah];exact ⟨cs,rfl,h1⟩,by simpa only [bg] using h2⟩
   all_goals
    refine one ?_ (by simp [hu]) (by simp [hu])
    cases v with
    | agg cs=>exfalso;simp only [Cell.okWide,Cell.ok,hu] at hv
    | _=>rfl
def zD (P:y5) (n:Nat):List yC->List (xG H)->List AV
 | t::ts,d::ds=>lH P n t d::zD P n ts ds
 | _,_=>[]
def adE (hS:∀b,b<w.heap.size->S b) {n base:Nat}:∀{ts:List yC} {vs:List yh} {ds:List (xG H)} {ps:List wG},ts.all (flat P n)=true->DataW.TrodAll enc P w 0 (fun _=>true) held ts vs ds ps->
  (∀(j:Nat) t v,ts[j]? =some t->vs[j]? =some v->Value.okWide P w .any base t v)->ay af m S w (zD P n ts ds) vs/\aG (zD P n ts ds)=true
 | [],[],[],_,_,_,_=>by simp [zD,ay,aG]
 | t::ts,v::vs,d::ds,ps,hf,h,hv=>by
  simp only [ybg,yg] at hf;obtain ⟨p,q,h1,h2,_⟩:=h;obtain ⟨a1,a2⟩:=at1 (af:=af) (m:=m) hS hf.1 h1 (hv 0 t v rfl rfl);obtain ⟨b1,b2⟩:=adE hS hf.2 h2 (fun j t v h1 h2=>hv (j+1) t v h1 h2);simp only [zD,ay,aG,yg]
  grind
 | [],_::_,_,_,_,h,_=>by simp [DataW.TrodAll] at h
 | [],[],_::_,_,_,h,_=>by simp [DataW.TrodAll] at h
 | _::_,[],_,_,_,h,_=>by simp [DataW.TrodAll] at h
 | _::_,_::_,[],_,_,h,_=>by simp [DataW.TrodAll] at h
end
end
section
open Go
section
variable {H:Type} {enc:yC×yh->H} {P:y5} {w w':yi} {held:Bool} {sp:Nat->Bool}
def ao0 (hs:∀b,b<w.heap.size->w'.heap[b]? =w.heap[b]?) {a:uA} {u:yh} (h:w.cell? a=some u):w'.cell? a=some u:=by
 have hb:a.block<w.heap.size:=by
  unfold World.cell? at h
  cases hq:w.heap[a.block]? with
  | none=>simp [hq] at h
  | some o=>exact (xz.1 hq).1
 unfold World.cell? at h ⊢;rw [hs _ hb];exact h
def aou (hs:∀b,b<w.heap.size->w'.heap[b]? =w.heap[b]?) {base:Nat} {a:uA} {n:Nat} {us:List yh} (h:w.cells? base a n=some us):w'.cells? base a n=some us:=by
 unfold World.cells? at h ⊢
 split at h
 ·rename_i hb;rw [yM hb];exact mapM_carry h (fun x y _ _ hx=>ao0 hs hx)
 ·cases h
def at2 {a:uA} {n:Nat} (h:0<n):MemPlace.cell a.block (a.off+0)∈MemPlace.row a n:=by
 unfold MemPlace.row;exact List.mem_map.2 ⟨0,List.mem_range.2 h,rfl⟩
def abR (hs:∀b,b<w.heap.size->w'.heap[b]? =w.heap[b]?):∀(n bq:Nat) (t:yC) (cs:List yh) (d:xG H) (ps:List wG),flat P n t=true->DataW.trod enc P w 0 (fun _=>true) held bq t cs=some (d,ps)->
  (∀p,p∈ps->sp p.block=true)->DataW.trod enc P w' 0 sp held bq t cs=some (d,ps)
 | 0,bq,t,cs,d,ps,hf,h,hp=>by simp [flat] at hf
 | n+1,0,t,cs,d,ps,hf,h,hp=>by simp [DataW.trod] at h
 | n+1,bq+1,t,cs,d,ps,hf,h,hp=>by
  have IH:=abR hs n bq;have elem:∀{e:yC} {a:uA} {y:xG H×List wG},flat P n e=true->(w.cells? 0 a (P.cellsOf e)).bind (DataW.trod enc P w 0 (fun _=>true) held bq e)=some y->(∀p,p∈y.2->sp p.block=true)->
    (w'.cells? 0 a (P.cellsOf e)).bind (DataW.trod enc P w' 0 sp held bq e)=some y:=by
   intro e a y he h hq
   cases h1:w.cells? 0 a (P.cellsOf e) with
   | none=>simp [h1] at h
   | some us=>
    rw [h1] at h;rw [aou hs h1];simp only [xR] at h ⊢;obtain ⟨d,ps⟩:=y;exact IH e us d ps he h hq
  unfold DataW.trod at h ⊢;simp only [flat] at hf
  split at h
  ·exact h
  ·exact h
  ·exact h
  ·exact h
  ·rename_i hu;simp [hu] at hf
  ·rename_i hu;simp [hu] at hf
  ·exact h
  ·rename_i e a len cap hu;simp only [hu,yg] at hf;obtain ⟨f1,f2,f3⟩:=hf;have eT:=zo.1 f2;simp only at h ⊢
   split at h
   case isFalse=>cases h
   rename_i hc;rw [yM hc];simp only [xE] at h
   cases h1:(xe len).mapM fun i=>(w.cells? 0 (a.add (i*P.cellsOf e)) (P.cellsOf e)).bind (DataW.trod enc P w 0 (fun _=>true) held bq e) with
   | none=>rw [h1] at h;simp at h
   | some jI=>
    cases h2:(xe (cap-len)).mapM fun j=>(w.cells? 0 (a.add ((len+j)*P.cellsOf e)) (P.cellsOf e)).bind (DataW.trod enc P w 0 (fun _=>true) held bq e) with
    | none=>rw [h1] at h;simp [h2] at h
    | some rest=>
     rw [h1] at h;simp only [xR,h2,wM,yd,yo] at h;obtain ⟨rfl,rfl⟩:=h;have k1:((xe len).mapM fun i=>(w'.cells? 0 (a.add (i*P.cellsOf e)) (P.cellsOf e)).bind (DataW.trod enc P w' 0 sp held bq e))=some jI:=
      mapM_carry h1 (fun x y _ hy hx=>elem f3 hx (fun p hq=>hp p (vv _ (uz.2 ⟨y,uN _ hy,hq⟩))))
     have k2:((xe (cap-len)).mapM fun j=>(w'.cells? 0 (a.add ((len+j)*P.cellsOf e)) (P.cellsOf e)).bind (DataW.trod enc P w' 0 sp held bq e))=some rest:=
      mapM_carry h2 (fun x y _ hy hx=>elem f3 hx (fun p hq=>hp p (vv _ (uz.2 ⟨y,vv _ hy,hq⟩))))
     have hr:(if sp a.block=true then (xe (cap-len)).mapM fun j=>(w'.cells? 0 (a.add ((len+j)*P.cellsOf e)) (P.cellsOf e)).bind (DataW.trod enc P w' 0 sp held bq e) else some [])=some rest:=by
      by_cases ib:sp a.block=true
      ·rw [yM ib];exact k2
      ·rw [yx ib];have h0:¬0<(jI.length+rest.length)*P.cellsOf e:=fun h0=>ib (hp _ (uN _ (at2 h0)))
       have hz:jI.length+rest.length=0:=by
        rcases xp (jI.length+rest.length) with h | h
        ·exact h
        ·exact (h0 (yae h eT)).elim
       have:rest=[]:=yB (by omega)
       rw [this]
     rw [k1];simp only [xR];rw [hr];rfl
  ·rename_i sL x1 K6 fs hu;simp only [hu] at hf
   split at h
   case isFalse=>cases h
   rename_i hlen;rw [yM hlen]
   cases h1:fs.toList.mapM fun f=>DataW.trod enc P w 0 (fun _=>true) held bq f.type ((sL.drop f.offset).take (P.cellsOf f.type)) with
   | none=>rw [h1] at h;simp at h
   | some xs=>
    rw [h1] at h;simp only [wM,yd,yo] at h;obtain ⟨rfl,rfl⟩:=h;have Gh:∀(r:List uM) (o:Nat),El P (fun u=>flat P n u) r o (P.cellsOf t)=true->∀f,f∈r->flat P n f.type=true:=by
     intro r
     induction r with
     | nil=>intro o _ f hm;cases hm
     | cons g r ih=>
      intro o hq f hm;simp only [El,yg] at hq;rcases List.mem_cons.1 hm with rfl | hm
      ·exact hq.2.1
      ·exact ih _ hq.2.2 f hm
    have k1:(fs.toList.mapM fun f=>DataW.trod enc P w' 0 sp held bq f.type ((sL.drop f.offset).take (P.cellsOf f.type)))=some xs:=
     mapM_carry h1 (fun f y hm hy hx=>IH _ _ y.1 y.2 (Gh _ _ hf f hm) hx (fun p hq=>hp p (uz.2 ⟨y,hy,hq⟩)))
    rw [k1];rfl
  ·rename_i sL x1 K6 k e hu;simp only [hu,yg] at hf
   split at h
   case isFalse=>cases h
   rename_i hlen;rw [yM hlen]
   cases h1:(xe k).mapM fun i=>DataW.trod enc P w 0 (fun _=>true) held bq e ((sL.drop (i*P.cellsOf e)).take (P.cellsOf e)) with
   | none=>rw [h1] at h;simp at h
   | some xs=>
    rw [h1] at h;simp only [wM,yd,yo] at h;obtain ⟨rfl,rfl⟩:=h;have k1:((xe k).mapM fun i=>DataW.trod enc P w' 0 sp held bq e ((sL.drop (i*P.cellsOf e)).take (P.cellsOf e)))=some xs:=
     mapM_carry h1 (fun i y _ hy hx=>IH _ _ y.1 y.2 hf.2 hx (fun p hq=>hp p (uz.2 ⟨y,hy,hq⟩)))
    rw [k1];rfl
  all_goals first
   | (cases h;done)
   | (simp_all;done)
def aa0 (hs:∀b,b<w.heap.size->w'.heap[b]? =w.heap[b]?) {n:Nat}:∀{ts:List yC} {vs:List yh} {ds:List (xG H)} {ps:List wG},ts.all (flat P n)=true->DataW.TrodAll enc P w 0 (fun _=>true) held ts vs ds ps->
  (∀p,p∈ps->sp p.block=true)->DataW.TrodAll enc P w' 0 sp held ts vs ds ps
 | [],[],[],ps,_,h,_=>by simpa only [DataW.TrodAll] using h
 | t::ts,v::vs,d::ds,ps,hf,h,hp=>by
  simp only [ybg,yg] at hf;obtain ⟨p,q,⟨bq,h1⟩,h2,rfl⟩:=h;exact ⟨p,q,⟨bq,abR hs n bq t _ d p hf.1 h1 (fun x hx=>hp x (uN _ hx))⟩,aa0 hs hf.2 h2 (fun x hx=>hp x (vv _ hx)),rfl⟩
 | [],_::_,_,_,_,h,_=>by simp [DataW.TrodAll] at h
 | [],[],_::_,_,_,h,_=>by simp [DataW.TrodAll] at h
 | _::_,[],_,_,_,h,_=>by simp [DataW.TrodAll] at h
 | _::_,_::_,[],_,_,h,_=>by simp [DataW.TrodAll] at h
end
end
section
open Go Go.ChangeShapes Go.WideShapes
section
variable {H:Type} {enc:yC×yh->H} {P:y5} {W W':yi}
def aqc (hc:Calm W W') (may:wG->Prop):W.keptBut W' may:=by
 refine ⟨hc.os,hc.output,fun i hi=>?_⟩;rw [hc.same i hi]
 cases hq:W.heap[i]? with
 | none=>rfl
 | some o=>cases o<;>simp
def aov (hc:Calm W W') {b off:Nat} (hb:b<W.heap.size):W'.frozen? ⟨b,off,none⟩=W.frozen? ⟨b,off,none⟩:=by
 unfold World.frozen?;simp only;rw [hc.same b hb]
def ar6 {fn:Func} {s:ybE} {apart fresh handsOn again:Bool} {args:Array yh} {ds gs:List (xG H)} {before:List wG} {n:Nat} {tb:yC}
  (hW:DataW.Whole enc P fn.params.toList s.vars apart W args.toList ds gs before) (hv:s.vars=[]) (NG:fn.params.toList.all (flat P n)=true) (hc:Calm W W')
  (kY:s.fn H (ds++gs)={results:=[.lit (.bool true)],args:=ds}) (FX:fn.resultTypes=#[tb]) (kF:P.underlying tb=some .bool):
  s.post enc P fn apart fresh handsOn again W args (.bool true) W':=by
 have aW:=hW.lt;have At:=hW;obtain ⟨p,q,hA,hV,hpq,hz,hn⟩:=hW;rw [hv] at hV;have hq:gs=[]/\q=[]:=by
  cases gs with
  | nil=>exact ⟨rfl,by simpa only [DataW.TrodVars] using hV⟩
  | cons g gs=>simp [DataW.TrodVars] at hV
 obtain ⟨rfl,rfl⟩:=hq;have hbp:before=p:=by rw [hpq];simp
 subst hbp;have fV:∀sp:Nat->Bool,(∀p∈before,sp p.block=true)->DataW.TrodAll enc P W' 0 sp true fn.params.toList args.toList ds before:=fun sp h=>aa0 hc.same NG hA h
 have ajb:∀(b:Nat) (sp:Nat->Bool) (hd:Bool),DataW.TrodAll enc P W' b sp hd fn.resultTypes.toList ((Value.bool true).resultList fn.resultTypes.size) [.lit (.bool true)] []:=by
  intro b sp hd;rw [FX];refine ⟨[],[],⟨1,?_⟩,rfl,rfl⟩;simp [DataW.trod,kF,Value.cells]
 have hold:∀p∈before,(fun b=>decide (b<W.heap.size)) p.block=true:=fun p hp=>by simpa using aW p hp
 have ajc:∀sp:Nat->Bool,DataW.TrodVars enc P W' sp s.vars ([]:List (xG H)) []:=fun sp=>by rw [hv];rfl
 refine ⟨ds,[],before,[],before,[],At,by rw [kY];exact ajb _ _ _,by rw [kY];exact fV _ hold,by rw [kY];exact ajc _,aqc hc _,fun _=>?_⟩
 refine ⟨?_,[.lit (.bool true)]++ds,[],[]++before++[],⟨[]++before,[],trodAll_append (fV _ (fun _ _=>rfl)) (ajb _ _ _),ajc _,rfl,?_,?_⟩,?_⟩
 ·intro j t r h1 h2;rw [FX] at h1 h2
  cases j with
  | zero=>
   simp only [List.getElem?_toArray,vP,yd] at h1;simp only [Value.resultList,List.size_toArray,yz,yK,xE,ye,vP,yd] at h2;subst h1;subst h2;simp [Value.okWide,kF,Cell.okWide,Cell.ok]
  | succ j=>simp at h1
 ·intro b off hp;have hp:MemPlace.cell b off∈before:=by simpa using hp
  rw [aov hc (b:=b) (aW _ hp)];exact hz b off hp
 ·intro ha
  have:=hn ha
  simpa using this
 ·intro p hp _;simpa using hp
def aqd {O:bl} {n k:Nat} {fn:Func} {s:ybE} {apart fresh handsOn again:Bool} {base:Nat} {args:Array yh} {ds gs:List (xG H)} {before:List wG} {tb:yC}
  (hp:eD O n (zD O.P k fn.params.toList ds) (.bool true)) (iQ:O.w0=W) (kY:O.P.funcs[O.af n]? =some fn) (hb:fn.body.isSome=true) (sO:fn.name≠ "runtime.NumGoroutine")
  (aS:∀(j:Nat) t v,fn.params[j]? =some t->args[j]? =some v->Value.okWide O.P W .any base t v)
  (hW:DataW.Whole enc O.P fn.params.toList s.vars apart W args.toList ds gs before) (hv:s.vars=[]) (NG:fn.params.toList.all (flat O.P k)=true)
  (hfs:s.fn H (ds++gs)={results:=[.lit (.bool true)],args:=ds}) (FX:fn.resultTypes=#[tb]) (kF:O.P.underlying tb=some .bool):
  Calls O.P (O.af n) args W fun e W'=>∃v,e= .returned v/\s.post enc O.P fn apart fresh handsOn again W args v W':=by
 have hA:=hW;obtain ⟨p,q,hA,_⟩:=hA;obtain ⟨h1,h2⟩:=adE (af:=O.af) (m:=eY) (S:=fun b=>b<W.heap.size) (fun b hb=>hb) NG hA (fun j t v a b=>aS j t v (by simpa using a) (by simpa using b));have hi:=hp W (fun b=>b<W.heap.size) args ⟨fun b _=>by rw [iQ],by rw [iQ];exact yu _⟩ (fun b hb=>hb) h1 h2
 have key:∀e W',adn O W (fun b=>b<W.heap.size) (.bool true) e W'->∃v,e= .returned v/\s.post enc O.P fn apart fresh handsOn again W args v W':=by
  rintro e W' ⟨u,S',rfl,hc,_,_,_,hr⟩;simp only [nd,iw,ah] at hr;obtain ⟨_,_,hu,_⟩:=hr;subst hu;exact ⟨_,rfl,ar6 hW hv NG hc hfs FX kF⟩
 rcases hi with ⟨_,hi⟩ | ⟨u,w',hi,_⟩
 ·exact callsIn_wide.1 (hi.mono key)
 ·rw [My kY hb sO] at hi;cases hi
end
end
section
namespace J1
open Go Go.Proofs
noncomputable def O (W:yi):bl:=⟨Tryz.prog,VE.aC,zW sS.af,VE.prog,NF sS.b7 sS.hd,W⟩
def acH {w:yi} {k:Nat} {os:Array Go.Obj}:Calm w (Go.Sort.grow (w.drewN k) os):=HS (Lib.below_grow w.heap.size w (yu _) k os)
def adF {W w:yi} (h:Lib.TabIs Tryz.prog W "internal/strconv.uint64pow10" .u64 Lib.pow10Tab) (hg:Bf (O W) w):Lib.TabIs Tryz.prog w "internal/strconv.uint64pow10" .u64 Lib.pow10Tab:=by
 unfold Lib.TabIs World.var? at h ⊢
 cases hn:Tryz.prog.globalNamed "internal/strconv.uint64pow10" with
 | none=>rw [hn] at h;exact h
 | some g=>
  rw [hn] at h;simp only [xR] at h ⊢;have hb:g<W.heap.size:=by
   cases hq:W.heap[g]? with
   | none=>rw [hq] at h;cases h
   | some o=>exact (xz.1 hq).1
  rw [hg.1 g hb];exact h
def aBv:∀args w,(callFunc 129 args).run Tryz.prog w= .ok (.enter 129 args) w:=enters_of Tryz.func129 (by kernel_rfl) rfl
def aBw:∀args w,(callFunc 154 args).run Tryz.prog w= .ok (.enter 154 args) w:=enters_of Tryz.func154 (by kernel_rfl) rfl
def aBx:∀args w,(callFunc 202 args).run Tryz.prog w= .ok (.enter 202 args) w:=enters_of Tryz.func202 (by kernel_rfl) rfl
def aBy:∀args w,(callFunc 203 args).run Tryz.prog w= .ok (.enter 203 args) w:=enters_of Tryz.func203 (by kernel_rfl) rfl
def aBz:∀args w,(callFunc 204 args).run Tryz.prog w= .ok (.enter 204 args) w:=enters_of Tryz.func204 (by kernel_rfl) rfl
def aBA:∀args w,(callFunc 178 args).run Tryz.prog w= .ok (.enter 178 args) w:=enters_of Tryz.func178 (by kernel_rfl) rfl
def aBB:∀args w,(callFunc 182 args).run Tryz.prog w= .ok (.enter 182 args) w:=enters_of Tryz.func182 (by kernel_rfl) rfl
def aBC:∀args w,(callFunc 183 args).run Tryz.prog w= .ok (.enter 183 args) w:=enters_of Tryz.func183 (by kernel_rfl) rfl
def aBD:∀args w,(callFunc 184 args).run Tryz.prog w= .ok (.enter 184 args) w:=enters_of Tryz.func184 (by kernel_rfl) rfl
def aBE:∀args w,(callFunc 192 args).run Tryz.prog w= .ok (.enter 192 args) w:=enters_of Tryz.func192 (by kernel_rfl) rfl
def aBF:∀args w,(callFunc 223 args).run Tryz.prog w= .ok (.enter 223 args) w:=enters_of Tryz.func223 (by kernel_rfl) rfl
def aBG:∀args w,(callFunc 167 args).run Tryz.prog w= .ok (.enter 167 args) w:=enters_of Tryz.func167 (by kernel_rfl) rfl
def at3 (b:Nat) (w:yi):(callFunc 198 #[.float .f64 b]).run Tryz.prog w= .ok (.value (.int .u64 b)) w:=by
 rw [run_callFunc_extern Tryz.func198 (by kernel_rfl) (by kernel_rfl) (by kernel_rfl) (e:=Extern.MathFloatBits.float64bits) (by kernel_rfl)];rfl
def aow (b:Nat) (w:yi):(callFunc 201 #[.int .u64 b]).run Tryz.prog w= .ok (.value (.float .f64 b)) w:=by
 rw [run_callFunc_extern Tryz.func201 (by kernel_rfl) (by kernel_rfl) (by kernel_rfl) (e:=Extern.MathFloatBits.float64frombits) (by kernel_rfl)];rfl
def aAf (W:yi) (n:Nat) (sp:List AV->Option AV):Prop:=∀av r,sp av=some r->eD (O W) n av r
section
variable {W:yi} {m:Int} (hm:W.cell? ⟨1,0,none⟩=some (.int .i64 m)) (ht:Lib.TabIs Tryz.prog W "internal/strconv.uint64pow10" .u64 Lib.pow10Tab)
include hm ht
def axx:aj3.lS (aAf W):=
 (Tr.jH (arW (O:=O W) (f:=184) (by rfl) aBD (fun s z w hl h=>(Tryz.strconv_Atoi s z hl h w).mono fun _ _ ⟨h1,t,h2⟩=>⟨h1,h2▸HS (Lib.bytesWorld_below _ _ _)⟩))
  (Tr.jH (aoY (O:=O W) (f:=204) (by rfl) aBz Tryz.strings_Repeat)
  (Tr.jH (arV (O:=O W) (f:=202) (by rfl) aBx (fun z w h0 h1 hg=>(Tryz.strconv_Itoa z h0 h1 w (adF ht hg)).mono fun _ _ ⟨h1,k,os,h2⟩=>⟨h1,h2▸acH⟩))
  (Tr.jH (anU (O:=O W) (f:=154) (by rfl) aBw Tryz.strings_CutPrefix)
  (Tr.jH (atK (O:=O W) (f:=129) (by rfl) aBv (a:=⟨1,0,none⟩) (m:=m) hm (fun s sep w hs hc=>Tryz.strings_Cut s sep m w hs hc))
  Tr.ja Tr.ja) Tr.ja) (Tr.jH (anR (O:=O W) (f:=203) (by rfl) aBy (fun z w hz hg=>(Tryz.anJ z hz w (adF ht hg)).mono fun _ _ ⟨h1,k,os,h2⟩=>⟨h1,h2▸acH⟩))
  Tr.ja Tr.ja)) (Tr.jH (anV (O:=O W) (f:=182) (by rfl) aBB Tryz.strings_HasPrefix)
  (Tr.jH (ap4 (O:=O W) (f:=178) (by rfl) aBA (fun x y w hx hy=>Tryz.bits_Mul64 x y hx hy w))
  Tr.ja Tr.ja) (Tr.jH (anQ (O:=O W) (f:=183) (by rfl) aBC Tryz.strings_TrimPrefix)
  Tr.ja Tr.ja))) (Tr.jH (ap7 (O:=O W) (f:=209) (by rfl) (fun x y b w h=>Tryz.bits_Sub64 x y b h w))
  (Tr.jH (arX (O:=O W) (f:=223) (by rfl) aBF (fun x w h0 h1=>Tryz.bits_LeadingZeros64 x w h0 h1))
  (Tr.jH (arU (O:=O W) (f:=192) (by rfl) aBE (fun s cs w hs pV ha=>Tryz.an8 s cs w hs pV ha))
  Tr.ja Tr.ja) (Tr.jH (ap6 (O:=O W) (f:=207) (by rfl) (fun x y c w h=>Tryz.bits_Add64 x y c h w))
  Tr.ja Tr.ja)) (Tr.jH (aoj (O:=O W) (f:=198) (by rfl) at3)
  (Tr.jH (ap5 (O:=O W) (f:=167) (by rfl) aBG (fun x w h0 h1=>Tryz.bits_Len64 x w h0 h1))
  Tr.ja Tr.ja) (Tr.jH (anO (O:=O W) (f:=201) (by rfl) aow)
  Tr.ja Tr.ja))))
def at4:eP (O W) where
 hint n f g h:=Tr.Cz (p:=fun f g=>zW sS.af g=f) (Q3 sS.awd) h
 mixed:=by kernel_rfl
 prog n F h:=Tr.Cz sS.atZ h
 aC n sp av r h hs:=Tr.Cz (axx hm ht) h av r hs
 Fl n sp hp ct av v aj aM h:=by cases h
end
end J1
end
section
def bD:List Int->Int
 | []=>0
 | a::r=>if a=0 then bD r else a
def abn {l:List Int} {i:Nat} (h:i<l.length):bD (l.drop i)=if l[i]=0 then bD (l.drop (i+1)) else l[i]:=by
 rw [yP h,bD]
def ni (lo hi:Int):List Int->Bool
 | []=>false
 | a::r=>if a<lo\/hi<a then true else ni lo hi r
def ajd (n:Nat) (lo hi:Int):List (List Int)->Int
 | []=>0
 | r::s=>if r.length≠n then 2 else if ni lo hi r=true then 3 else ajd n lo hi s
def aqe (s:List (List Int)):Int:=if s.length=0 then 12 else if 16<s.length then 5 else ajd s.length (-1000) 1000 s
def adG {lo hi:Int} {l:List Int} (h:ni lo hi l=false):∀i (df:i<l.length),lo<=l[i]/\l[i]<=hi:=by
 induction l with
 | nil=>intro i df;exact absurd df (Nat.not_lt_zero _)
 | cons a r ih=>
  simp only [ni] at h
  grind
def aqf {lo hi:Int} {l:List Int} (h:ni lo hi l=false):∀i,ni lo hi (l.take i)=false:=by
 induction l with
 | nil=>intro i;simp [ni]
 | cons a r ih=>
  intro i;simp only [ni] at h
  split at h
  ·grind
  ·rename_i hc
   cases i with
   | zero=>simp [ni]
   | succ i=>simp only [List.take_succ_cons,ni,hc,xg,ih h i]
end
section
def dv:List Int->Nat
 | []=>0
 | a::r=>a.toNat+1000000000*dv r
def mN:∀(a b:List Int),dv (a++b)=dv a+1000000000^a.length*dv b
 | [],b=>by simp [dv]
 | x::a,b=>by
  simp only [xk,dv,mN a b,yz,xd,xI]
  grind
def pk {l:List Int} (i:Nat):dv (l.take (i+1))=dv (l.take i)+1000000000^i*(l.getD i 0).toNat:=by
 by_cases h:i<l.length
 ·rw [xb h,mN,yE,xA (by omega)];simp [dv,y9,xM h]
 ·rw [yN (by omega),yN (by omega)]
  grind
abbrev dg (l:List Int):Prop:=ni 0 999999999 l=false
def ig {a b:List Int}:dg (a++b)↔dg a/\dg b:=by
 induction a with
 | nil=>simp [dg,ni]
 | cons x a ih=>
  simp only [dg,xk,ni] at ih ⊢
  grind
def lE {x:Int}:dg [x]↔0<=x/\x<1000000000:=by
 simp only [dg,ni]
 grind
def im {l:List Int} (h:dg l) (i:Nat):0<=l.getD i 0/\l.getD i 0<1000000000:=by
 by_cases hi:i<l.length
 ·have:=adG h i hi
  grind
 ·grind
def CD {l:List Int} (h:dg l) (i:Nat):dg (l.take i):=aqf h i
def jJ:∀{l:List Int},dg l->dv l<1000000000^l.length
 | [],_=>by simp [dv]
 | x::l,h=>by
  have h':dg ([x]++l):=h;obtain ⟨h1,h2⟩:=ig.1 h';have h1:=lE.1 h1
  have:=jJ h2
  simp only [dv,yz,xd];omega
def dY:List Int->List Int
 | []=>[]
 | a::r=>match dY r with | []=>if a=0 then [] else [a] | t::q=>a::t::q
def HU:∀l:List Int,dY (l++[0])=dY l
 | []=>rfl
 | a::l=>by simp only [xk,dY,HU l]
def L4 {a:Int} (h:a≠0):∀l:List Int,dY (l++[a])=l++[a]
 | []=>by simp [dY,h]
 | b::l=>by
  simp only [xk,dY,L4 h l]
  cases hq:l++[a] with
  | nil=>simp at hq
  | cons t q=>rfl
def zg:∀l:List Int,dv (dY l)=dv l
 | []=>rfl
 | a::l=>by
  have ih:=zg l;simp only [dY,dv]
  split
  ·rename_i h;rw [h] at ih
   split
   ·rename_i h0;subst h0;simp [dv,<-ih]
   ·simp [dv,<-ih]
  ·rename_i t q h;rw [h] at ih;simp only [dv] at ih ⊢;omega
def AT:∀{l:List Int},dg l->dg (dY l)
 | [],_=>rfl
 | a::l,h=>by
  have h':dg ([a]++l):=h;obtain ⟨h1,h2⟩:=ig.1 h';have ih:=AT h2;simp only [dY]
  split
  ·grind
  ·rename_i t q hq;rw [hq] at ih
   exact (ig (a:=[a]) (b:=t::q)).2 ⟨h1,ih⟩
def Mh:∀l:List Int,(dY l).length<=l.length
 | []=>yu _
 | a::l=>by
  have ih:=Mh l;simp only [dY]
  grind
def snoc {α:Type} (l:List α):l=[]\/∃m a,l=m++[a]:=by
 rcases List.eq_nil_or_concat l with h | ⟨m,a,h⟩
 ·grind
 ·grind
def aox:∀(n:Nat) (l:List Int),l.length=n->dY (dY l)=dY l:=by
 intro n
 induction n with
 | zero=>intro l h;rw [yB h];rfl
 | succ n ih=>
  intro l h;rcases snoc l with rfl | ⟨m,a,rfl⟩
  ·rfl
  ·by_cases h0:a=0
   ·subst h0;rw [HU]
    grind
   ·rw [L4 h0,L4 h0]
def ao1 (l:List Int):dY (dY l)=dY l:=aox _ l rfl
abbrev nz (l:List Int):Prop:=dY l=l
def Ez (l:List Int):nz (dY l):=ao1 l
def NH {l:List Int} (h:nz l) (hd:dg l) (h0:l≠[]):1000000000^(l.length-1)<=dv l:=by
 rcases snoc l with rfl | ⟨m,a,rfl⟩
 ·grind
 ·by_cases ha:a=0
  ·subst ha
   have:=Mh m
   have e:=congrArg tG h;rw [HU] at e
   grind
  ·rw [mN]
   have:=lE.1 (ig.1 hd).2
   simp only [dv,yG,uG,tH,xJ,yY];have h1:1<=a.toNat:=by omega
   have:=yZ (1000000000^m.length) h1
   omega
def ahe {l:List Int} (h:nz l) (hd:dg l) (h0:dv l=0):l=[]:=by
 by_cases hl:l=[]
 ·grind
 ·have:=NH h hd hl
  grind
def SS {a b:List Int} (ha:dg a) (hb:nz b) (cw:dg b) (h:a.length<b.length):dv a<dv b:=by
 have h1:=jJ ha;have h2:=NH hb cw (fun e=>by subst e;simp at h);have h3:1000000000^a.length<=1000000000^(b.length-1):=xh (by decide) (by omega);omega
def dU (m n:Nat):Int:=if m<n then -1 else if n<m then 1 else 0
def aiy {l:List Int} {i:Nat} (h:i<l.length):dv l=dv (l.take i)+1000000000^i*(l[i].toNat+1000000000*dv (l.drop (i+1))):=by
 have e:l=l.take i++l[i]::l.drop (i+1):=by simp_all
 have:dv l=dv (l.take i++l[i]::l.drop (i+1)):=congrArg dv e
 rw [this,mN,yE,xA (by omega)];rfl
def ahf {a b:List Int} {i:Nat} (ha:dg a) (hb:dg b) (h1:i<a.length) (h2:i<b.length) (he:a.drop (i+1)=b.drop (i+1)) (h:a[i]<b[i]):dv a<dv b:=by
 rw [aiy h1,aiy h2,he];have hl:=jJ (CD ha i);have g1:=adG ha i h1;have h3:a[i].toNat+1000000000*dv (b.drop (i+1))+1<=b[i].toNat+1000000000*dv (b.drop (i+1)):=by omega
 have:=yZ (1000000000^i) h3
 grind
def SU:∀{l:List Int} {j:Nat} {x:Int},j<l.length->dv (l.set j x)+1000000000^j*(l.getD j 0).toNat=dv l+1000000000^j*x.toNat
 | [],j,x,h=>by simp at h
 | a::l,0,x,_=>by simp [dv];omega
 | a::l,j+1,x,h=>by
  have ih:=SU (l:=l) (j:=j) (x:=x) (by simpa using h);simp only [yax,dv,yaq,xd]
  grind
def Nl {l:List Int} (h:dg l) {j:Nat} {x:Int} (hx:0<=x/\x<1000000000):dg (l.set j x):=by
 by_cases hj:j<l.length
 ·rw [List.set_eq_take_append_cons_drop,yM hj];have e:l=l.take (j+1)++l.drop (j+1):=(xS _ _).symm;have hd:dg (l.drop (j+1)):=by rw [e] at h;exact (ig.1 h).2
  exact ig.2 ⟨CD h j,(ig (a:=[x]) (b:=l.drop (j+1))).2 ⟨lE.2 hx,hd⟩⟩
 ·rw [List.set_eq_of_length_le (by omega)];exact h
def adH {l:List Int} {j m:Nat} {x:Int} (h:m≠j):(l.set j x).getD m 0=l.getD m 0:=by grind
def ar7 {V0 V V' p q A X Y o c s:Nat} (hs:s=o+A*X+c) (a7:V'+p*q*o=V+p*q*(s%1000000000)) (hv:V+p*q*c=V0+p*(A*Y)):
  V'+p*(q*1000000000)*(s/1000000000)=V0+p*(A*(Y+q*X)):=by
 have e:=Nat.mod_add_div s 1000000000;have e2:p*q*s=p*q*(s%1000000000)+p*(q*1000000000)*(s/1000000000):=by
  conv=>lhs;rw [<-e]
  rw [xI,<-xo (p*q),<-xo p q]
 have e3:p*q*s=p*q*o+p*q*(A*X)+p*q*c:=by rw [hs,xI,xI]
 have e4:p*(A*(Y+q*X))=p*(A*Y)+p*q*(A*X):=by
  rw [xI,xI,xo p q,<-xo A q X,xL A q,xo q A X]
 omega
def adI (n:Nat):dv (yj n 0)=0:=by
 induction n with
 | zero=>rfl
 | succ n ih=>simp [wo,dv,ih]
def adJ (n:Nat):dg (yj n 0):=by
 induction n with
 | zero=>rfl
 | succ n ih=>exact (ig (a:=[0]) (b:=yj n 0)).2 ⟨by decide,ih⟩
end
section
def bv (b:Nat):List Nat->Nat
 | []=>0
 | a::r=>a+b*bv b r
def lo (b:Nat) (l:List Nat):Prop:=∀x,x∈l->x<b
section
variable {b:Nat}
def A7 (a:Nat):bv b [a]=a:=by simp [bv]
def rI:∀(l m:List Nat),bv b (l++m)=bv b l+b^l.length*bv b m
 | [],m=>by simp [bv]
 | x::l,m=>by
  simp only [xk,bv,rI l m,yz,xd,xI]
  grind
def gd {l:List Nat} {i:Nat} (h:i<l.length):l[i]=l.getD i 0:=by simp_all
def SV {l:List Nat} {i:Nat} (h:l.length<=i):l.getD i 0=0:=by simp_all
def ju {l:List Nat} (i:Nat):bv b (l.take (i+1))=bv b (l.take i)+b^i*l.getD i 0:=by
 by_cases h:i<l.length
 ·rw [xb h,rI,yE,xA (by omega),A7,gd h]
 ·rw [yN (by omega),yN (by omega),SV (by omega),xJ,yY]
def Nn:lo b []:=fun _ h=>by simp at h
def Mi {l m:List Nat}:lo b (l++m)↔lo b l/\lo b m:=by
 constructor
 ·intro h;exact ⟨fun x hx=>h x (by simp [hx]),fun x hx=>h x (by simp [hx])⟩
 ·rintro ⟨h1,h2⟩ x hx;rcases List.mem_append.1 hx with h | h
  ·exact h1 x h
  ·exact h2 x h
def E1 {x:Nat}:lo b [x]↔x<b:=by simp [lo]
def gV (hb:0<b) {l:List Nat} (h:lo b l) (i:Nat):l.getD i 0<b:=by
 by_cases hi:i<l.length
 ·rw [<-gd hi];exact h _ (List.getElem_mem hi)
 ·grind
def A0 {l:List Nat} (h:lo b l) (i:Nat):lo b (l.take i):=fun x hx=>h x (List.mem_of_mem_take hx)
def ahg {l:List Nat} (h:lo b l) (i:Nat):lo b (l.drop i):=fun x hx=>h x (List.mem_of_mem_drop hx)
def ml {l:List Nat} (h:lo b l) {i x:Nat} (hx:x<b):lo b (l.set i x):=fun y hy=>by
 rcases List.mem_or_eq_of_mem_set hy with h1 | h1
 ·exact h y h1
 ·omega
def E2 (hb:0<b) (n:Nat):lo b (yj n 0):=fun x hx=>by
 grind
def E3 (n:Nat):bv b (yj n 0)=0:=by
 induction n with
 | zero=>rfl
 | succ n ih=>simp [wo,bv,ih]
def CE (n m:Nat):(yj n (0:Nat)).getD m 0=0:=by grind
def mr:∀{l:List Nat},lo b l->bv b l<b^l.length
 | [],_=>by simp [bv]
 | x::l,h=>by
  have h1:=h x (by simp);have h2:=mr (l:=l) (fun y hy=>h y (by simp [hy]));simp only [bv,yz,xd,xL _ b]
  have:=yZ b (show bv b l+1<=b^l.length from h2)
  grind
def nX:∀{l:List Nat} {i x:Nat},i<l.length->bv b (l.set i x)+b^i*l.getD i 0=bv b l+b^i*x
 | [],i,x,h=>by simp at h
 | a::l,0,x,_=>by simp [bv];omega
 | a::l,i+1,x,h=>by
  have ih:=nX (l:=l) (i:=i) (x:=x) (by simpa using h)
  have:=congrArg (fun t=>b*t) ih
  simp only [xI] at this;simp only [yax,bv,yaq,xd,xL _ b,xo] at this ⊢;omega
def pn {l:List Nat} {i m x:Nat} (h:i≠m):(l.set i x).getD m 0=l.getD m 0:=by simp_all
def ao2 {l:List Nat} {i x:Nat} (h:i<l.length):(l.set i x).getD i 0=x:=by simp_all
def Ig (l:List Nat) (i:Nat) (h:i<=l.length):bv b l=bv b (l.take i)+b^i*bv b (l.drop i):=by
 have:=rI (b:=b) (l.take i) (l.drop i)
 simp_all
def dZ:List Nat->List Nat
 | []=>[]
 | a::r=>match dZ r with | []=>if a=0 then [] else [a] | t::q=>a::t::q
def L5:∀l:List Nat,dZ (l++[0])=dZ l
 | []=>rfl
 | a::l=>by simp only [xk,dZ,L5 l]
def Em {a:Nat} (h:a≠0):∀l:List Nat,dZ (l++[a])=l++[a]
 | []=>by simp [dZ,h]
 | b::l=>by
  simp only [xk,dZ,Em h l]
  cases hq:l++[a] with
  | nil=>simp at hq
  | cons t q=>rfl
abbrev gQ (l:List Nat):Prop:=dZ l=l
def ao3:∀(n:Nat) (l:List Nat),l.length=n->∃i,i<=n/\dZ l=l.take i/\gQ (l.take i)/\bv b (l.take i)=bv b l:=by
 intro n
 induction n with
 | zero=>intro l h;rw [yB h];exact ⟨0,yu _,rfl,rfl,rfl⟩
 | succ n ih=>
  intro l h;rcases snoc l with rfl | ⟨m,a,rfl⟩
  ·grind
  ·have hm:m.length=n:=by simp_all
   by_cases h0:a=0
   ·subst h0;obtain ⟨i,h1,h2,h3,h4⟩:=ih m hm;have e:(m++[0]).take i=m.take i:=by grind
    refine ⟨i,by omega,by rw [L5,h2,e],by rw [e];exact h3,?_⟩
    rw [e,h4,rI];simp [bv]
   ·have e:(m++[a]).take (n+1)=m++[a]:=yN (by simp [hm]);exact ⟨n+1,yu _,by rw [e,Em h0],by rw [e];exact Em h0 m,by rw [e]⟩
def Mj (l:List Nat):∃i,i<=l.length/\dZ l=l.take i/\gQ (dZ l)/\bv b (dZ l)=bv b l:=by
 obtain ⟨i,h1,h2,h3,h4⟩:=ao3 (b:=b) l.length l rfl
 grind
def AU (l:List Nat):bv b (dZ l)=bv b l:=by
 obtain ⟨_,_,_,_,h⟩:=Mj (b:=b) l;exact h
def AW (l:List Nat):gQ (dZ l):=by
 obtain ⟨_,_,_,h,_⟩:=Mj (b:=2) l;exact h
def AX {l:List Nat} (h:lo b l):lo b (dZ l):=by
 obtain ⟨i,_,h2,_⟩:=Mj (b:=b) l;rw [h2];exact A0 h i
def aqg (l:List Nat):(dZ l).length<=l.length:=by
 obtain ⟨i,_,h2,_⟩:=Mj (b:=2) l
 grind
def Mz {l:List Nat} (h:gQ l) (h0:l≠[]):l.getD (l.length-1) 0≠0:=by
 rcases snoc l with rfl | ⟨m,a,rfl⟩
 ·grind
 ·intro ha
  have:a=0:=by
   grind
  subst this;have e:=congrArg tG h;rw [L5] at e
  have:=aqg m
  grind
def SW (hb:0<b) {l:List Nat} (h:gQ l) (h0:l≠[]):b^(l.length-1)<=bv b l:=by
 rcases snoc l with rfl | ⟨m,a,rfl⟩
 ·grind
 ·have ha:=Mz h h0;simp [y9] at ha;rw [rI,A7];simp only [yG,uG,tH]
  have:=yZ (b^m.length) (show 1<=a by omega)
  omega
def MV (hb:1<b) {l m:List Nat} (hl:lo b l) (hm:gQ m) (h:l.length<m.length):bv b l<bv b m:=by
 have h1:=mr hl;have h2:=SW (b:=b) (by omega) hm (fun e=>by subst e;simp at h);have h3:b^l.length<=b^(m.length-1):=xh (by omega) (by omega);omega
def ahh {l m:List Nat} (hl:lo b l) {i:Nat} (h1:i<l.length) (h2:i<m.length) (he:l.drop (i+1)=m.drop (i+1)) (h:l.getD i 0<m.getD i 0):bv b l<bv b m:=by
 rw [Ig l (i+1) (by omega),Ig m (i+1) (by omega),he,ju,ju]
 have:=mr (A0 hl i)
 have:=yZ (b^i) (show l.getD i 0+1<=m.getD i 0 from h)
 grind
def aqh (hb:1<b) {l:List Nat} {k:Nat} (h:gQ l) (hk:bv b l<b^k):l.length<=k:=by
 by_cases h0:l=[]
 ·grind
 ·have h1:=SW (b:=b) (by omega) h h0;have h2:b^(l.length-1)<b^k:=wR h1 hk
  have:=(Nat.pow_lt_pow_iff_right hb).1 h2
  omega
def abS {V v1 v2 vr U u0 u1 u2 ur p t r:Nat} (hV:V=(v1*b+v2)*p+vr) (hU:U=((u0*b+u1)*b+u2)*p+ur) (hur:ur<p)
  (ht:t*v1+r=u0*b+u1) (h:r*b+u2<t*v2):U/V<=t-1:=by
 have h1:U<t*V:=by
  have e:t*((v1*b+v2)*p)=((t*v1)*b+t*v2)*p:=by
   grind
  have h2:((u0*b+u1)*b+u2)+1<=(t*v1)*b+t*v2:=by rw [<-ht,wJ];omega
  have h3:=yV p h2;rw [hV,hU,xI,e]
  grind
 have rk:0<V:=by
  grind
 have:=(Nat.div_lt_iff_lt_mul rk).2 h1
 omega
def acI {V v1 v2 vr U u0 u1 u2 ur p t r:Nat} (hb:0<b) (hV:V=(v1*b+v2)*p+vr) (K7:vr<p) (hU:U=((u0*b+u1)*b+u2)*p+ur) (eZ:0<v1) (dH:v2<b) (kF:t<b)
  (ht:t*v1+r=u0*b+u1) (h:b<=r\/t*v2<=r*b+u2):t<=U/V+1:=by
 have h2:t*v2<=r*b+u2:=by
  rcases h with h | h
  ·have:=Nat.mul_le_mul (uX kF) (uX dH)
   have:=yV b h
   omega
  ·exact h
 have h3:t*(v1*b+v2)<=(u0*b+u1)*b+u2:=by
  rw [xI,<-xo,<-ht,wJ];omega
 have hp:0<p:=by omega
 have aIW:b<=v1*b:=Nat.le_mul_of_pos_left b eZ;have rk:0<V:=by
  have:=yae (show 0<v1*b+v2 by omega) hp
  omega
 rcases xp t with h0 | h0
 ·grind
 ·obtain ⟨s,rfl⟩:∃s,t=s+1:=⟨t-1,by omega⟩;have h4:s*V<=U:=by
   have h5:V<=(v1*b+v2+1)*p:=by grind
   have h6:=yZ s h5;have h7:s*(v1*b+v2+1)<=(s+1)*(v1*b+v2):=by
    grind
   have h8:=yV p (Nat.le_trans h7 h3)
   grind
  exact Nat.succ_le_succ ((yan rk).2 h4)
def QS {V v1 v2 vr U u0 u1 u2 ur p:Nat} (hV:V=(v1*b+v2)*p+vr) (hU:U=((u0*b+u1)*b+u2)*p+ur) (hur:ur<p) (Au:u2<b) (eZ:0<v1):U/V<=(u0*b+u1)/v1:=by
 by_cases rk:V=0
 ·grind
 ·refine (yan eZ).2 ?_;have h1:=Nat.div_mul_le_self U V;generalize U/V=q at h1 ⊢;have h2:q*v1*(b*p)<=q*V:=by
   rw [hV,xo]
   grind
  have h3:U<(u0*b+u1+1)*(b*p):=by
   have:(u0*b+u1)*b+u2+1<=(u0*b+u1+1)*b:=by grind
   have:=yV p this
   grind
  have h4:q*v1*(b*p)<(u0*b+u1+1)*(b*p):=by omega
  have:=tL h4
  omega
def acJ {V v1 v2 vr U u0 u1 u2 ur p:Nat} (hV:V=(v1*b+v2)*p+vr) (hU:U=((u0*b+u1)*b+u2)*p+ur) (K7:vr<p) (dH:v2<b) (h:U<b*V):u0<=v1:=by
 refine Nat.le_of_lt_succ ?_;have h1:V<(v1+1)*(b*p):=by
  have:v1*b+v2+1<=(v1+1)*b:=by grind
  have:=yV p this
  grind
 have h2:u0*(b*(b*p))<=U:=by
  grind
 have h3:=yZ b (uX h1);have e:b*((v1+1)*(b*p))=(v1+1)*(b*(b*p)):=by grind
 rw [e] at h3;have h4:u0*(b*(b*p))<(v1+1)*(b*(b*p)):=wR h2 (yU h h3);exact tL h4
end
end
section
section
variable {P:aK} {L:Lib} {f:cA} {F:Nat->cA}
def B1 (f:cA) (F:Nat->cA):Prop:=∀c s r,f c s=some r->∃n,F n c s=some r
def Mon (F:Nat->cA):Prop:=∀n m,n<=m->Le (F n) (F m)
def LL (h:B1 f F) (n:Nat) (av:List AV) (r:AV) (hr:bL P L f n av=some r):∃k,bL P L (F k) n av=some r:=by
 unfold bL at hr ⊢
 cases hL:L.pure n with
 | some sp=>exact ⟨0,by simpa only [hL] using hr⟩
 | none=>
  simp only [hL] at hr ⊢
  cases hP:P n with
  | none=>simp [hP] at hr
  | some G=>
   simp only [hP] at hr ⊢
   cases hf:f G.body ⟨dX 0 av,[],0,0⟩ with
   | none=>simp [hf] at hr
   | some q=>
    obtain ⟨k,hk⟩:=h _ _ _ hf
    grind
def Q4 (h:B1 f F) (hp:Hp) (ct:Nat) (n:Nat) (av:List AV) (r:AV×Hp×Nat) (hr:il P L f hp ct n av=some r):∃k,il P L (F k) hp ct n av=some r:=by
 unfold il at hr ⊢
 cases hL:L.heap n with
 | some sp=>exact ⟨0,by simpa only [hL] using hr⟩
 | none=>
  simp only [hL] at hr ⊢
  cases hP:P n with
  | none=>simp [hP] at hr
  | some G=>
   simp only [hP] at hr ⊢
   cases hf:f G.body ⟨dX 0 av,hp,ct,ct⟩ with
   | none=>simp [hf] at hr
   | some q=>
    obtain ⟨k,hk⟩:=h _ _ _ hf
    grind
def abo (h:B1 f F) (hm:Mon F) (hp:Hp) (ct:Nat) (l:Nat) (xs:List AV) (r:AV×Hp×Nat) (hr:nQ f hp ct l xs=some r):∃k,nQ (F k) hp ct l xs=some r:=by
 have key:∃k,∀g,Le (F k) g->nQ g hp ct l xs=some r:=by
  unfold nQ at hr
  cases hl:au hp l with
  | none=>simp [hl] at hr
  | some o=>
   split at hr
   ·rename_i tm ps cM body pe oJ
    cases hb:rS tm ps xs with
    | none=>simp [hb] at hr
    | some tm'=>
     simp only [hb] at hr
     cases h1:f cM ⟨tm',hp,ct,ct⟩ with
     | none=>simp [h1] at hr
     | some q=>
      obtain ⟨k1,nA⟩:=h _ _ _ h1
      split at hr
      ·rename_i s1 Ua
       split at hr
       ·rename_i jP DG BO C9 Ai ajZ
        cases h2:f body ⟨s1.tm,a7 s1.hp l (.lp jP DG BO C9 1 Ai),s1.ct,s1.ct⟩ with
        | none=>simp [h2] at hr
        | some q2=>
         obtain ⟨k2,dh⟩:=h _ _ _ h2;refine ⟨max k1 k2,fun g hg=>?_⟩;have e1:=hg _ _ _ (hm k1 _ (ud k1 k2) _ _ _ nA);have e2:=hg _ _ _ (hm k2 _ (vU k1 k2) _ _ _ dh);unfold nQ
         grind
       ·simp at hr
      ·simp at hr
   ·simp at hr
 obtain ⟨k,hk⟩:=key;exact ⟨k,hk _ (fun _ _ _ h=>h)⟩
def abT (h:B1 f F) (hm:Mon F) (hp:Hp) (ct:Nat) (m:Md) (fv:AV) (xs:List AV) (r:AV×Hp×Nat) (hr:eB P L f hp ct m fv xs=some r):∃k,eB P L (F k) hp ct m fv xs=some r:=by
 unfold eB at hr ⊢
 split at hr
 ·rename_i n first cap
  cases m with
  | pure=>
   cases hz:cB deep hp (first++(xs++cap)) with
   | none=>simp [hz] at hr
   | some q=>
    simp only [hz] at hr ⊢
    cases hc:bL P L f n q.1 with
    | none=>simp [hc] at hr
    | some u=>
     obtain ⟨k,hk⟩:=LL h n q.1 u hc
     grind
  | own=>
   cases hz:cB deep hp (first++(xs++cap)) with
   | none=>simp [hz] at hr
   | some q=>
    simp only [hz] at hr ⊢
    cases hc:bL P L f n q.1 with
    | none=>simp [hc] at hr
    | some u=>
     obtain ⟨k,hk⟩:=LL h n q.1 u hc
     grind
  | heap=>exact Q4 h _ _ _ _ _ hr
  | dyn=>
   cases hz:aG (first++(xs++cap)) with
   | true=>
    simp only [hz,yA] at hr ⊢
    cases hc:bL P L f n (first++(xs++cap)) with
    | none=>simp [hc] at hr
    | some u=>
     obtain ⟨k,hk⟩:=LL h n _ u hc
     grind
   | false=>
    simp only [hz,yT] at hr ⊢;exact Q4 h _ _ _ _ _ hr
 ·split at hr
  ·exact abo h hm _ _ _ _ _ hr
  ·exact abo h hm _ _ _ _ _ hr
  ·simp at hr
 ·simp at hr
def ar8 (h:B1 f F) (hm:Mon F) (tm:Env) (hp:Hp) (ct:Nat) (o:Op) (r:AV×Hp×Nat) (hr:bf P L f tm hp ct o=some r):∃k,bf P L (F k) tm hp ct o=some r:=by
 unfold bf at hr ⊢
 split at hr
 ·exact abT h hm _ _ _ _ _ _ hr
 ·rename_i rs fv xs
  cases hc:eB P L f hp ct .dyn (aA tm fv) (dD tm xs) with
  | none=>simp [hc] at hr
  | some q=>
   obtain ⟨k,hk⟩:=abT h hm _ _ _ _ _ _ hc
   grind
 all_goals exact ⟨0,by simpa only using hr⟩
def Ry (h:B1 f F) (hm:Mon F):∀(ops:List a8) (s s':St),dI P L f ops s=some s'->∃k,dI P L (F k) ops s=some s'
 | [],s,s',hr=>⟨0,by simpa only [dI] using hr⟩
 | ⟨d,gd,o⟩::r,s,s',hr=>by
  simp only [dI] at hr ⊢
  split at hr
  ·rename_i hw
   cases ho:bf P L f s.tm s.hp s.ct o with
   | none=>simp [ho] at hr
   | some q=>
    obtain ⟨k1,nA⟩:=ar8 h hm _ _ _ _ _ ho;simp only [ho] at hr;obtain ⟨k2,dh⟩:=Ry h hm r _ _ hr;refine ⟨max k1 k2,?_⟩;rw [acB (hm k1 _ (ud k1 k2)) _ _ _ _ _ nA];exact LY (hm k2 _ (vU k1 k2)) r _ _ dh
  ·rename_i hw;exact Ry h hm r _ _ hr
  ·simp at hr
def Cv (h:B1 f F) (hm:Mon F):∀(c:VC) (s:St) (r:Ex×St),bH P L f c s=some r->∃k,bH P L (F k) c s=some r
 | .skip,s,r,hr=>⟨0,by simpa only [bH] using hr⟩
 | .aJ ops,s,r,hr=>by
  simp only [bH] at hr ⊢
  cases ho:dI P L f ops s with
  | none=>simp [ho] at hr
  | some s'=>
   obtain ⟨k,hk⟩:=Ry h hm _ _ _ ho
   grind
 | .seq a b,s,r,hr=>by
  simp only [bH] at hr ⊢
  cases ha:bH P L f a s with
  | none=>simp [ha] at hr
  | some q=>
   obtain ⟨k1,nA⟩:=Cv h hm a s q ha;obtain ⟨ex,s1⟩:=q
   cases ex with
   | normal=>
    simp only [ha] at hr;obtain ⟨k2,dh⟩:=Cv h hm b s1 r hr;refine ⟨max k1 k2,?_⟩;rw [qu (hm k1 _ (ud k1 k2)) a s _ nA];exact qu (hm k2 _ (vU k1 k2)) b s1 r dh
   | ret=>exact ⟨k1,by rw [nA];simpa only [ha] using hr⟩
   | exit id=>exact ⟨k1,by rw [nA];simpa only [ha] using hr⟩
 | .cond x a b,s,r,hr=>by
  simp only [bH] at hr ⊢
  split at hr
  ·rename_i t ht
   cases t with
   | true=>simp only [yA] at hr ⊢;exact Cv h hm a s r hr
   | false=>simp only [yT] at hr ⊢;exact Cv h hm b s r hr
  ·simp at hr
 | .aF id a,s,r,hr=>by
  simp only [bH] at hr ⊢
  cases ha:bH P L f a s with
  | none=>simp [ha] at hr
  | some q=>
   obtain ⟨k,hk⟩:=Cv h hm a s q ha
   grind
 | .kp live,s,r,hr=>⟨0,by simpa only [bH] using hr⟩
 | .fz ts,s,r,hr=>⟨0,by simpa only [bH] using hr⟩
 | .loop live a,s,r,hr=>by
  simp only [bH] at hr ⊢
  cases ha:bH P L f a (aI live s) with
  | none=>simp [ha] at hr
  | some q=>
   obtain ⟨k1,nA⟩:=Cv h hm a _ q ha;obtain ⟨ex,s1⟩:=q
   cases ex with
   | normal=>
    simp only [ha] at hr;obtain ⟨k2,dh⟩:=h _ _ _ hr;refine ⟨max k1 k2,?_⟩;rw [qu (hm k1 _ (ud k1 k2)) a _ _ nA];exact hm k2 _ (vU k1 k2) _ _ _ dh
   | ret=>exact ⟨k1,by rw [nA];simpa only [ha] using hr⟩
   | exit id=>exact ⟨k1,by rw [nA];simpa only [ha] using hr⟩
 | .rf fv ps cM body,s,r,hr=>by
  simp only [bH] at hr ⊢
  split at hr
  ·rename_i n first cap hx
   split at hr
   ·grind
   ·rename_i hL
    cases hc:il P L f ((s.ct,.lp s.tm ps cM body 0 .none)::s.hp) (s.ct+1) n (first++(.fn (.y s.ct) [] []::cap)) with
    | none=>simp [hc] at hr
    | some q=>
     obtain ⟨k,hk⟩:=Q4 h _ _ _ _ _ hc
     grind
  ·simp at hr
 | .exit id,s,r,hr=>⟨0,by simpa only [bH] using hr⟩
 | .ret,s,r,hr=>⟨0,by simpa only [bH] using hr⟩
end
section
variable (P:aK) (L:Lib)
noncomputable def D:cA:=fun c s=>@dite _ (∃r n,ev P L n c s=some r) (Classical.propDecidable _) (fun h=>some h.choose) (fun _=>none)
variable {P L}
def akR {c:VC} {s:St} {r:Ex×St} {n:Nat} (h:ev P L n c s=some r):D P L c s=some r:=by
 have hx:∃r n,ev P L n c s=some r:=⟨r,n,h⟩;unfold D;obtain ⟨m,hm⟩:=hx.choose_spec;have e1:=Sl P L (ud n m) _ _ _ h;have e2:=Sl P L (vU n m) _ _ _ hm
 grind
def Yx {c:VC} {s:St} {r:Ex×St} (h:D P L c s=some r):∃n,ev P L n c s=some r:=by
 unfold D at h;by_cases hx:∃r n,ev P L n c s=some r
 ·grind
 ·grind
def aBH (n:Nat):Le (ev P L n) (D P L):=fun _ _ _ h=>akR h
def aje:B1 (D P L) (ev P L):=fun _ _ _ h=>Yx h
def axy:Mon (ev P L):=fun _ _ h=>Sl P L h
def lP (c:VC) (s:St):D P L c s=bH P L (D P L) c s:=by
 cases h:D P L c s with
 | some r=>
  obtain ⟨n,hn⟩:=Yx h
  cases n with
  | zero=>rw [Is] at hn;cases hn
  | succ n=>rw [It] at hn;exact (qu (aBH n) c s r hn).symm
 | none=>
  cases hs:bH P L (D P L) c s with
  | none=>rfl
  | some r=>
   obtain ⟨n,hn⟩:=Cv aje axy c s r hs;rw [<-It] at hn;rw [akR hn] at h;cases h
def aiz {f:Nat} {av:List AV} {r:AV} (h:bL P L (D P L) f av=some r):∃n,Zj P L n f av=some r:=LL aje f av r h
end
end
section
open Go (IntKind BinOp UnOp)
section
variable {P:aK} {L:Lib}
structure Has (P:aK) (L:Lib) (n:Nat) (F:aV):Prop where
 pure:L.pure n=none
 heap:L.heap n=none
 code:P n=some F
noncomputable def jK (P:aK) (L:Lib) (r:Option (Ex×St)) (b:VC):Option (Ex×St):=match r with | some (.normal,s)=>D P L b s | r=>r
def mW (id:Nat) (r:Option (Ex×St)):Option (Ex×St):=match r with | some (.exit j,s)=>bif yv j id then some (.normal,s) else some (.exit j,s) | r=>r
noncomputable def Jn (P:aK) (L:Lib) (live:List Nat) (a:VC) (r:Option (Ex×St)):Option (Ex×St):=match r with | some (.normal,s)=>D P L (.loop live a) s | r=>r
def norm (r:Option St):Option (Ex×St):=match r with | some s=>some (.normal,s) | none=>none
noncomputable def NI (P:aK) (L:Lib) (v:AV) (a b:VC) (s:St):Option (Ex×St):=match v with | .bool t=>bif t then D P L a s else D P L b s | _=>none
def axz (s:St):D P L .skip s=some (.normal,s):=by rw [lP];rfl
def axA (id:Nat) (s:St):D P L (.exit id) s=some (.exit id,s):=by rw [lP];rfl
def aAg (s:St):D P L .ret s=some (.ret,s):=by rw [lP];rfl
def Yy (live:List Nat) (s:St):D P L (.kp live) s=some (.normal,aI live s):=by rw [lP];rfl
def aBI (ts:List Nat) (s:St):D P L (.fz ts) s=norm (py ts s):=by rw [lP];rfl
def aAh (ops:List a8) (s:St):D P L (.aJ ops) s=norm (dI P L (D P L) ops s):=by rw [lP];rfl
def kh (a b:VC) (s:St):D P L (.seq a b) s=jK P L (D P L a s) b:=by
 rw [lP,lP a];simp only [bH,jK]
 cases bH P L (D P L) a s with
 | none=>rfl
 | some q=>
  obtain ⟨e,s1⟩:=q
  cases e with
  | normal=>exact (lP b s1).symm
  | ret=>rfl
  | exit id=>rfl
def axB (x:X) (a b:VC) (s:St):D P L (.cond x a b) s=NI P L (aA s.tm x) a b s:=by
 rw [lP];simp only [bH,NI]
 cases aA s.tm x with
 | bool t=>
  cases t with
  | true=>exact (lP a s).symm
  | false=>exact (lP b s).symm
 | _=>rfl
def aAi (id:Nat) (a:VC) (s:St):D P L (.aF id a) s=mW id (D P L a s):=by
 rw [lP,lP a];simp only [bH,mW]
 cases bH P L (D P L) a s with
 | none=>rfl
 | some q=>obtain ⟨e,s1⟩:=q;cases e<;>rfl
def No (live:List Nat) (a:VC) (s:St):D P L (.loop live a) s=Jn P L live a (D P L a (aI live s)):=by
 rw [lP,lP a];simp only [bH,Jn]
 cases bH P L (D P L) a (aI live s) with
 | none=>rfl
 | some q=>obtain ⟨e,s1⟩:=q;cases e<;>rfl
def fB (s:St) (b:VC):jK P L (some (.normal,s)) b=D P L b s:=rfl
def at5 (s:St) (b:VC):jK P L (some (.ret,s)) b=some (.ret,s):=rfl
def at6 (id:Nat) (s:St) (b:VC):jK P L (some (.exit id,s)) b=some (.exit id,s):=rfl
def ahi (live:List Nat) (a:VC) (s:St):Jn P L live a (some (.normal,s))=D P L (.loop live a) s:=rfl
def at7 (live:List Nat) (a:VC) (s:St):Jn P L live a (some (.ret,s))=some (.ret,s):=rfl
def aua (live:List Nat) (a:VC) (id:Nat) (s:St):Jn P L live a (some (.exit id,s))=some (.exit id,s):=rfl
def aub (id:Nat) (s:St):mW id (some (.normal,s))=some (.normal,s):=rfl
def auc (id:Nat) (s:St):mW id (some (.ret,s))=some (.ret,s):=rfl
def Sn (id:Nat) (s:St):mW id (some (.exit id,s))=some (.normal,s):=by simp only [mW,wW,yA]
def aud {id j:Nat} (s:St) (h:j≠id):mW id (some (.exit j,s))=some (.exit j,s):=by
 have:yv j id=false:=by
  cases hq:yv j id with
  | false=>rfl
  | true=>exact absurd (yp hq) h
 simp only [mW,this,yT]
def axC (s:St):norm (some s)=some (.normal,s):=rfl
def axD:norm none=none:=rfl
def aue (a b:VC) (s:St):NI P L (.bool true) a b s=D P L a s:=rfl
def auf (a b:VC) (s:St):NI P L (.bool false) a b s=D P L b s:=rfl
noncomputable def Tw (P:aK) (L:Lib) (d:Option Nat) (r:List a8) (tm:Env) (base:Nat) (q:fY):Option St:=
 match q with | some (v,hp,ct)=>dI P L (D P L) r ⟨put d v tm,hp,ct,base⟩ | none=>none
noncomputable def C1 (P:aK) (L:Lib) (v:AV) (b:Bool) (d:Option Nat) (o:Op) (r:List a8) (s:St):Option St:=
 match v with
 | .bool c=>bif c==b then dI P L (D P L) (⟨d,none,o⟩::r) s else dI P L (D P L) r ⟨put d (.ae []) s.tm,s.hp,s.ct,s.base⟩
 | .ae []=>dI P L (D P L) r ⟨put d (.ae []) s.tm,s.hp,s.ct,s.base⟩
 | _=>none
def aug (s:St):dI P L (D P L) [] s=some s:=rfl
def ar9 (d:Option Nat) (o:Op) (r:List a8) (tm:Env) (hp:Hp) (ct base:Nat):
  dI P L (D P L) (⟨d,none,o⟩::r) ⟨tm,hp,ct,base⟩=Tw P L d r tm base (bf P L (D P L) tm hp ct o):=by
 simp only [dI,Tw]
 grind
def aqi (d:Option Nat) (t:Nat) (b:Bool) (o:Op) (r:List a8) (tm:Env) (hp:Hp) (ct base:Nat):
  dI P L (D P L) (⟨d,some (t,b),o⟩::r) ⟨tm,hp,ct,base⟩=C1 P L (ai tm t) b d o r ⟨tm,hp,ct,base⟩:=by
 simp only [dI,C1]
 cases ai tm t with
 | bool c=>
  simp only
  cases hc:(c==b) with
  | true=>simp only [yA]
  | false=>simp only [yT]
 | ae vs=>cases vs<;>rfl
 | _=>rfl
def auh (d:Option Nat) (r:List a8) (tm:Env) (base:Nat) (v:AV) (hp:Hp) (ct:Nat):Tw P L d r tm base (some (v,hp,ct))=dI P L (D P L) r ⟨put d v tm,hp,ct,base⟩:=rfl
def aAj (i:Nat) (v:AV) (tm:Env):put (some i) v tm=(i,v)::tm:=rfl
def aAk (v:AV) (tm:Env):put none v tm=tm:=rfl
def asa (d:Option Nat) (o:Op) (r:List a8) (s:St):C1 P L (.bool true) true d o r s=dI P L (D P L) (⟨d,none,o⟩::r) s:=rfl
def asb (d:Option Nat) (o:Op) (r:List a8) (s:St):C1 P L (.bool false) false d o r s=dI P L (D P L) (⟨d,none,o⟩::r) s:=rfl
def asc (d:Option Nat) (o:Op) (r:List a8) (tm:Env) (hp:Hp) (ct base:Nat):C1 P L (.bool true) false d o r ⟨tm,hp,ct,base⟩=dI P L (D P L) r ⟨put d (.ae []) tm,hp,ct,base⟩:=rfl
def asd (d:Option Nat) (o:Op) (r:List a8) (tm:Env) (hp:Hp) (ct base:Nat):C1 P L (.bool false) true d o r ⟨tm,hp,ct,base⟩=dI P L (D P L) r ⟨put d (.ae []) tm,hp,ct,base⟩:=rfl
def aui (b:Bool) (d:Option Nat) (o:Op) (r:List a8) (tm:Env) (hp:Hp) (ct base:Nat):C1 P L (.ae []) b d o r ⟨tm,hp,ct,base⟩=dI P L (D P L) r ⟨put d (.ae []) tm,hp,ct,base⟩:=rfl
def gF {j i:Nat} (h:j≠i):yv j i=false:=by
 cases hq:yv j i with
 | false=>rfl
 | true=>exact absurd (yp hq) h
def axE (tm:Env) (i:Nat):aA tm (.t i)=ai tm i:=rfl
def axF (tm:Env) (v:AV):aA tm (.c v)=v:=rfl
def aqj (tm:Env):dD tm []=[]:=rfl
def ao4 (tm:Env) (x:X) (r:List X):dD tm (x::r)=aA tm x::dD tm r:=rfl
def ase (i:Nat) (v:AV) (r:Env):ai ((i,v)::r) i=v:=by simp only [ai,wW,yA]
def aqk {j i:Nat} (v:AV) (r:Env) (h:j≠i):ai ((j,v)::r) i=ai r i:=by simp only [ai,gF h,yT]
def fR (i:Nat) (o:Obj) (r:Hp):au ((i,o)::r) i=some o:=by simp only [au,wW,yA]
def dn {j i:Nat} (o:Obj) (r:Hp) (h:j≠i):au ((j,o)::r) i=au r i:=by simp only [au,gF h,yT]
def adK (i:Nat) (o u:Obj) (r:Hp):a7 ((i,o)::r) i u=(i,u)::r:=by simp only [a7,wW,yA]
def acK {j i:Nat} (o u:Obj) (r:Hp) (h:j≠i):a7 ((j,o)::r) i u=(j,o)::a7 r i u:=by simp only [a7,gF h,yT]
def asf (i:Nat):dJ [] i=[]:=rfl
def adL (i:Nat) (o:Obj) (r:Hp):dJ ((i,o)::r) i=dJ r i:=by simp only [dJ,wW,yA]
def acL {j i:Nat} (o:Obj) (r:Hp) (h:j≠i):dJ ((j,o)::r) i=(j,o)::dJ r i:=by simp only [dJ,gF h,yT]
def rd (hp:Hp) (ct:Nat) (q:Option AV):fY:=match q with | some v=>some (v,hp,ct) | none=>none
def mk (hp:Hp) (ct:Nat) (q:Option (AV×Obj)):fY:=match q with | some (v,b)=>some (v,(ct,b)::hp,ct+1) | none=>none
def aBJ (hp:Hp) (ct:Nat) (v:AV):rd hp ct (some v)=some (v,hp,ct):=rfl
def aBK (hp:Hp) (ct:Nat) (v:AV) (b:Obj):mk hp ct (some (v,b))=some (v,(ct,b)::hp,ct+1):=rfl
def Tz (c a b:AV):Option AV:=match c with | .bool t=>some (bif t then a else b) | _=>none
def K8 (k:Nat->Option AV) (n:Option Nat):Option AV:=match n with | some i=>k i | none=>none
def ajf (r:Option (List AV)):Option AV:=match r with | some cs=>some (.agg cs) | none=>none
def Kc (ne:Bool) (r:Option Bool):Option AV:=match r with | some b=>some (.bool (ne !=b)) | none=>none
def aBL:AV->Option AV
 | .ptr id o=>some (.ptr id o)
 | .b6 cs=>some (.b6 cs)
 | .fn f a b=>some (.fn f a b)
 | _=>none
def Kd (i:Nat):AV->Option AV | .ae vs=>vs[i]? | _=>none
section
variable {f:cA} {tm:Env} {hp:Hp} {ct:Nat}
def axG (x:X):bf P L f tm hp ct (.cz x)=some (aA tm x,hp,ct):=rfl
def auj (c a b:X):bf P L f tm hp ct (.pick c a b)=rd hp ct (Tz (aA tm c) (aA tm a) (aA tm b)):=by
 rfl
def asg (z:List AV) (ps:List (Nat×Nat×X)):bf P L f tm hp ct (.gk z ps)=rd hp ct (ajf (fill tm z ps)):=by
 rfl
def aAl (sz:Nat) (ag:Bool) (x:X):bf P L f tm hp ct (.ld sz ag x)=rd hp ct (jc hp sz ag (aA tm x)):=rfl
def auk (x:X):bf P L f tm hp ct (.Jw x)=rd hp ct (aBL (aA tm x)):=by
 rfl
def axH (op:BinOp) (x y:X):bf P L f tm hp ct (.bin op x y)=rd hp ct (binOp op (aA tm x) (aA tm y)):=rfl
def aAm (ne:Bool) (k:PH) (x y:X):bf P L f tm hp ct (.eq ne k x y)=rd hp ct (Kc ne (jM k (aA tm x) (aA tm y))):=by
 rfl
def aAn (op:UnOp) (x:X):bf P L f tm hp ct (.un op x)=rd hp ct (unOp op (aA tm x)):=rfl
def aAo (k:Conv) (x:X):bf P L f tm hp ct (.cv k x)=rd hp ct (pG k (aA tm x)):=rfl
def axI (g:Fr) (a b:List X):bf P L f tm hp ct (.DF g a b)=some (.fn g (dD tm a) (dD tm b),hp,ct):=rfl
def axJ (k:Cut) (x:X) (lo hi:Option X):bf P L f tm hp ct (.dO k x lo hi)=rd hp ct (ff hp k (aA tm x) tm lo hi):=rfl
def axK (k:Nat) (x:X):bf P L f tm hp ct (.off k x)=rd hp ct (I8 k (aA tm x)):=rfl
def axL (o sz:Nat) (ag:Bool) (x:X):bf P L f tm hp ct (.KC o sz ag x)=rd hp ct (Nx o sz ag (aA tm x)):=rfl
def axM (sz:Nat) (x i:X):bf P L f tm hp ct (.aY sz x i)=rd hp ct (K8 (fun j=>jG sz j (aA tm x)) (dE (aA tm i))):=by
 rfl
def axN (n sz:Nat) (x i:X):bf P L f tm hp ct (.Gc n sz x i)=rd hp ct (K8 (fun j=>Ny n sz j (aA tm x)) (dE (aA tm i))):=by
 rfl
def axO (x i:X):bf P L f tm hp ct (.kU x i)=rd hp ct (K8 (fun j=>mT j (aA tm x)) (dE (aA tm i))):=by
 rfl
def axP (n sz:Nat) (ag:Bool) (x i:X):bf P L f tm hp ct (.Gd n sz ag x i)=rd hp ct (K8 (fun j=>Nz n sz ag j (aA tm x)) (dE (aA tm i))):=by
 rfl
def axQ (i:Nat) (x:X):bf P L f tm hp ct (.ext i x)=rd hp ct (Kd i (aA tm x)):=by
 rfl
def axR (k:Nat) (x:X):bf P L f tm hp ct (.len k x)=rd hp ct (gI hp k (aA tm x)):=rfl
def axS (sz:Nat) (x:X):bf P L f tm hp ct (.box sz x)=mk hp ct (cR tm hp ct (.box sz x)):=rfl
def aul (n sz:Nat) (z:List AV) (ps:List (Nat×Nat×X)):bf P L f tm hp ct (.cW n sz z ps)=mk hp ct (cR tm hp ct (.cW n sz z ps)):=rfl
def axT (sz by':Nat) (z:List AV) (l c:X):bf P L f tm hp ct (.gO sz by' z l c)=mk hp ct (cR tm hp ct (.gO sz by' z l c)):=rfl
def axU:bf P L f tm hp ct .Ah=some (.map ct,(ct,.mp true [] [])::hp,ct+1):=rfl
def axV (x:X):bf P L f tm hp ct (.pT x)=mk hp ct (cR tm hp ct (.pT x)):=rfl
def aAp (sz:Nat) (x v:X):bf P L f tm hp ct (.st sz x v)=cI tm hp ct (.st sz x v):=rfl
def axW (sz by':Nat) (s x:X):bf P L f tm hp ct (.aR sz by' s x)=cI tm hp ct (.aR sz by' s x):=rfl
def NJ (hp:Hp) (ct:Nat) (r:Option AV):fY:=match r with | some v=>some (shut v,hp,ct) | none=>none
def Ph (hp:Hp) (ct:Nat) (r:Option AV):fY:=match r with | some v=>some (own hp ct v) | none=>none
def TA (P:aK) (L:Lib) (f:cA) (ct n:Nat) (q:Option (List AV×Hp)):fY:=match q with | some (av,hp)=>NJ hp ct (bL P L f n av) | none=>none
def TB (P:aK) (L:Lib) (f:cA) (ct n:Nat) (q:Option (List AV×Hp)):fY:=match q with | some (av,hp)=>Ph hp ct (bL P L f n av) | none=>none
def TC (P:aK) (L:Lib) (f:cA) (hp:Hp) (ct:Nat) (fv:AV) (xs:List AV):fY:=eB P L f hp ct .pure fv xs
def TD (P:aK) (L:Lib) (f:cA) (hp:Hp) (ct:Nat) (fv:AV) (xs:List AV):fY:=eB P L f hp ct .own fv xs
def ash (g:X) (xs:List X):bf P L f tm hp ct (.call .pure g xs)=TC P L f hp ct (aA tm g) (dD tm xs):=rfl
def asi (g:X) (xs:List X):bf P L f tm hp ct (.call .own g xs)=TD P L f hp ct (aA tm g) (dD tm xs):=rfl
def asj (g:X) (xs:List X):bf P L f tm hp ct (.call .heap g xs)=eB P L f hp ct .heap (aA tm g) (dD tm xs):=rfl
def aum (n:Nat) (first cap xs:List AV):TC P L f hp ct (.fn (.f n) first cap) xs=TA P L f ct n (cB deep hp (first++(xs++cap))):=by
 simp only [TC,eB,TA,NJ]
 cases cB deep hp (first++(xs++cap)) with
 | none=>rfl
 | some q=>cases bL P L f n q.1<;>rfl
def aun (n:Nat) (first cap xs:List AV):TD P L f hp ct (.fn (.f n) first cap) xs=TB P L f ct n (cB deep hp (first++(xs++cap))):=by
 simp only [TD,eB,TB,Ph]
 cases cB deep hp (first++(xs++cap)) with
 | none=>rfl
 | some q=>cases bL P L f n q.1<;>rfl
def auo (n:Nat) (av:List AV):TA P L f ct n (some (av,hp))=NJ hp ct (bL P L f n av):=rfl
def aup (n:Nat) (av:List AV):TB P L f ct n (some (av,hp))=Ph hp ct (bL P L f n av):=rfl
def auq (v:AV):NJ hp ct (some v)=some (shut v,hp,ct):=rfl
def axX (v:AV):Ph hp ct (some v)=some (own hp ct v):=rfl
def Pj (hp:Hp) (r:Option AV):Option AV:=match r with | some v=>result hp v | none=>none
def gM (rs:List RV) (q:Option (Ex×St)):Option AV:=
 match q with
 | some (.normal,s) | some (.ret,s)=>Pj s.hp (iU s rs)
 | _=>none
def aH {n:Nat} {F:aV} (h:Has P L n F) (av:List AV):bL P L f n av=gM F.fO (f F.body ⟨dX 0 av,[],0,0⟩):=by
 simp only [bL,h.pure,h.code]
 cases hq:f F.body ⟨dX 0 av,[],0,0⟩ with
 | none=>rfl
 | some q=>
  obtain ⟨e,s⟩:=q
  cases e with
  | normal=>rfl
  | ret=>rfl
  | exit id=>rfl
def axY (rs:List RV) (s:St):gM rs (some (.normal,s))=Pj s.hp (iU s rs):=rfl
def axZ (rs:List RV) (s:St):gM rs (some (.ret,s))=Pj s.hp (iU s rs):=rfl
def ax0 (v:AV):Pj hp (some v)=result hp v:=rfl
def Yz (r:RV) (s:St):iU s [r]=results1 s r:=by
 simp only [iU,lk];cases results1 s r<;>rfl
def akS (r:Option (List AV)):Option AV:=match r with | some vs=>some (.ae vs) | none=>none
def aBM (r q:RV) (l:List RV) (s:St):iU s (r::q::l)=akS (lk s (r::q::l)):=by
 simp only [iU,lk];cases results1 s r<;>cases results1 s q<;>cases lk s l<;>rfl
def ajg (r:Option AV) (l:Option (List AV)):Option (List AV):=match r,l with | some v,some vs=>some (v::vs) | _,_=>none
def asl (s:St):lk s []=some []:=rfl
def aql (r:RV) (l:List RV) (s:St):lk s (r::l)=ajg (results1 s r) (lk s l):=rfl
def aur (v:AV) (vs:List AV):ajg (some v) (some vs)=some (v::vs):=rfl
def ax1 (vs:List AV):akS (some vs)=some (.ae vs):=rfl
def TE (i:Nat) (s:St):results1 s (.t i)=some (ai s.tm i):=rfl
def aAq (a:AV):dX 0 [a]=[(0,a)]:=rfl
def aAr (a b:AV):dX 0 [a,b]=[(0,a),(1,b)]:=rfl
def aAs (a b c:AV):dX 0 [a,b,c]=[(0,a),(1,b),(2,c)]:=rfl
def aAt (a b c d:AV):dX 0 [a,b,c,d]=[(0,a),(1,b),(2,c),(3,d)]:=rfl
def aAu (a b c d e:AV):dX 0 [a,b,c,d,e]=[(0,a),(1,b),(2,c),(3,d),(4,e)]:=rfl
def ao5 (k:y7) (n:Int):result hp (.int k n)=some (.int k n):=rfl
def aoy (b:Bool):result hp (.bool b)=some (.bool b):=rfl
def ao6 (s:List Nat):result hp (.str s)=some (.str s):=rfl
def aoz:result hp .aa=some .aa:=rfl
def ao7 (e:Bool) (n:Nat) (cs:List AV):result hp (.aw e n cs)=some (.aw e n cs):=rfl
def shut_int (k:y7) (n:Int):shut (.int k n)= .int k n:=rfl
def shut_bool (b:Bool):shut (.bool b)= .bool b:=rfl
def asm (s:List Nat):shut (.str s)= .str s:=rfl
def aqm:shut .aa= .aa:=rfl
def asn (e:Bool) (n:Nat) (cs:List AV):shut (.aw e n cs)= .aw e n cs:=rfl
def aso (e:Bool) (sz n:Nat) (cs:List AV):shut (.bn e sz n cs)= .aw e n cs:=rfl
def cd (cs:List AV):shut (.agg cs)= .agg cs:=rfl
def aus (g:Fr) (a b:List AV):shut (.fn g a b)= .fn g a b:=rfl
def me (vs:List AV):shut (.ae vs)= .ae (C6 vs):=rfl
def mc:C6 []=[]:=rfl
def mb (v:AV) (r:List AV):C6 (v::r)=bK v::C6 r:=rfl
def AP (k:y7) (n:Int):bK (.int k n)= .int k n:=rfl
def ao8 (b:Bool):bK (.bool b)= .bool b:=rfl
def aqn (s:List Nat):bK (.str s)= .str s:=rfl
def En:bK .aa= .aa:=rfl
def aqo (e:Bool) (n:Nat) (cs:List AV):bK (.aw e n cs)= .aw e n cs:=rfl
def aqp (e:Bool) (sz n:Nat) (cs:List AV):bK (.bn e sz n cs)= .aw e n cs:=rfl
def AQ (cs:List AV):bK (.agg cs)= .agg cs:=rfl
def YA (n:Nat) (r:List AV) (q:Option (AV×Hp)):Option (List AV×Hp):=match q with | some (v,hp)=>(match cB n hp r with | some (vs,fX)=>some (v::vs,fX) | none=>none) | none=>none
def akT (v:AV) (q:Option (List AV×Hp)):Option (List AV×Hp):=match q with | some (vs,hp)=>some (v::vs,hp) | none=>none
def asp (n:Nat):cB (n+1) hp []=some ([],hp):=rfl
def Rz (n:Nat) (v:AV) (r:List AV):cB (n+1) hp (v::r)=YA n r (freeze n hp v):=by
 simp only [cB,YA];cases freeze n hp v<;>rfl
def SX (n:Nat) (r:List AV) (v:AV):YA n r (some (v,hp))=akT v (cB n hp r):=by
 rfl
def SY (v:AV) (vs:List AV):akT v (some (vs,hp))=some (v::vs,hp):=rfl
def aut (n:Nat) (k:y7) (a:Int):freeze (n+1) hp (.int k a)=some (.int k a,hp):=rfl
def asq (n:Nat) (b:Bool):freeze (n+1) hp (.bool b)=some (.bool b,hp):=rfl
def auu (n:Nat) (s:List Nat):freeze (n+1) hp (.str s)=some (.str s,hp):=rfl
def asr (n:Nat):freeze (n+1) hp .aa=some (.aa,hp):=rfl
def auv (n:Nat) (e:Bool) (k:Nat) (cs:List AV):freeze (n+1) hp (.aw e k cs)=some (.aw e k cs,hp):=rfl
def ass (n:Nat) (cs:List AV):freeze (n+1) hp (.b6 cs)=some (.b6 cs,hp):=rfl
end
end
section
variable {hp:Hp}
def ax2 (a b:AV):Tz (.bool true) a b=some a:=rfl
def ax3 (a b:AV):Tz (.bool false) a b=some b:=rfl
def aAv (k:Nat->Option AV) (n:Nat):K8 k (some n)=k n:=rfl
def rE (k:y7) (n:Nat):dE (.int k (n:Int))=some n:=rfl
def SZ (k:y7):dE (.int k 0)=some 0:=rfl
def ax4 (k:y7):dE (.int k 1)=some 1:=rfl
def ax5 (k:y7):dE (.int k 2)=some 2:=rfl
def ax6 (k:y7):dE (.int k 3)=some 3:=rfl
def ax7 (k:y7):dE (.int k 4)=some 4:=rfl
def ax8 (k:y7):dE (.int k 5)=some 5:=rfl
def ax9 (k:y7):dE (.int k 6)=some 6:=rfl
def aya (k:y7):dE (.int k 7)=some 7:=rfl
def ayb (k:y7):dE (.int k 8)=some 8:=rfl
def ayc (k:y7):dE (.int k 9)=some 9:=rfl
def auw (cs:List AV):ajf (some cs)=some (.agg cs):=rfl
def ahj (k:y7) (a b:Int):binOp .add (.int k a) (.int k b)=some (.int k (k.wrap (a+b))):=by simp [binOp,lF]
def MW (k:y7) (a b:Int):binOp .sub (.int k a) (.int k b)=some (.int k (k.wrap (a-b))):=by simp [binOp,lF]
def ahk (k:y7) (a b:Int):binOp .mul (.int k a) (.int k b)=some (.int k (k.wrap (a*b))):=by simp [binOp,lF]
def gG (k:y7) (a b:Int) (h:b≠0):binOp .quo (.int k a) (.int k b)=some (.int k (k.wrap (a.tdiv b))):=by simp [binOp,lF,h]
def iV (k:y7) (a b:Int) (h:b≠0):binOp .rem (.int k a) (.int k b)=some (.int k (a.tmod b)):=by simp [binOp,lF,h]
def auy (k:y7) (a b:Int):binOp .eql (.int k a) (.int k b)=some (.bool (decide (a=b))):=by
 simp [binOp,lF,intCmp,BEq.beq]
def auz (k:y7) (a b:Int):binOp .neq (.int k a) (.int k b)=some (.bool (!decide (a=b))):=by
 simp [binOp,lF,intCmp,bne,BEq.beq]
def auA (k:y7) (a b:Int):binOp .lss (.int k a) (.int k b)=some (.bool (decide (a<b))):=by simp [binOp,lF,intCmp]
def auB (k:y7) (a b:Int):binOp .leq (.int k a) (.int k b)=some (.bool (decide (a<=b))):=by simp [binOp,lF,intCmp]
def auC (k:y7) (a b:Int):binOp .gtr (.int k a) (.int k b)=some (.bool (decide (b<a))):=by simp [binOp,lF,intCmp]
def auD (k:y7) (a b:Int):binOp .geq (.int k a) (.int k b)=some (.bool (decide (b<=a))):=by simp [binOp,lF,intCmp]
def ayd (k:y7) (a:Int):unOp .neg (.int k a)=some (.int k (k.wrap (0-a))):=rfl
def aye (b:Bool):unOp .not (.bool b)=some (.bool !b):=rfl
def ast:gI hp 1 .aa=some (.int .i64 0):=rfl
def auE (e:Bool) (n:Nat) (cs:List AV):gI hp 1 (.aw e n cs)=some (.int .i64 n):=rfl
def auF (id o n:Nat):gI hp 1 (.ao id o n)=some (.int .i64 n):=rfl
def auG (s:List Nat):gI hp 0 (.str s)=some (.int .i64 s.length):=rfl
def So {sz i n:Nat} (e:Bool) (cs:List AV) (h:i<n):jG sz i (.aw e n cs)=some (.b6 (cs.drop (i*sz))):=by
 have hb:yQ i n=true:=ym h;simp only [jG]
 grind
def bN {sz i n:Nat} (id o:Nat) (h:i<n):jG sz i (.ao id o n)=some (.ptr id (o+i*sz)):=by
 have hb:yQ i n=true:=ym h;simp only [jG]
 grind
def asu (v:AV) (cs:List AV):jc hp 1 false (.b6 (v::cs))=some v:=rfl
def Qb (sz:Nat) (ag:Bool) (o:Nat) (q:Option Obj):Option AV:=match q with | some (.cells _ _ _ _ cs)=>iy sz ag (cs.drop o) | _=>none
def ayf (sz:Nat) (ag:Bool) (id o:Nat):jc hp sz ag (.ptr id o)=Qb sz ag o (au hp id):=by
 rfl
def aAw (sz:Nat) (ag:Bool) (o:Nat) (rw pu ex:Bool) (z:Nat) (cs:List AV):Qb sz ag o (some (.cells rw pu ex z cs))=iy sz ag (cs.drop o):=rfl
def Dd (sz:Nat) (v:AV) (cs:List AV):iy sz false (v::cs)=some v:=rfl
def aBN (a:AV) (l:List AV):Kd 0 (.ae (a::l))=some a:=rfl
def ext1 (a b:AV) (l:List AV):Kd 1 (.ae (a::b::l))=some b:=rfl
def aBO (a b c:AV) (l:List AV):Kd 2 (.ae (a::b::c::l))=some c:=rfl
def aBP (a b c d:AV) (l:List AV):Kd 3 (.ae (a::b::c::d::l))=some d:=rfl
end
def zI:Env->Bool
 | []=>true
 | (_,v)::r=>bg v&&zI r
mutual
def aD:∀{v:AV},bg v=true->refs v=[]
 | .int _ _,_ | .bool _,_ | .bQ _ _,_ | .str _,_ | .kQ,_ | .b6 _,_ | .aa,_ | .aw _ _ _,_ | .jb,_ | .km,_ | .jy _ _,_ | .undef,_=>rfl
 | .ptr _ _,h | .ao _ _ _,h | .map _,h | .it _,h | .bn _ _ _ _,h=>by simp [bg] at h
 | .fn (.y _) _ _,h=>by simp [bg] at h
 | .fn (.f _) first cap,h=>by
  simp only [bg,yg] at h;simp only [refs,HV h.1,HV h.2,xY]
 | .agg cs,h=>by simp only [bg] at h;simp only [refs,HV h]
 | .ae cs,h=>by simp only [bg] at h;simp only [refs,HV h]
def HV:∀{vs:List AV},aG vs=true->fT vs=[]
 | [],_=>rfl
 | v::r,h=>by
  simp only [aG,yg] at h;simp only [fT,aD h.1,HV h.2,xY]
end
mutual
def aE (f:Nat->Option Nat):∀{v:AV},bg v=true->b7 f v=v
 | .int _ _,_ | .bool _,_ | .bQ _ _,_ | .str _,_ | .kQ,_ | .b6 _,_ | .aa,_ | .aw _ _ _,_ | .jb,_ | .km,_ | .jy _ _,_ | .undef,_=>rfl
 | .ptr _ _,h | .ao _ _ _,h | .map _,h | .it _,h | .bn _ _ _ _,h=>by simp [bg] at h
 | .fn (.y _) _ _,h=>by simp [bg] at h
 | .fn (.f _) first cap,h=>by
  simp only [bg,yg] at h;simp only [b7,H6 f h.1,H6 f h.2]
 | .agg cs,h=>by simp only [bg] at h;simp only [b7,H6 f h]
 | .ae cs,h=>by simp only [bg] at h;simp only [b7,H6 f h]
def H6 (f:Nat->Option Nat):∀{vs:List AV},aG vs=true->eE f vs=vs
 | [],_=>rfl
 | v::r,h=>by
  simp only [aG,yg] at h;simp only [eE,aE f h.1,H6 f h.2]
end
def abU:∀{tm:Env},zI tm=true->fc tm=[]
 | [],_=>rfl
 | (i,v)::r,h=>by
  simp only [zI,yg] at h;simp only [fc,aD h.1,abU h.2,xY]
def acM (f:Nat->Option Nat):∀{tm:Env},zI tm=true->fC f tm=tm
 | [],_=>rfl
 | (i,v)::r,h=>by
  simp only [zI,yg] at h;simp only [fC,aE f h.1,acM f h.2]
def aa5 {live:List Nat} {tm:Env} {ct:Nat} (h:zI (cg tm live)=true):aI live ⟨tm,[],ct,0⟩=⟨cg tm live,[],0,0⟩:=by
 simp only [aI,abU h,js,xY];simp only [reach,gW,mq,acM _ h,yK,yY]
def aoA {tm:Env} {ct:Nat}:aI [] ⟨tm,[],ct,0⟩=⟨[],[],0,0⟩:=rfl
def R1 {P:aK} {L:Lib} {live:List Nat} {a:VC} (I:Nat->St->Prop) (Q:Ex->St->Prop)
  (step:∀k s,I k s->(∃s' k',D P L a (aI live s)=some (.normal,s')/\k'<k/\I k' s')\/(∃ex s',D P L a (aI live s)=some (ex,s')/\ex≠.normal/\Q ex s')):
  ∀k s,I k s->∃ex s',D P L (.loop live a) s=some (ex,s')/\Q ex s':=by
 intro k
 induction k using vQ with
 | _ k ih=>
  intro s hI;rw [No];rcases step k s hI with ⟨s',k',h1,h2,h3⟩ | ⟨ex,s',h1,h2,h3⟩
  ·rw [h1,ahi];exact ih k' h2 s' h3
  ·rw [h1]
   cases ex with
   | normal=>exact absurd rfl h2
   | ret=>exact ⟨.ret,s',rfl,h3⟩
   | exit id=>exact ⟨.exit id,s',rfl,h3⟩
def gh {P:aK} {L:Lib} {live:List Nat} {a:VC} (I:Nat->St->Prop) (Q:Ex->St->Prop)
  (step:∀k s,I k s->(∃s' k',D P L a s=some (.normal,s')/\k'<k/\I k' (aI live s'))\/(∃ex s',D P L a s=some (ex,s')/\ex≠.normal/\Q ex s')):
  ∀k s,I k (aI live s)->∃ex s',D P L (.loop live a) s=some (ex,s')/\Q ex s':=
 R1 (fun k s=>I k (aI live s)) Q (fun k s h=>step k _ h)
def du {P:aK} {L:Lib} {live:List Nat} {a:VC} {I:Nat->St->Prop} {Q:Ex->St->Prop}
  (step:∀k s,I k s->(∃s' k',D P L a s=some (.normal,s')/\k'<k/\I k' (aI live s'))\/(∃ex s',D P L a s=some (ex,s')/\ex≠.normal/\Q ex s')):
  ∀k s s0,aI live s=s0->I k s0->∃ex s',D P L (.loop live a) s=some (ex,s')/\Q ex s':=fun k s s0 h hi=>gh I Q step k s (h▸hi)
def bJ {P:aK} {L:Lib} {c:VC} {s:St} {q:Option (Ex×St)} {I:St->Prop} {Q:Ex->St->Prop} (hq:D P L c s=q) (key:∀s,I s->∃ex s',D P L c s=some (ex,s')/\Q ex s') (hI:I s):
  ∃ex s',q=some (ex,s')/\Q ex s':=by
 rw [<-hq];exact key s hI
def asv (tm:Env):cg tm []=[]:=rfl
def aqq (tm:Env) (i:Nat) (r:List Nat):cg tm (i::r)=(i,ai tm i)::cg tm r:=rfl
def aqr:zI []=true:=rfl
def ao9 (i:Nat) (v:AV) (r:Env):zI ((i,v)::r)=(bg v&&zI r):=rfl
def aiA (k:y7) (n:Int):bg (.int k n)=true:=(rfl)
def auH (b:Bool):bg (.bool b)=true:=(rfl)
def S4 (s:List Nat):bg (.str s)=true:=(rfl)
def auI:bg .aa=true:=(rfl)
def ayg (e:Bool) (n:Nat) (cs:List AV):bg (.aw e n cs)=true:=(rfl)
def auJ (cs:List AV):bg (.b6 cs)=true:=(rfl)
def asw:bg .undef=true:=(rfl)
attribute [go_sem] deep aoA asv aqq aqr ao9 aiA auH S4 auI ayg auJ asw vt wA
attribute [go_sem] axz axA aAg Yy aBI aAh kh axB aAi fB at5 at6 ahi at7 aua aub auc Sn aud axC axD aue auf
 aug ar9 aqi auh aAj aAk asa asb asc asd aui axE axF aqj ao4 ase aqk fR dn adK acK asf adL acL
 aBJ aBK axG auj asg aAl auk axH aAm aAn aAo axI axJ axK axL axM axN axO axP axQ axR axS aul axT axU axV aAp axW ash asi asj
 aum aun auo aup auq axX axY axZ ax0 Yz aBM asl aql aur ax1 TE aAq aAr aAs aAt aAu
 ao5 aoy ao6 aoz ao7 shut_int shut_bool asm aqm asn aso cd aus me mc mb AP ao8 aqn En aqo aqp AQ
 asp Rz SX SY aut asq auu asr auv ass
 ax2 ax3 aAv rE SZ ax4 ax5 ax6 ax7 ax8 ax9 aya ayb ayc auw ahj MW ahk auy auz auA auB auC auD ayd aye ast auE auF auG asu ayf aAw Dd aBN ext1 aBO aBP
 xB xY xk yq yt Bool.not_true Bool.not_false ug xq
end
section
open Go (IntKind)
abbrev ab (n:Int):AV:= .int .i64 n
def cQ (v:AV) (cs:List AV):Prop:=(v= .aa/\cs=[])\/∃e,v= .aw e cs.length cs
section
variable {v:AV} {cs:List AV} {hp:Hp}
def cQ.len (h:cQ v cs) {hp:Hp}:gI hp 1 v=some (.int .i64 (cs.length:Nat)):=by
 rcases h with ⟨rfl,rfl⟩ | ⟨e,rfl⟩<;>rfl
def cQ.pu (h:cQ v cs):bg v=true:=by
 rcases h with ⟨rfl,rfl⟩ | ⟨e,rfl⟩<;>rfl
def cQ.ap (h:cQ v cs) (n:Nat) {hp:Hp}:freeze (n+1) hp v=some (v,hp):=by
 rcases h with ⟨rfl,rfl⟩ | ⟨e,rfl⟩<;>rfl
def cQ.shut (h:cQ v cs):shut v=v:=by
 rcases h with ⟨rfl,rfl⟩ | ⟨e,rfl⟩<;>rfl
def cQ.bK (h:cQ v cs):bK v=v:=by
 rcases h with ⟨rfl,rfl⟩ | ⟨e,rfl⟩<;>rfl
def cQ.fO (h:cQ v cs) {hp:Hp}:result hp v=some v:=by
 rcases h with ⟨rfl,rfl⟩ | ⟨e,rfl⟩<;>rfl
def cQ.aY (h:cQ v cs) {i:Nat} (hi:i<cs.length):jG 1 i v=some (.b6 (cs[i]::cs.drop (i+1))):=by
 rcases h with ⟨rfl,rfl⟩ | ⟨e,rfl⟩
 ·grind
 ·rw [So e _ hi,Nat.mul_one,yP hi]
def cQ.one (h:cQ v cs):dt v=true:=by
 rcases h with ⟨rfl,rfl⟩ | ⟨e,rfl⟩<;>rfl
def cQ.cells (h:cQ v cs):cellsOf v=[v]:=by
 rcases h with ⟨rfl,rfl⟩ | ⟨e,rfl⟩<;>rfl
def EA (e:Bool) (cs:List AV):cQ (.aw e cs.length cs) cs:= .inr ⟨e,rfl⟩
def qF:cQ .aa []:= .inl ⟨rfl,rfl⟩
end
def bt (v:AV) (l:List Int):Prop:=cQ v (l.map ab)
section
variable {v:AV} {l:List Int}
def bt.len (h:bt v l) {hp:Hp}:gI hp 1 v=some (.int .i64 (l.length:Nat)):=by
 have:=cQ.len (hp:=hp) h
 grind
def bt.pu (h:bt v l):bg v=true:=cQ.pu h
def bt.ap (h:bt v l) (n:Nat) {hp:Hp}:freeze (n+1) hp v=some (v,hp):=cQ.ap h n
def bt.shut (h:bt v l):VE.shut v=v:=cQ.shut h
def bt.bK (h:bt v l):VE.bK v=v:=cQ.bK h
def bt.fO (h:bt v l) {hp:Hp}:result hp v=some v:=cQ.fO h
def bt.one (h:bt v l):dt v=true:=cQ.one h
def bt.cells (h:bt v l):cellsOf v=[v]:=cQ.cells h
def bt.aY (h:bt v l) {i:Nat} (hi:i<l.length):jG 1 i v=some (.b6 (.int .i64 l[i]::(l.map ab).drop (i+1))):=by
 have:=cQ.aY h (i:=i) (by simpa using hi)
 grind
def lB (e:Bool) (l:List Int):bt (.aw e l.length (l.map ab)) l:=by
 have:=EA e (l.map ab)
 rwa [yr] at this
end
def cK {α β:Type} (p:α->β->Prop):List α->List β->Prop
 | [],[]=>True
 | a::r,b::s=>p a b/\cK p r s
 | _,_=>False
section
variable {α β:Type} {p:α->β->Prop}
def cK.len:∀{l:List α} {m:List β},cK p l m->l.length=m.length
 | [],[],_=>rfl
 | _::_,_::_,h=>by rw [yz,yz,h.2.len]
def cK.get:∀{l:List α} {m:List β} (_:cK p l m) {i:Nat} (h1:i<l.length) (h2:i<m.length),p l[i] m[i]
 | a::r,b::s,h,0,_,_=>h.1
 | a::r,b::s,h,i+1,h1,h2=>by
  exact h.2.get (by simpa using h1) (by simpa using h2)
end
def IsS (v:AV) (s:List (List Int)):Prop:=∃rows,cQ v rows/\cK bt rows s
def wrap64 {n:Int} (h1: -9223372036854775808<=n) (h2:n<9223372036854775808):IntKind.wrap .i64 n=n:=by
 simp only [IntKind.wrap,IntKind.bits,IntKind.signed,wA]
 grind
def wrapN {n:Nat} (h:n<9223372036854775808):IntKind.wrap .i64 (n:Int)=n:=wrap64 (by omega) (by omega)
end
section
open Go (IntKind)
section
variable {P:aK} {L:Lib}
abbrev ak (P:aK) (L:Lib) (f:Nat) (av:List AV) (r:AV):Prop:=bL P L (D P L) f av=some r
def s42 {n:Nat} (h:Has P L n KX) {v:AV} {l:List Int} (hv:bt v l) (hl:l.length<=1000000):ak P L n [v] (ab (bD l)):=by
 unfold ak;rw [aH h];simp only [go_sem,KX];have key:=R1 (P:=P) (L:=L) (live:=[0,3]) (a:=NC)
  (I:=fun k s=>∃tm ct i,s=⟨tm,[],ct,0⟩/\ai tm 0=v/\ai tm 3=ab (i:Nat)/\i+k=l.length/\bD (l.drop i)=bD l)
  (Q:=fun ex s=>∃tm,s=⟨tm,[],0,0⟩/\((ex= .ret/\ai tm 2=ab (bD l))\/(ex= .exit 0/\bD l=0))) ?_ l.length
 ·generalize hq:D P L (.loop [0,3] NC) _=q;obtain ⟨ex,s,rfl,tm,rfl,h2⟩:=bJ hq key ⟨_,_,0,rfl,rfl,rfl,by omega,rfl⟩;rcases h2 with ⟨rfl,h2⟩ | ⟨rfl,h2⟩
  ·simp only [go_sem,h2]
  ·rw [h2];simp only [go_sem]
 ·rintro k s ⟨tm,ct,i,rfl,h0,h3,hk,hf⟩;rw [aa5 (by simp only [go_sem,h0,h3,hv.pu])];simp only [go_sem,ya,h0,h3,NC,hv.len];by_cases hi:i<l.length
  ·have df:(i:Int)<l.length:=by omega
   rw [abn hi] at hf;by_cases hz:l[i]=0
   ·left
    simp only [go_sem,ya,df,hv.aY hi,hz];refine ⟨_,k-1,rfl,by omega,_,_,i+1,rfl,?_⟩;rw [wrap64 (by omega) (by omega)];rw [yM hz] at hf;simp only [go_sem,ya];exact ⟨trivial,rfl,by omega,hf⟩
   ·right
    simp only [go_sem,ya,df,hv.aY hi,hz];rw [yx hz] at hf;refine ⟨_,_,rfl,by simp,_,rfl,.inl ⟨rfl,?_⟩⟩;simp only [go_sem,hf]
  ·right
   have df:¬(i:Int)<l.length:=by omega
   simp only [go_sem,df];refine ⟨_,_,rfl,by simp,_,rfl,.inr ⟨rfl,?_⟩⟩;rw [<-hf,xf (by omega)];rfl
end
end
section
open Go (IntKind)
section
variable {P:aK} {L:Lib} {f:cA} {tm:Env} {hp:Hp} {ct:Nat}
def aqs (k:y7) (n:Int):cellsOf (.int k n)=[.int k n]:=(rfl)
def apa (b:Bool):cellsOf (.bool b)=[.bool b]:=(rfl)
def aqt (s:List Nat):cellsOf (.str s)=[.str s]:=(rfl)
def apb:cellsOf .aa=[.aa]:=(rfl)
def aqu (e:Bool) (n:Nat) (cs:List AV):cellsOf (.aw e n cs)=[.aw e n cs]:=(rfl)
def aqv (id o n:Nat):cellsOf (.ao id o n)=[.ao id o n]:=(rfl)
def aqw (id o:Nat):cellsOf (.ptr id o)=[.ptr id o]:=(rfl)
def asx (g:Fr) (a b:List AV):cellsOf (.fn g a b)=[.fn g a b]:=(rfl)
def aqx (cs:List AV):cellsOf (.agg cs)=cs:=(rfl)
def ahl (k:y7) (n:Int):dt (.int k n)=true:=(rfl)
def asy (b:Bool):dt (.bool b)=true:=(rfl)
def Sp (s:List Nat):dt (.str s)=true:=(rfl)
def asz:dt .aa=true:=(rfl)
def auK (e:Bool) (n:Nat) (cs:List AV):dt (.aw e n cs)=true:=(rfl)
def auL (id o n:Nat):dt (.ao id o n)=true:=(rfl)
def auM (id o:Nat):dt (.ptr id o)=true:=(rfl)
def ayh (g:Fr) (a b:List AV):dt (.fn g a b)=true:=(rfl)
def asA:cp []=true:=(rfl)
def acN (v:AV) (r:List AV):cp (v::r)=(dt v&&cp r):=(rfl)
def aqy:aG []=true:=(rfl)
def apc (v:AV) (r:List AV):aG (v::r)=(bg v&&aG r):=(rfl)
def ayi (id o:Nat):bg (.ptr id o)=false:=(rfl)
def ayj (id o n:Nat):bg (.ao id o n)=false:=(rfl)
def aAx (g:Nat) (a b:List AV):bg (.fn (.f g) a b)=(aG a&&aG b):=(rfl)
def aBQ (l:Nat) (a b:List AV):bg (.fn (.y l) a b)=false:=(rfl)
def ayk (cs:List AV):bg (.agg cs)=aG cs:=(rfl)
def ayl (cs:List AV):bg (.ae cs)=aG cs:=(rfl)
def FY (ct sz:Nat) (cs:List AV):Option (AV×Obj):=bif yv cs.length sz&&cp cs then some (.ptr ct 0,.cells true (aG cs) true sz cs) else none
def aym (sz:Nat) (x:X):cR tm hp ct (.box sz x)=FY ct sz (cellsOf (aA tm x)):=rfl
def NK {v:AV} (h:dt v=true):FY ct 1 [v]=some (.ptr ct 0,.cells true (bg v&&true) true 1 [v]):=by
 simp [FY,cp,aG,h]
def bi {cs:List AV} {n:Nat} (hn:cs.length=n) (h:cp cs=true):FY ct n cs=some (.ptr ct 0,.cells true (aG cs) true n cs):=by
 subst hn;simp [FY,h]
def iR (hp:Hp) (ct id o sz:Nat) (new:List AV) (q:Option Obj):fY:=
 match q with
 | some (.cells true pu ex z cs)=>bif yv new.length sz&&yF (o+sz) cs.length&&cp new then some (.ae [],a7 hp id (.cells true (pu&&aG new) ex z (over o new cs)),ct) else none
 | _=>none
def stV (hp:Hp) (ct sz:Nat) (p:AV) (new:List AV):fY:=match p with | .ptr id o=>iR hp ct id o sz new (au hp id) | _=>none
def adM (sz:Nat) (x v:X):cI tm hp ct (.st sz x v)=stV hp ct sz (aA tm x) (cellsOf (aA tm v)):=rfl
def ajh (sz id o:Nat) (new:List AV):stV hp ct sz (.ptr id o) new=iR hp ct id o sz new (au hp id):=rfl
def aBR {v u:AV} {id z:Nat} {pu ex:Bool} (h:dt v=true):iR hp ct id 0 1 [v] (some (.cells true pu ex z [u]))=some (.ae [],a7 hp id (.cells true (pu&&(bg v&&true)) ex z [v]),ct):=by
 simp [iR,cp,aG,h,over];rfl
def zJ {new cs:List AV} {id o sz z:Nat} {pu ex:Bool} (h1:new.length=sz) (h2:o+sz<=cs.length) (h:cp new=true):
  iR hp ct id o sz new (some (.cells true pu ex z cs))=some (.ae [],a7 hp id (.cells true (pu&&aG new) ex z (over o new cs)),ct):=by
 subst h1;simp [iR,h,ym h2]
def NL (ct n sz:Nat) (q:Option (List AV)):Option (AV×Obj):=match q with | some cs=>bif yv cs.length (n*sz) then some (.ao ct 0 n,.cells true (aG cs) true sz cs) else none | none=>none
def auN (n sz:Nat) (z:List AV) (ps:List (Nat×Nat×X)):cR tm hp ct (.cW n sz z ps)=NL ct n sz (fill tm z ps):=by
 simp only [cR,NL];cases fill tm z ps<;>rfl
def Iv {n sz:Nat} {cs:List AV} (h:cs.length=n*sz):NL ct n sz (some cs)=some (.ao ct 0 n,.cells true (aG cs) true sz cs):=by
 simp [NL,h]
def pD (tm:Env) (cs:List AV) (o sz:Nat) (new:List AV) (r:List (Nat×Nat×X)):Option (List AV):=
 bif yv new.length sz&&yF (o+sz) cs.length&&cp new then fill tm (over o new cs) r else none
def asB (cs:List AV):fill tm cs []=some cs:=rfl
def aqz (cs:List AV) (o sz:Nat) (x:X) (r:List (Nat×Nat×X)):fill tm cs ((o,sz,x)::r)=pD tm cs o sz (cellsOf (aA tm x)) r:=rfl
def ahm {cs:List AV} {o:Nat} {v:AV} {r:List (Nat×Nat×X)} (h1:o+1<=cs.length) (h2:dt v=true):pD tm cs o 1 [v] r=fill tm (over o [v] cs) r:=by
 simp [pD,cp,h2,ym h1]
def Sq {cs new:List AV} {o sz:Nat} {r:List (Nat×Nat×X)} (h0:new.length=sz) (h1:o+sz<=cs.length) (h2:cp new=true):pD tm cs o sz new r=fill tm (over o new cs) r:=by
 subst h0;simp [pD,h2,ym h1]
def aAy (v u:AV) (r:List AV):over 0 [v] (u::r)=v::r:=rfl
def aAz (v a u:AV) (r:List AV):over 1 [v] (a::u::r)=a::v::r:=rfl
def aAA (v a b u:AV) (r:List AV):over 2 [v] (a::b::u::r)=a::b::v::r:=rfl
def aAB (v a b c u:AV) (r:List AV):over 3 [v] (a::b::c::u::r)=a::b::c::v::r:=rfl
def aAC (v a b c d u:AV) (r:List AV):over 4 [v] (a::b::c::d::u::r)=a::b::c::d::v::r:=rfl
def aAD (v a b c d e u:AV) (r:List AV):over 5 [v] (a::b::c::d::e::u::r)=a::b::c::d::e::v::r:=rfl
def qU (ct sz by':Nat) (zero:List AV) (l c:Option Nat):Option (AV×Obj):=
 match l,c with
 | some l,some c=>bif yF l c&&(yF c room&&(yF (c*by') room&&(yv zero.length sz&&cp zero))) then some (.ao ct 0 l,.cells true (aG zero) (yv l c) sz (yj l zero).flatten) else none
 | _,_=>none
def ayn (sz by':Nat) (z:List AV) (l c:X):cR tm hp ct (.gO sz by' z l c)=qU ct sz by' z (dE (aA tm l)) (dE (aA tm c)):=by
 simp only [cR,qU]
 grind
def C2 {sz by' l:Nat} {z:List AV} (h1:l<=1099511627776) (h2:l*by'<=1099511627776) (h3:z.length=sz) (h4:cp z=true):
  qU ct sz by' z (some l) (some l)=some (.ao ct 0 l,.cells true (aG z) true sz (yj l z).flatten):=by
 subst h3;simp [qU,h4,ym (show l<=room from h1),ym (show l*by'<=room from h2),ym (yu l)]
def sr (hp:Hp) (ct sz by':Nat) (s:AV) (src:Option (Nat×List AV)):fY:=
 match src with
 | none=>none
 | some (m,new)=>
  match s with
  | .aa=>
   bif yv m 0 then some (.aa,hp,ct)
   else bif yF m room&&(yF (m*by') room&&yQ 0 sz) then some (.ao ct 0 m,(ct,.cells true (aG new) false sz new)::hp,ct+1) else none
  | .aw true n cs=>
   bif yv m 0 then some (.aw true n cs,hp,ct)
   else bif yF (n+m) room&&(yF ((n+m)*by') room&&(yv cs.length (n*sz)&&yQ 0 sz)) then some (.ao ct 0 (n+m),(ct,.cells true (aG cs&&aG new) false sz (cs++new))::hp,ct+1) else none
  | .ao id o n=>
   match au hp id with
   | some (.cells true pu _ z cs)=>
    bif yv z sz&&(yF (n+m) room&&(yF ((n+m)*by') room&&(yF (o+n*sz) cs.length&&(yQ 0 sz&&cp new)))) then
     some (.ao ct 0 (n+m),(ct,.cells true (pu&&aG new) false sz (slice o (n*sz) cs++new))::dJ hp id,ct+1)
    else none
   | _=>none
  | _=>none
def aqA (sz by':Nat) (s x:X):cI tm hp ct (.aR sz by' s x)=sr hp ct sz by' (aA tm s) (ik hp sz (aA tm x)):=by
 simp only [cI,sr]
 cases ik hp sz (aA tm x) with
 | none=>rfl
 | some q=>obtain ⟨m,new⟩:=q;cases aA tm s<;>rfl
def ape (sz id o n:Nat):ik hp sz (.ao id o n)=iE hp sz (.ao id o n):=rfl
def abV (sz:Nat) (e:Bool) (n:Nat) (cs:List AV):ik hp sz (.aw e n cs)=iE hp sz (.aw e n cs):=rfl
def aoB (sz:Nat):ik hp sz .aa=some (0,[]):=rfl
def Z5 (o n sz:Nat) (q:Option Obj):Option (Nat×List AV):=match q with | some (.cells _ _ _ _ cs)=>bif yF (o+n*sz) cs.length then some (n,slice o (n*sz) cs) else none | _=>none
def aoC (sz id o n:Nat):iE hp sz (.ao id o n)=Z5 o n sz (au hp id):=rfl
def aAE (rw pu ex:Bool) (z:Nat) (v:AV):Z5 0 1 1 (some (.cells rw pu ex z [v]))=some (1,[v]):=rfl
def ij {sz by':Nat} {new:List AV} {m:Nat} (hm:0<m) (h1:m<=1099511627776) (h2:m*by'<=1099511627776) (hs:0<sz):
  sr hp ct sz by' .aa (some (m,new))=some (.ao ct 0 m,(ct,.cells true (aG new) false sz new)::hp,ct+1):=by
 have e1:yv m 0=false:=gF (by omega);have e2:yQ 0 sz=true:=ym hs;simp [sr,e1,e2,ym (show m<=room from h1),ym (show m*by'<=room from h2)]
def fS {sz by' id n m:Nat} {pu ex:Bool} {cs new:List AV} (hg:au hp id=some (.cells true pu ex sz cs)) (hl:cs.length=n*sz) (h1:n+m<=1099511627776) (h2:(n+m)*by'<=1099511627776) (hs:0<sz) (ho:cp new=true):
  sr hp ct sz by' (.ao id 0 n) (some (m,new))=some (.ao ct 0 (n+m),(ct,.cells true (pu&&aG new) false sz (cs++new))::dJ hp id,ct+1):=by
 have e2:yQ 0 sz=true:=ym hs;simp only [sr,hg];simp [e2,ho,ym (show n+m<=room from h1),ym (show (n+m)*by'<=room from h2),<-hl,slice,ym (yu cs.length)]
def akU (n:Nat) (g:Nat) (cap:List AV) (q:Option (List AV×Hp)):Option (AV×Hp):=match q with | some (first,hp)=>(match cB n hp cap with | some (NS,fX)=>some (.fn (.f g) first NS,fX) | none=>none) | none=>none
def akV (g:Nat) (first:List AV) (q:Option (List AV×Hp)):Option (AV×Hp):=match q with | some (cap,hp)=>some (.fn (.f g) first cap,hp) | none=>none
def ayo (n g:Nat) (first cap:List AV):freeze (n+1) hp (.fn (.f g) first cap)=akU n g cap (cB n hp first):=rfl
def ayp (n g:Nat) (first cap:List AV):akU n g cap (some (first,hp))=akV g first (cB n hp cap):=rfl
def ayq (g:Nat) (first cap:List AV):akV g first (some (cap,hp))=some (.fn (.f g) first cap,hp):=rfl
def akW (o:Nat) (q:Option (Bool×Nat×List AV×Hp)):Option (AV×Hp):=match q with | some (_,_,cs,hp)=>some (.b6 (cs.drop o),hp) | none=>none
def auO (n id o:Nat):freeze (n+1) hp (.ptr id o)=akW o (nN n hp id):=rfl
def ayr (o:Nat) (ex:Bool) (sz:Nat) (cs:List AV):akW o (some (ex,sz,cs,hp))=some (.b6 (cs.drop o),hp):=rfl
def jN (o k:Nat) (q:Option (Bool×Nat×List AV×Hp)):Option (AV×Hp):=
 match q with
 | some (ex,sz,cs,hp)=>bif yF (o+k*sz) cs.length then some (.aw (ex&&yQ 0 sz&&yv (o+k*sz) cs.length) k (slice o (k*sz) cs),hp) else none
 | none=>none
def MX (n id o k:Nat):freeze (n+1) hp (.ao id o k)=jN o k (nN n hp id):=rfl
def nP {sz k:Nat} {cs:List AV} (ex:Bool) (hl:cs.length=k*sz) (hs:0<sz):jN 0 k (some (ex,sz,cs,hp))=some (.aw ex k cs,hp):=by
 have e2:yQ 0 sz=true:=ym hs;simp [jN,<-hl,e2,slice,ym (yu cs.length)]
def z7 (n id:Nat) (hp:Hp) (q:Option Obj):Option (Bool×Nat×List AV×Hp):=
 match q with
 | some (.cells rw pu ex sz cs)=>
  bif pu then some (ex,sz,cs,bif rw then a7 hp id (.cells false true ex sz cs) else hp)
  else match cB n hp cs with
   | some (dG,aj)=>some (ex,sz,dG,a7 aj id (.cells false false ex sz cs))
   | none=>none
 | _=>none
def MY (n id:Nat):nN (n+1) hp id=z7 n id hp (au hp id):=rfl
def ays (n id:Nat) (ex:Bool) (sz:Nat) (cs:List AV):z7 n id hp (some (.cells true true ex sz cs))=some (ex,sz,cs,a7 hp id (.cells false true ex sz cs)):=rfl
def ayt (n id:Nat) (ex:Bool) (sz:Nat) (cs:List AV):z7 n id hp (some (.cells false true ex sz cs))=some (ex,sz,cs,hp):=rfl
def cD (n:Nat) (cs:List AV) (h:cB n hp cs=some (cs,hp)):freeze (n+1) hp (.agg cs)=some (.agg cs,hp):=by
 simp only [freeze,h]
def Cw {id n sz:Nat} {ex:Bool} {cs:List AV} (hg:au hp id=some (.cells true true ex sz cs)) (hl:cs.length=n*sz) (hs:0<sz):result hp (.ao id 0 n)=some (.bn ex sz n cs):=by
 have e2:yQ 0 sz=true:=ym hs;simp only [result,j0,hg,ye,<-hl,ym (yu cs.length),yA,e2,vt,slice,yL,xD]
 simp
def RA {k id n sz:Nat} {ex:Bool} {cs:List AV} (hg:au hp id=some (.cells true true ex sz cs)) (hl:cs.length=n*sz) (hs:0<sz):j0 k hp (.ao id 0 n)=some (.bn ex sz n cs,dJ hp id):=by
 have e2:yQ 0 sz=true:=ym hs;simp only [j0,hg,ye,<-hl,ym (yu cs.length),yA,e2,vt,slice,yL,xD]
 simp
def an9 {id n sz:Nat} {ex:Bool} {cs:List AV} {b:Bool} (hg:au hp id=some (.cells true true ex sz cs)) (hl:cs.length=n*sz) (hs:0<sz):result hp (.ae [.ao id 0 n,.bool b])=some (.ae [.bn ex sz n cs,.bool b]):=by
 have h1:zt [.ao id 0 n,.bool b]=some [id]:=rfl;simp only [result,h1,oZ,RA hg hl hs];rfl
def aoa {id n sz:Nat} {ex:Bool} {cs:List AV} {k:y7} {b:Int} (hg:au hp id=some (.cells true true ex sz cs)) (hl:cs.length=n*sz) (hs:0<sz):result hp (.ae [.ao id 0 n,.int k b])=some (.ae [.bn ex sz n cs,.int k b]):=by
 have h1:zt [.ao id 0 n,.int k b]=some [id]:=rfl;simp only [result,h1,oZ,RA hg hl hs];rfl
def anW (b:Bool):result hp (.ae [.aa,.bool b])=some (.ae [.aa,.bool b]):=rfl
def anX (k:y7) (b:Int):result hp (.ae [.aa,.int k b])=some (.ae [.aa,.int k b]):=rfl
def anY (e:Bool) (n:Nat) (cs:List AV) (k:y7) (b:Int):result hp (.ae [.aw e n cs,.int k b])=some (.ae [.aw e n cs,.int k b]):=rfl
def aqB (s:St):py [] s=some s:=rfl
def Z6 (t:Nat) (r:List Nat) (tm:Env) (ct base:Nat) (q:Option (AV×Hp)):Option St:=match q with | some (v,hp)=>py r ⟨(t,v)::tm,hp,ct,base⟩ | none=>none
def apf (t:Nat) (r:List Nat) (tm:Env) (hp:Hp) (ct base:Nat):py (t::r) ⟨tm,hp,ct,base⟩=Z6 t r tm ct base (freeze deep hp (ai tm t)):=by
 simp only [py,Z6];cases freeze deep hp (ai tm t)<;>rfl
def aAF (t:Nat) (r:List Nat) (tm:Env) (ct base:Nat) (v:AV) (hp:Hp):Z6 t r tm ct base (some (v,hp))=py r ⟨(t,v)::tm,hp,ct,base⟩:=rfl
end
attribute [go_sem] anW anX anY aqs apa aqt apb aqu aqv aqw asx aqx ahl asy Sp asz auK auL auM ayh asA acN
 aqy apc ayi ayj aAx aBQ ayk ayl aym NK adM ajh aBR auN asB aqz aAy aAz aAA aAB aAC aAD ayn
 aqA ape abV aoB aoC aAE ayo ayp ayq auO ayr MX nP Iv ahm MY ays ayt aqB apf aAF
 Bool.and_false Bool.false_and yL eq_self
end
section
open Go (IntKind)
def adN:∀hp:Hp,js 0 hp=[]
 | []=>rfl
 | (id,o)::r=>by
  have:yQ id 0=false:=rfl
  simp only [js,this,yT,adN r]
def aiB (f:Nat->Option Nat):∀hp:Hp,mq 0 f hp=[]
 | []=>rfl
 | (id,o)::r=>by
  have:yQ id 0=false:=rfl
  simp only [mq,this,yT,aiB f r]
def pos (seen:List Nat):Nat->Option Nat:=fun id=>ef id seen 0
def YB (tm:Env) (hp:Hp) (seen:List Nat):St:=⟨fC (pos seen) tm,gW hp (pos seen) seen 0 [],seen.length,0⟩
def lU (hp:Hp):Nat->List Nat->List Nat->List Nat:=reach hp 0
def ax (live:List Nat) (tm:Env) (hp:Hp) (ct:Nat):aI live ⟨tm,hp,ct,0⟩=YB (cg tm live) hp (lU hp 100000 (fc (cg tm live)) []):=by
 have e:∀seen,kL 0 seen=pos seen:=fun seen=>by
  funext id
  have:yQ id 0=false:=rfl
  simp only [kL,this,yT,pos]
 simp only [aI,adN,xY,e,aiB,YB,lU,ye]
def aqC:fc []=[]:=rfl
def apg (i:Nat) (v:AV) (r:Env):fc ((i,v)::r)=refs v++fc r:=rfl
def asC (k:y7) (n:Int):refs (.int k n)=[]:=rfl
def aqD (b:Bool):refs (.bool b)=[]:=rfl
def asD (s:List Nat):refs (.str s)=[]:=rfl
def aqE:refs .aa=[]:=rfl
def asE (e:Bool) (n:Nat) (cs:List AV):refs (.aw e n cs)=[]:=rfl
def aqF (cs:List AV):refs (.b6 cs)=[]:=rfl
def aph:refs .undef=[]:=rfl
def asF (id o:Nat):refs (.ptr id o)=[id]:=rfl
def asG (id o n:Nat):refs (.ao id o n)=[id]:=rfl
def auP (g:Nat) (a b:List AV):refs (.fn (.f g) a b)=fT a++fT b:=rfl
def ayu (l:Nat) (a b:List AV):refs (.fn (.y l) a b)=[l]:=rfl
def asH (cs:List AV):refs (.agg cs)=fT cs:=rfl
def aqG:fT []=[]:=rfl
def api (v:AV) (r:List AV):fT (v::r)=refs v++fT r:=rfl
def Pk (hp:Hp) (n id:Nat) (fL seen:List Nat) (q:Option Obj):List Nat:=match q with | some o=>lU hp n (iX o++fL) (seen++[id]) | none=>lU hp n fL seen
def Pm (hp:Hp) (n id:Nat) (fL seen:List Nat) (b:Bool):List Nat:=bif b then lU hp n fL seen else Pk hp n id fL seen (au hp id)
def ahn (hp:Hp) (n:Nat) (seen:List Nat):lU hp (n+1) [] seen=seen:=rfl
def MA (hp:Hp) (n id:Nat) (fL seen:List Nat):lU hp (n+1) (id::fL) seen=Pm hp n id fL seen (jz id seen):=by
 have:yQ id 0=false:=rfl
 simp only [lU,reach,this,Bool.false_or,Pm,Pk]
 cases jz id seen with
 | true=>rfl
 | false=>simp only [yT];cases au hp id<;>rfl
def ayv (hp:Hp) (n id:Nat) (fL seen:List Nat):Pm hp n id fL seen true=lU hp n fL seen:=rfl
def Np (hp:Hp) (n id:Nat) (fL seen:List Nat):Pm hp n id fL seen false=Pk hp n id fL seen (au hp id):=rfl
def Nq (hp:Hp) (n id:Nat) (fL seen:List Nat) (o:Obj):Pk hp n id fL seen (some o)=lU hp n (iX o++fL) (seen++[id]):=rfl
def R2 (i:Nat):jz i []=false:=rfl
def adO (i:Nat) (r:List Nat):jz i (i::r)=true:=by simp only [jz,wW,yA]
def acO {i j:Nat} (r:List Nat) (h:j≠i):jz i (j::r)=jz i r:=by simp only [jz,gF h,yT]
def auQ (rw ex:Bool) (sz:Nat) (cs:List AV):iX (.cells rw true ex sz cs)=[]:=rfl
def Sr (rw ex:Bool) (sz:Nat) (cs:List AV):iX (.cells rw false ex sz cs)=fT cs:=rfl
def asI (tm:Env) (ps:List Nat) (a b:VC) (st:Nat) (pe:zQ):iX (.lp tm ps a b st pe)=fc tm:=rfl
def aho (i:Nat) (r:List Nat) (k:Nat):ef i (i::r) k=some k:=by simp only [ef,wW,yA]
def adP {i j:Nat} (r:List Nat) (k:Nat) (h:j≠i):ef i (j::r) k=ef i r (k+1):=by simp only [ef,gF h,yT]
def pos_eq (seen:List Nat) (i:Nat):pos seen i=ef i seen 0:=rfl
def aji (o:Nat) (q:Option Nat):AV:=match q with | some j=> .ptr j o | none=> .undef
def ajj (o n:Nat) (q:Option Nat):AV:=match q with | some j=> .ao j o n | none=> .undef
def asJ (s:List Nat):fC (pos s) []=[]:=rfl
def aqH (s:List Nat) (i:Nat) (v:AV) (r:Env):fC (pos s) ((i,v)::r)=(i,b7 (pos s) v)::fC (pos s) r:=rfl
def auR (s:List Nat) (k:y7) (n:Int):b7 (pos s) (.int k n)= .int k n:=rfl
def asK (s:List Nat) (b:Bool):b7 (pos s) (.bool b)= .bool b:=rfl
def auS (s:List Nat) (t:List Nat):b7 (pos s) (.str t)= .str t:=rfl
def asL (s:List Nat):b7 (pos s) .aa= .aa:=rfl
def auT (s:List Nat) (e:Bool) (n:Nat) (cs:List AV):b7 (pos s) (.aw e n cs)= .aw e n cs:=rfl
def asM (s:List Nat) (cs:List AV):b7 (pos s) (.b6 cs)= .b6 cs:=rfl
def aqI (s:List Nat):b7 (pos s) .undef= .undef:=rfl
def auU (s:List Nat) (id o:Nat):b7 (pos s) (.ptr id o)=aji o (ef id s 0):=rfl
def auV (s:List Nat) (id o n:Nat):b7 (pos s) (.ao id o n)=ajj o n (ef id s 0):=rfl
def ayw (s:List Nat) (g:Nat) (a b:List AV):b7 (pos s) (.fn (.f g) a b)= .fn (.f g) (eE (pos s) a) (eE (pos s) b):=rfl
def auW (s:List Nat) (cs:List AV):b7 (pos s) (.agg cs)= .agg (eE (pos s) cs):=rfl
def asN (s:List Nat):eE (pos s) []=[]:=rfl
def aqJ (s:List Nat) (v:AV) (r:List AV):eE (pos s) (v::r)=b7 (pos s) v::eE (pos s) r:=rfl
def auX (o j:Nat):aji o (some j)= .ptr j o:=rfl
def auY (o n j:Nat):ajj o n (some j)= .ao j o n:=rfl
def YC (hp:Hp) (f:Nat->Option Nat) (r:List Nat) (k:Nat) (acc:Hp) (q:Option Obj):Hp:=match q with | some o=>gW hp f r (k+1) ((k,iH f o)::acc) | none=>gW hp f r (k+1) acc
def aqK (hp:Hp) (s:List Nat) (k:Nat) (acc:Hp):gW hp (pos s) [] k acc=acc:=rfl
def apj (hp:Hp) (s:List Nat) (id:Nat) (r:List Nat) (k:Nat) (acc:Hp):gW hp (pos s) (id::r) k acc=YC hp (pos s) r k acc (au hp id):=by
 simp only [gW,YC];cases au hp id<;>rfl
def ayx (hp:Hp) (s r:List Nat) (k:Nat) (acc:Hp) (o:Obj):YC hp (pos s) r k acc (some o)=gW hp (pos s) r (k+1) ((k,iH (pos s) o)::acc):=rfl
def ayy (f:Nat->Option Nat) (rw ex:Bool) (sz:Nat) (cs:List AV):iH f (.cells rw true ex sz cs)= .cells rw true ex sz cs:=rfl
def ayz (f:Nat->Option Nat) (rw ex:Bool) (sz:Nat) (cs:List AV):iH f (.cells rw false ex sz cs)= .cells rw false ex sz (eE f cs):=rfl
def auZ (f:Nat->Option Nat) (tm:Env) (ps:List Nat) (a b:VC) (st:Nat) (pe:zQ):iH f (.lp tm ps a b st pe)= .lp (fC f tm) ps a b st pe:=rfl
def ahp (tm:Env) (hp:Hp) (seen:List Nat):YB tm hp seen=⟨fC (pos seen) tm,gW hp (pos seen) seen 0 [],seen.length,0⟩:=rfl
attribute [go_sem] aqC apg asC aqD asD aqE asE aqF aph asF asG auP ayu asH aqG api ahn MA ayv Np Nq
 R2 adO acO auQ Sr asI aho adP asJ aqH auR asK auS asL auT asM aqI auU auV ayw auW asN aqJ auX auY
 aqK apj ayx ayy ayz auZ ahp yz yK
end
section
open Go (IntKind)
section
variable {P:aK} {L:Lib}
def Mk {k:y7} {n:Int} (h:0<=n):dE (.int k n)=some n.toNat:=by
 cases n with
 | ofNat n=>rfl
 | negSucc n=>exact absurd h (by simp)
end
end
section
open Go (IntKind)
section
variable {P:aK} {L:Lib}
def b5 (k id o:Nat):I8 k (.ptr id o)=some (.ptr id (o+k)):=rfl
def de {α:Type} (a:α) (l:List α):vD 1 (a::l)=l:=rfl
def aAG {α:Type} (a b:α) (l:List α):vD 2 (a::b::l)=l:=rfl
def ajk {α:Type} (a b c:α) (l:List α):vD 3 (a::b::c::l)=l:=rfl
end
end
section
open Go (IntKind)
section
variable {P:aK} {L:Lib}
abbrev Nm (n:Int):AV:= .agg [ab n,.aa]
def rW (hp:Hp) (ct id:Nat) (a:Int) (x y:AV):iR hp ct id 0 2 [.int .i64 a,.aa] (some (.cells true true true 2 [x,y]))=some (.ae [],a7 hp id (.cells true true true 2 [.int .i64 a,.aa]),ct):=rfl
def eC (b:Bool):Kc false (some b)=some (.bool b):=by cases b<;>rfl
def aiC (f:cA) (tm:Env) (hp:Hp) (ct:Nat) (x y:X):bf P L f tm hp ct (.mn [x,y])=rd hp ct (min2 (aA tm x) (aA tm y)):=by
 simp only [bf,rd,bA,dD,Bc]
 grind
def I2 (f:cA) (tm:Env) (hp:Hp) (ct:Nat) (x y:X):bf P L f tm hp ct (.mx [x,y])=rd hp ct (max2 (aA tm x) (aA tm y)):=by
 simp only [bf,rd,bA,dD,Bc]
 grind
def adQ (k k':y7) (x y:Int):min2 (.int k x) (.int k' y)=some (.int k (if y<x then y else x)):=rfl
def Ih (k k':y7) (x y:Int):max2 (.int k x) (.int k' y)=some (.int k (if y>x then y else x)):=rfl
def cT (n:Int):Int:=if n<0 then -1 else if n=0 then 0 else 1
def ayA (n:Int):(if (if n<1 then n else 1)> -1 then (if n<1 then n else 1) else -1)=cT n:=by
 unfold cT
 grind
def n117 (h:Has P L 117 N5) (n:Int):ak P L 117 [ab n] (Nm n):=by
 unfold ak;rw [aH h];simp only [go_sem,ya,yb,Nat.reduceLeDiff,N5,bi,ye,rW];rfl
def pE (hp:Hp) (p q:Bool):jM .b (.bool p) (.bool q)=some (p==q):=rfl
end
end
section
open Go (IntKind)
section
variable {P:aK} {L:Lib}
def jr {n:Nat} {sp:List AV->Option AV} (h:L.pure n=some sp) {f:cA} (av:List AV):bL P L f n av=sp av:=by simp only [bL,h]
abbrev U64 (n:Int):AV:= .int .u64 n
def aAH {n:Int} (h1:0<=n) (h2:n<18446744073709551616):IntKind.wrap .u64 n=n:=by
 simp only [IntKind.wrap,IntKind.signed,IntKind.bits]
 grind
def aiD (n:Int):pG (.toInt .u64) (ab n)=some (U64 (IntKind.wrap .u64 n)):=rfl
def Nr (n:Int):pG (.toInt .i64) (U64 n)=some (ab (IntKind.wrap .i64 n)):=rfl
def I3 (b:Bool):Kc true (some b)=some (.bool (!b)):=by cases b<;>rfl
def cu (a b:AV) (r:List AV):iy 2 true (a::b::r)=some (.agg [a,b]):=rfl
def jx (a b c d:AV) (r:List AV):iy 4 true (a::b::c::d::r)=some (.agg [a,b,c,d]):=rfl
def aqL {a b:Int} (hb:0<b):(a.tmod b<0->a/b=a.tdiv b-1/\a%b=a.tmod b+b)/\(¬a.tmod b<0->a/b=a.tdiv b/\a%b=a.tmod b):=by
 have h1:=Int.mul_tdiv_add_tmod a b;have h2:a.tmod b<b:=Int.tmod_lt_of_pos a hb;have h3: -b<a.tmod b:=Int.lt_tmod_of_pos a hb;refine ⟨fun h=>(tj hb).2 ⟨?_,?_,?_⟩,fun h=>(tj hb).2 ⟨?_,?_,?_⟩⟩
 ·grind
 ·omega
 ·omega
 ·omega
 ·omega
 ·omega
def asP (a b:Nat) (hb:b≠0):wN b (a%b)=wN a b:=by
 rw [uY b,<-ybN,uY]
end
end
section
def dB (a b:Int):Int:=a/(vc a b:Nat)
def dF (a b:Int):Int:=b/(vc a b:Nat)
def MZ {a b:Int} (hb:0<b):(0:Int)<(vc a b:Nat):=by
 have:=Int.gcd_pos_of_ne_zero_right a (show b≠0 by omega)
 omega
def ayB (a b:Int):a=(vc a b:Nat)*dB a b:=(yar (tr a b)).symm
def ayC (a b:Int):b=(vc a b:Nat)*dF a b:=(yar (tc a b)).symm
def Ii {a b:Int} (hb:0<b):0<dF a b:=by
 have h1:=MZ (a:=a) hb;have h2:=ayC a b;rcases Int.lt_trichotomy (dF a b) 0 with h | h | h
 ·have:=Int.mul_neg_of_pos_of_neg h1 h;omega
 ·grind
 ·exact h
def adR (a b:Int):(dB a b).natAbs<=a.natAbs:=by
 unfold dB;rw [um (tr a b)];exact vH _ _
def adS (a b:Int):(dF a b).natAbs<=b.natAbs:=by
 unfold dF;rw [um (tc a b)];exact vH _ _
def pN (a b:Int):List Nat:=if dF a b=1 then aZ (dB a b) else aZ (dB a b)++[47]++aZ (dF a b)
end
section
def ajl {a b:Nat} (h:¬a<b):yQ a b=false:=by
 cases hb:yQ a b with
 | false=>rfl
 | true=>exact absurd (yy hb) (by omega)
def Ss:∀(f n:Nat) (acc:List Nat),n<f->mP f n acc=mP f n []++acc
 | 0,_,_,h=>by omega
 | f+1,n,acc,h=>by
  simp only [mP];by_cases h1:n<10
  ·rw [show yQ n 10=true from ym h1];rfl
  ·rw [show yQ n 10=false from ajl (by omega)];rw [Ss f (n/10) _ (by omega),Ss f (n/10) [48+n%10] (by omega)]
   simp
def RB {f n:Nat} (h:n<10):mP (f+1) n []=[48+n]:=by
 simp only [mP];rw [show yQ n 10=true from ym h];rfl
def Su {f n:Nat} (h:¬n<10) (hf:n<=f):mP (f+1) n []=mP f (n/10) []++[48+n%10]:=by
 rw [<-Ss f (n/10) _ (by omega)];simp only [mP];rw [show yQ n 10=false from ajl (by omega)];rfl
def asQ:∀(n f:Nat),n<f->mP f n []=aB n:=by
 intro n
 induction n using vQ with
 | _ n ih=>
  intro f hf;obtain ⟨g,rfl⟩:∃g,f=g+1:=⟨f-1,by omega⟩;by_cases h:n<10
  ·rw [RB h];unfold aB;rw [RB h]
  ·rw [Su h (by omega),ih (n/10) (by omega) g (by omega)];unfold aB;rw [Su h (yu n),ih (n/10) (by omega) n (by omega)];rfl
def oW {n:Nat} (h:n<10):aB n=[48+n]:=RB h
def qG {n:Nat} (h:¬n<10):aB n=aB (n/10)++[48+n%10]:=by
 rw [show aB n=mP (n+1) n [] from rfl,Su h (yu n),asQ (n/10) n (by omega)]
def rJ:∀{k n:Nat},n<10^(k+1)->(aB n).length<=k+1
 | 0,n,h=>by rw [oW (by simpa using h)];simp
 | k+1,n,h=>by
  by_cases h1:n<10
  ·rw [oW h1];simp
  ·rw [qG h1,yG]
   have:n/10<10^(k+1):=by
    grind
   have:=rJ this
   grind
def L6 {n:Nat} (h:n<18446744073709551616):(aB n).length<=20:=rJ (k:=19) (by omega)
def lA (n:Nat):aZ (n:Int)=aB n:=rfl
def mO {n:Int} (h:n<0):aZ n=45::aB n.natAbs:=by
 cases n with
 | ofNat n=>exact absurd h (by simp)
 | negSucc n=>rfl
def bZ:List Nat->Nat
 | []=>0
 | b::r=>if b=47 then 0 else bZ r+1
def aoD {s:List Nat} {i:Nat} (h:i<s.length):bZ (s.drop i)=if s[i]=47 then 0 else bZ (s.drop (i+1))+1:=by
 rw [yP h];rfl
def H7:∀s:List Nat,bZ s<=s.length
 | []=>yu _
 | b::r=>by
  unfold bZ
  have:=H7 r
  grind
def dj:List Nat->Bool
 | []=>true
 | b::r=>yF 48 b&&yF b 57&&dj r
def LO:∀(a b:List Nat),dj (a++b)=(dj a&&dj b)
 | [],b=>by simp [dj]
 | x::a,b=>by simp [dj,LO a b,Bool.and_assoc]
def H8 (n:Nat):dj (aB n)=true:=by
 induction n using vQ with
 | _ n ih=>
  by_cases h:n<10
  ·rw [oW h];simp [dj];omega
  ·rw [qG h,LO,ih (n/10) (by omega)];simp [dj];omega
def LP:∀{s:List Nat} (r:List Nat),dj s=true->bZ (s++r)=s.length+bZ r
 | [],r,_=>by simp
 | b::s,r,h=>by
  simp only [dj,yg] at h;have h1:=yy h.1.1;simp only [xk,bZ,yz];rw [yx (by omega),LP r h.2];omega
def LQ:∀(l:List Nat) (a d:Nat),d<10->cP (l++[48+d]) a=(cP l a).map (fun v=>10*v+d)
 | [],a,d,h=>by
  simp only [xB,cP];rw [show yF 48 (48+d)=true from ym (by omega),show yF (48+d) 57=true from ym (by omega)]
  simp
 | b::l,a,d,h=>by
  simp only [xk,cP]
  cases (yF 48 b&&yF b 57) with
  | true=>exact LQ l _ d h
  | false=>rfl
def Cy (n:Nat):cP (aB n) 0=some n:=by
 induction n using vQ with
 | _ n ih=>
  by_cases h:n<10
  ·rw [oW h]
   have:=LQ [] 0 n h
   simpa [cP] using this
  ·rw [qG h,LQ _ _ _ (by omega),ih (n/10) (by omega)]
   simp;omega
def aqM {s:List Nat} {i a v:Nat} (h:i<s.length) (hv:cP (s.drop i) a=some v):48<=s[i]/\s[i]<=57/\cP (s.drop (i+1)) (10*a+(s[i]-48))=some v:=by
 rw [yP h] at hv;simp only [cP] at hv
 cases hb:(yF 48 s[i]&&yF s[i] 57) with
 | false=>rw [hb] at hv;cases hv
 | true=>
  simp_all
def iJ:Nat->Nat->List Nat
 | 0,_=>[]
 | k+1,n=>iJ k (n/10)++[48+n%10]
def R3:∀k n,(iJ k n).length=k
 | 0,_=>rfl
 | k+1,n=>by simp [iJ,R3 k]
def MB:∀(k m r:Nat),0<m->r<10^k->aB (m*10^k+r)=aB m++iJ k r
 | 0,m,r,_,h=>by simp at h;subst h;simp [iJ]
 | k+1,m,r,hm,h=>by
  have h1:m*10^(k+1)+r=(m*10^k)*10+r:=by grind
  have hp:0<m*10^k:=yae hm (Nat.pow_pos (by decide));have e1:(m*10^(k+1)+r)/10=m*10^k+r/10:=by omega
  have e2:(m*10^(k+1)+r)%10=r%10:=by omega
  rw [qG (by omega),e1,e2,MB k m (r/10) hm (by rw [xd] at h;omega)];simp [iJ]
def adT:∀(k r a:Nat),r<10^k->cP (iJ k r) a=some (a*10^k+r)
 | 0,r,a,h=>by simp at h;subst h;simp [iJ,cP]
 | k+1,r,a,h=>by
  rw [iJ,LQ _ _ _ (xF _ (by decide)),adT k (r/10) a (by omega)];simp only [wM,yd,xd]
  grind
def asR {m:Nat} (h:1000000000<=m):aB m=aB (m/1000000000)++iJ 9 (m%1000000000):=by
 have:=MB 9 (m/1000000000) (m%1000000000) (by omega) (by omega)
 grind
end
section
open Go (IntKind)
def ix (s:List Nat) (l h:Option Nat):Option AV:=
 match l,h with
 | some l,some h=>bif yF l h&&yF h s.length then some (.str ((s.take h).drop l)) else none
 | _,_=>none
def eO (hp:Hp) (s:List Nat) (tm:Env) (lo hi:Option X):ff hp .str (.str s) tm lo hi=ix s (dc tm 0 lo) (dc tm s.length hi):=by
 unfold ix;simp only [ff]
 grind
def fb (tm:Env) (d:Nat):dc tm d none=some d:=rfl
def dM (tm:Env) (d:Nat) (x:X):dc tm d (some x)=dE (aA tm x):=rfl
def lC {s:List Nat} {l h:Nat} (h1:l<=h) (h2:h<=s.length):ix s (some l) (some h)=some (.str ((s.take h).drop l)):=by
 simp [ix,ym h1,ym h2]
def gH {a b:List Nat} (h:a.length+b.length<=9223372036854775807):binOp .add (.str a) (.str b)=some (.str (a++b)):=by
 show I7 .add a b=_
 simp only [I7,ym h,yA]
def au0 (k:y7) (n:Int):pG (.toInt .i64) (.int k n)=some (ab (IntKind.wrap .i64 n)):=rfl
def lD (a b:List Nat):binOp .eql (.str a) (.str b)=some (.bool (cY a b)):=rfl
def qI {s:List Nat} {i:Nat} (h:i<s.length):mT i (.str s)=some (.int .u8 (s[i]:Nat)):=by
 simp only [mT,xM h]
def abW {r:Nat} (h:r<10):ix [48,49,50,51,52,53,54,55,56,57] (some r) (some (r+1))=some (.str [48+r]):=by
 have:r=0\/r=1\/r=2\/r=3\/r=4\/r=5\/r=6\/r=7\/r=8\/r=9:=by omega
 rcases this with rfl | rfl | rfl | rfl | rfl | rfl | rfl | rfl | rfl | rfl<;>rfl
section
variable {P:aK} {L:Lib}
def YD (h:Has P L 292 zU) {n:Nat} (hn:n<9223372036854775808):ak P L 292 [ab n,ab 1] (.str (aB n)):=by
 have key:=gh (P:=P) (L:=L) (live:=[0,1,5]) (a:=nW)
  (I:=fun k st=>∃(m:Nat) (s:List Nat),st=⟨[(0,ab m),(1,ab 1),(5,.str s)],[],0,0⟩/\m<=n/\m+(1-s.length)=k/\s.length<=20/\((s=[]/\m=n)\/(0<s.length/\(m=0->s=aB n)/\(0<m->aB n=aB m++s))))
  (Q:=fun ex st=>∃tm ct,st=⟨tm,[],ct,0⟩/\ex= .exit 0/\ai tm 5= .str (aB n)) ?_
 ·unfold ak;rw [aH h];simp only [go_sem,zU];generalize hq:D P L (.loop [0,1,5] nW) _=q;obtain ⟨ex,st,rfl,tm,ct,rfl,rfl,h2⟩:=bJ hq (key (n+1)) ⟨n,[],by simp only [go_sem,ya,ax]<;>rfl,by omega,rfl,by simp,.inl ⟨rfl,rfl⟩⟩
  simp only [go_sem,ax,h2]
 ·rintro k st ⟨m,s,rfl,hm,hk,hl,hs⟩;by_cases sT:0<m\/s.length<1
  ·left
   have hc:((decide ((0:Int)<m))=true)\/((decide ((0:Int)<m))=false/\((s.length:Nat):Int)<1):=by
    by_cases h0:0<m
    ·exact .inl (xn (by omega))
    ·exact .inr ⟨y8 (by omega),by omega⟩
   have hr:((m:Int)).tmod 10=((m%10:Nat):Int):=by rw [wB (by omega)];rfl
   have hq:((m:Int)).tdiv 10=((m/10:Nat):Int):=by rw [Int.tdiv_eq_ediv_of_nonneg (by omega)];rfl
   have hd:=abW (r:=m%10) (by omega);have fin:∃s' k',D P L nW ⟨[(0,ab m),(1,ab 1),(5,.str s)],[],0,0⟩=some (.normal,s')/\k'<k/\aI [0,1,5] s'=⟨[(0,ab (m/10:Nat)),(1,ab 1),(5,.str ([48+m%10]++s))],[],0,0⟩/\m/10+(1-([48+m%10]++s).length)=k':=by
    rcases hc with hc | ⟨hc,sN⟩
    ·have hc:(0:Int)<m:=of_decide_eq_true hc
     simp only [go_sem,ya,yb,nW,hc,iV _ _ _ (show (10:Int)≠0 by decide),gG _ _ _ (show (10:Int)≠0 by decide),hr,hq,wrapN (n:=m%10+1) (by omega),wrap64 (n:=((m/10:Nat):Int)) (by omega) (by omega),eO,dM,show ((m%10:Nat):Int)+1=((m%10+1:Nat):Int) from rfl,hd,gH (a:=[48+m%10]) (b:=s) (by simp;omega)];refine ⟨_,_,rfl,?_,by simp only [go_sem,ya,ax],rfl⟩
     simp;omega
    ·have hc:¬(0:Int)<m:=of_decide_eq_false hc
     simp only [go_sem,ya,yb,nW,hc,sN,iV _ _ _ (show (10:Int)≠0 by decide),gG _ _ _ (show (10:Int)≠0 by decide),hr,hq,wrapN (n:=m%10+1) (by omega),wrap64 (n:=((m/10:Nat):Int)) (by omega) (by omega),eO,dM,show ((m%10:Nat):Int)+1=((m%10+1:Nat):Int) from rfl,hd,gH (a:=[48+m%10]) (b:=s) (by simp;omega)];refine ⟨_,_,rfl,?_,by simp only [go_sem,ya,ax],rfl⟩
     simp;omega
   obtain ⟨s',k',f1,f2,f3,f4⟩:=fin;refine ⟨s',k',f1,f2,m/10,[48+m%10]++s,f3,by omega,f4,?_,.inr ⟨by simp,fun h0=>?_,fun h0=>?_⟩⟩
   ·have aIX:=L6 (n:=n) (by omega);rcases hs with ⟨rfl,rfl⟩ | ⟨h1,h2,h3⟩
    ·simp
    ·by_cases h0:0<m
     ·have e:=congrArg tG (h3 h0);have e2:0<(aB m).length:=by
       by_cases h9:m<10
       ·rw [oW h9];simp
       ·rw [qG h9];simp
      simp only [yG] at e
      simp;omega
     ·omega
   ·have h9:m<10:=by omega
    rcases hs with ⟨rfl,rfl⟩ | ⟨h1,h2,h3⟩
    ·rw [oW h9,yW h9];rfl
    ·have:0<m:=by omega
     rw [h3 this,oW h9,yW h9]
   ·have h9:¬m<10:=by omega
    rcases hs with ⟨rfl,rfl⟩ | ⟨h1,h2,h3⟩
    ·rw [qG h9];simp
    ·rw [h3 (by omega),qG h9];simp
  ·right
   simp only [go_sem,ya,nW,show ¬(0:Int)<m by omega,show ¬((s.length:Nat):Int)<1 by omega];refine ⟨_,_,rfl,by simp,_,_,rfl,rfl,?_⟩;simp only [go_sem,ya];rcases hs with ⟨rfl,rfl⟩ | ⟨h1,h2,h3⟩
   ·simp at sT
   ·rw [h2 (by omega)]
def aBS (h:Has P L 291 JP) {a b:Nat} (ha:a<9223372036854775808) (hb:b<9223372036854775808):ak P L 291 [ab a,ab b] (ab (wN a b)):=by
 have key:=gh (P:=P) (L:=L) (live:=[0,1]) (a:=IW)
  (I:=fun k st=>∃x y:Nat,st=⟨[(0,ab x),(1,ab y)],[],0,0⟩/\y=k/\wN x y=wN a b)
  (Q:=fun ex st=>∃tm ct,st=⟨tm,[],ct,0⟩/\ex= .exit 0/\ai tm 0=ab (wN a b)) ?_
 ·unfold ak;rw [aH h];simp only [go_sem,JP];generalize hq:D P L (.loop [0,1] IW) _=q;obtain ⟨ex,st,rfl,tm,ct,rfl,rfl,h2⟩:=bJ hq (key b) ⟨a,b,by simp only [go_sem,ya,ax]<;>rfl,rfl,rfl⟩
  simp only [go_sem,ax,h2]
 ·rintro k st ⟨x,y,rfl,rfl,hg⟩;by_cases hy:y=0
  ·right
   subst hy;simp only [go_sem,ya,IW,show ¬(0:Int)<((0:Nat):Int) by omega];refine ⟨_,_,rfl,by simp,_,_,rfl,rfl,?_⟩;simp only [go_sem,ya];rw [<-hg,Nat.gcd_zero_right]
  ·left
   have hr:((x:Int)).tmod y=((x%y:Nat):Int):=by rw [wB (by omega)];rfl
   simp only [go_sem,ya,IW,show (0:Int)<y by omega,iV _ _ _ (show (y:Int)≠0 by omega),hr];refine ⟨_,x%y,rfl,xF _ (by omega),y,x%y,by simp only [go_sem,ya,ax],rfl,?_⟩;rw [<-hg,uY y,<-ybN,uY]
end
end
section
open Go (IntKind)
section
variable {P:aK} {L:Lib}
def FZ (h:Has P L 272 JM) {s:List Nat} (hl:s.length<9223372036854775808):ak P L 272 [.str s] (ab (bZ s)):=by
 have key:=gh (P:=P) (L:=L) (live:=[0,3]) (a:=EU)
  (I:=fun k st=>∃i:Nat,st=⟨[(0,.str s),(3,ab i)],[],0,0⟩/\i+k=s.length/\i+bZ (s.drop i)=bZ s)
  (Q:=fun ex st=>∃tm ct,st=⟨tm,[],ct,0⟩/\((ex= .ret/\ai tm 2=ab (bZ s))\/(ex= .exit 0/\ai tm 0= .str s/\bZ s=s.length))) ?_
 ·unfold ak;rw [aH h];simp only [go_sem,JM];generalize hq:D P L (.loop [0,3] EU) _=q;obtain ⟨ex,st,rfl,tm,ct,rfl,h2⟩:=bJ hq (key s.length) ⟨0,by simp only [go_sem,ya,ax]<;>rfl,by omega,by simp⟩
  rcases h2 with ⟨rfl,h2⟩ | ⟨rfl,h2,h3⟩
  ·simp only [go_sem,h2]
  ·simp only [go_sem,ax,h2,h3]
 ·rintro k st ⟨i,rfl,hk,hs⟩;by_cases hi:i<s.length
  ·rw [aoD hi] at hs;by_cases h7:s[i]=47
   ·right
    rw [yM h7] at hs;simp only [go_sem,ya,EU,show (i:Int)<s.length by omega,qI hi,show ((s[i]:Nat):Int)=47 by omega];refine ⟨_,_,rfl,by simp,_,_,rfl,.inl ⟨rfl,?_⟩⟩;simp only [go_sem];rw [<-hs];rfl
   ·left
    rw [yx h7] at hs;simp only [go_sem,ya,EU,show (i:Int)<s.length by omega,qI hi,show ¬((s[i]:Nat):Int)=47 by omega];refine ⟨_,k-1,rfl,by omega,i+1,?_,by omega,by omega⟩;rw [wrap64 (by omega) (by omega)];simp only [go_sem,ya,ax]<;>rfl
  ·right
   simp only [go_sem,ya,EU,show ¬(i:Int)<s.length by omega];refine ⟨_,_,rfl,by simp,_,_,rfl,.inr ⟨rfl,by simp only [go_sem,ya],?_⟩⟩;rw [xf (by omega)] at hs;simp only [bZ] at hs;omega
def Ke (h:Has P L 290 Fx) {s:List Nat} {v:Nat} (hl:s.length<=18) (hv:cP s 0=some v):ak P L 290 [.str s] (ab v):=by
 have key:=gh (P:=P) (L:=L) (live:=[0,3,4]) (a:=IV)
  (I:=fun k st=>∃i a:Nat,st=⟨[(0,.str s),(3,ab a),(4,ab i)],[],0,0⟩/\i+k=s.length/\a<10^i/\cP (s.drop i) a=some v)
  (Q:=fun ex st=>∃tm ct,st=⟨tm,[],ct,0⟩/\ex= .exit 0/\ai tm 3=ab v) ?_
 ·unfold ak;rw [aH h];simp only [go_sem,Fx];generalize hq:D P L (.loop [0,3,4] IV) _=q;obtain ⟨ex,st,rfl,tm,ct,rfl,rfl,h2⟩:=bJ hq (key s.length) ⟨0,0,by simp only [go_sem,ya,ax]<;>rfl,by omega,by simp,hv⟩
  simp only [go_sem,ax,h2]
 ·rintro k st ⟨i,a,rfl,hk,ha,hs⟩;by_cases hi:i<s.length
  ·left
   obtain ⟨h1,h2,h3⟩:=aqM hi hs;have hp:10^i<=10^17:=xh (by decide) (by omega);have hb:IntKind.wrap .i64 ((s[i]:Nat):Int)=((s[i]:Nat):Int):=wrap64 (by omega) (by omega)
   simp only [go_sem,ya,IV,show (i:Int)<s.length by omega,qI hi,au0,hb,wrap64 (n:=10*(a:Int)) (by omega) (by omega),wrap64 (n:=10*(a:Int)+(s[i]:Nat)) (by omega) (by omega),wrap64 (n:=10*(a:Int)+(s[i]:Nat)-48) (by omega) (by omega)];refine ⟨_,k-1,rfl,by omega,i+1,10*a+(s[i]-48),?_,by omega,?_,h3⟩
   ·rw [wrap64 (by omega) (by omega),show 10*(a:Int)+(s[i]:Nat)-48=((10*a+(s[i]-48):Nat):Int) by omega];simp only [go_sem,ya,ax]<;>rfl
   ·rw [xd];omega
  ·right
   simp only [go_sem,ya,IV,show ¬(i:Int)<s.length by omega];refine ⟨_,_,rfl,by simp,_,_,rfl,rfl,?_⟩;rw [xf (by omega)] at hs;simp only [cP,yd] at hs;subst hs;simp only [go_sem,ya]
def M0 (a:Int):(if 0-a>a then 0-a else a)=(a.natAbs:Int):=by omega
def MC (a b:Int):a.tdiv (vc a b:Nat)=dB a b:=tV (tr a b)
def MD (a b:Int):b.tdiv (vc a b:Nat)=dF a b:=tV (tc a b)
def nO (n:Int):(if n<0 then [45] else [])++aB n.natAbs=aZ n:=by
 split
 ·rename_i h;rw [mO h];rfl
 ·rename_i h;obtain ⟨m,rfl⟩:∃m:Nat,n=m:=⟨n.toNat,by omega⟩;rfl
def asS {n:Int} (h:n.natAbs<18446744073709551616):(aZ n).length<=21:=by
 rw [<-nO]
 have:=L6 h
 grind
def au1 {a b:Int} (hb:0<b):pN a b=(if 1<dF a b then (aZ (dB a b)++[47])++aB (dF a b).natAbs else aZ (dB a b)):=by
 have h:=Ii (a:=a) hb;unfold pN;by_cases h1:dF a b=1
 ·grind
 ·rw [yx h1,yM (by omega)];obtain ⟨m,hm⟩:∃m:Nat,dF a b=m:=⟨(dF a b).toNat,by omega⟩;rw [hm];rfl
def aBT (h:Has P L 277 Dq) (YE:Has P L 291 JP) (qV:Has P L 292 zU) {a b:Int} (ha: -4000000000000000000<=a/\a<=4000000000000000000) (hb:0<b/\b<=4000000000000000000):
  ak P L 277 [ab a,ab b] (.str (pN a b)):=by
 have hn:=adR a b;have hd:=adS a b;have hp:=Ii (a:=a) hb.1;have e1:=aBS YE (a:=a.natAbs) (b:=b.natAbs) (by omega) (by omega);have e2:=YD qV (n:=(dB a b).natAbs) (by omega);have e3:=YD qV (n:=(dF a b).natAbs) (by omega);have hg:=MZ (a:=a) hb.1;rw [show ((b.natAbs:Nat):Int)=b by omega,show wN a.natAbs b.natAbs=vc a b from rfl] at e1;rw [show (((dF a b).natAbs:Nat):Int)=dF a b by omega] at e3;have ns:=asS (n:=dB a b) (by omega);have oE:=L6 (n:=(dB a b).natAbs) (by omega);have hl3:=L6 (n:=(dF a b).natAbs) (by omega);have hT:=au1 (a:=a) hb.1;have hS:=nO (dB a b);unfold ak at e1 e2 e3 ⊢;rw [aH h];by_cases h0:dB a b<0
 ·rw [yM h0] at hS;by_cases h1:1<dF a b
  ·rw [yM h1] at hT
   simp only [go_sem,ya,Dq,show ¬a< -4000000000000000000 by omega,show ¬4000000000000000000<a by omega,show ¬b< -4000000000000000000 by omega,show ¬4000000000000000000<b by omega,show ¬b<0 by omega,wrap64 (n:=0-a) (by omega) (by omega),I2,Ih,M0,e1,gG _ _ _ (show ((vc a b:Nat):Int)≠0 by omega),MC,MD,wrap64 (n:=dB a b) (by omega) (by omega),wrap64 (n:=dF a b) (by omega) (by omega),h0,wrap64 (n:=0-dB a b) (by omega) (by omega),e2,gH (a:=[45]) (b:=aB (dB a b).natAbs) (by simp;omega),hS,h1,gH (a:=aZ (dB a b)) (b:=[47]) (by simp;omega),e3,gH (a:=aZ (dB a b)++[47]) (b:=aB (dF a b).natAbs) (by simp;omega),hT]
  ·rw [yx h1] at hT
   simp only [go_sem,ya,Dq,show ¬a< -4000000000000000000 by omega,show ¬4000000000000000000<a by omega,show ¬b< -4000000000000000000 by omega,show ¬4000000000000000000<b by omega,show ¬b<0 by omega,wrap64 (n:=0-a) (by omega) (by omega),I2,Ih,M0,e1,gG _ _ _ (show ((vc a b:Nat):Int)≠0 by omega),MC,MD,wrap64 (n:=dB a b) (by omega) (by omega),wrap64 (n:=dF a b) (by omega) (by omega),h0,wrap64 (n:=0-dB a b) (by omega) (by omega),e2,gH (a:=[45]) (b:=aB (dB a b).natAbs) (by simp;omega),hS,h1,hT]
 ·rw [yx h0] at hS;by_cases h1:1<dF a b
  ·rw [yM h1] at hT
   simp only [go_sem,ya,Dq,show ¬a< -4000000000000000000 by omega,show ¬4000000000000000000<a by omega,show ¬b< -4000000000000000000 by omega,show ¬4000000000000000000<b by omega,show ¬b<0 by omega,wrap64 (n:=0-a) (by omega) (by omega),I2,Ih,M0,e1,gG _ _ _ (show ((vc a b:Nat):Int)≠0 by omega),MC,MD,wrap64 (n:=dB a b) (by omega) (by omega),wrap64 (n:=dF a b) (by omega) (by omega),h0,wrap64 (n:=0-dB a b) (by omega) (by omega),e2,gH (a:=[]) (b:=aB (dB a b).natAbs) (by simp;omega),hS,h1,gH (a:=aZ (dB a b)) (b:=[47]) (by simp;omega),e3,gH (a:=aZ (dB a b)++[47]) (b:=aB (dF a b).natAbs) (by simp;omega),hT]
  ·rw [yx h1] at hT
   simp only [go_sem,ya,Dq,show ¬a< -4000000000000000000 by omega,show ¬4000000000000000000<a by omega,show ¬b< -4000000000000000000 by omega,show ¬4000000000000000000<b by omega,show ¬b<0 by omega,wrap64 (n:=0-a) (by omega) (by omega),I2,Ih,M0,e1,gG _ _ _ (show ((vc a b:Nat):Int)≠0 by omega),MC,MD,wrap64 (n:=dB a b) (by omega) (by omega),wrap64 (n:=dF a b) (by omega) (by omega),h0,wrap64 (n:=0-dB a b) (by omega) (by omega),e2,gH (a:=[]) (b:=aB (dB a b).natAbs) (by simp;omega),hS,h1,hT]
end
end
section
open Go (IntKind)
def TT (n:Int) (d:Nat):List Nat:=aZ n++(if d=1 then [] else 47::aB d)
def au2 {a b:Int} (hb:0<b):pN a b=TT (dB a b) (dF a b).toNat:=by
 have h:=Ii (a:=a) hb;unfold pN TT;by_cases h1:dF a b=1
 ·grind
 ·rw [yx h1,yx (by omega)];obtain ⟨m,hm⟩:∃m:Nat,dF a b=m:=⟨(dF a b).toNat,by omega⟩;rw [hm,List.append_assoc];rfl
def zh (n:Nat):0<(aB n).length:=by
 by_cases h:n<10
 ·rw [oW h];simp
 ·rw [qG h];simp
def Iw:∀(n:Nat),n<10^(aB n).length:=by
 intro n
 induction n using vQ with
 | _ n ih=>
  by_cases h:n<10
  ·rw [oW h];simpa using h
  ·have:=ih (n/10) (by omega)
   rw [qG h,yG,uG,xd];omega
def adU {n:Nat} (h:(aB n).length<=9):n<1000000000:=
 yU (Iw n) (by simpa using xh (show 0<10 by decide) h)
def Er (n:Nat):∃b r,aB n=b::r/\48<=b/\b<=57:=by
 cases hq:aB n with
 | nil=>have:=zh n;rw [hq] at this;simp at this
 | cons b r=>
  have:=H8 n
  rw [hq] at this;simp only [dj,yg] at this
  simp_all
section
variable {P:aK} {L:Lib}
def Dv (s:List Nat):mT 0 (.str (45::s))=some (.int .u8 45):=rfl
def S5 (q:Bool) (n:Int) (d:Nat):AV:=if q=true then .ae [ab n,ab d,.bool true] else .ae [ab 0,ab 0,.bool false]
def zK (d:Nat):List Nat:=if d=1 then [] else 47::aB d
def apk (d:Nat):bZ (zK d)=0:=by unfold zK;split<;>rfl
def aBU (h:Has P L 276 pK) (BA:Has P L 272 JM) (z8:Has P L 290 Fx) {n:Int} {d:Nat} (hl:(TT n d).length<=20000000000):
  ∃q:Bool,ak P L 276 [.str (TT n d)] (S5 q n d)/\(q=true->n.natAbs<1000000000/\d<1000000000):=by
 generalize hs:TT n d=s at hl;by_cases nE:20<s.length
 ·refine ⟨false,?_,fun h=>by cases h⟩;unfold ak;rw [aH h];simp only [go_sem,ya,pK,show (20:Int)<s.length by omega];rfl
 ·have hu:∃u,u=aB n.natAbs++zK d:=⟨_,rfl⟩;obtain ⟨u,hu⟩:=hu;have hK:∃K,K=(aB n.natAbs).length:=⟨_,rfl⟩;obtain ⟨K,hK⟩:=hK;have Ao:bZ u=K:=by rw [hu,LP _ (H8 _),apk,hK];rfl
  have hlen:u.length=K+(zK d).length:=by rw [hu,hK,yG]
  have hp:=zh n.natAbs;obtain ⟨b,r,hb,kW,hb2⟩:=Er n.natAbs;have DX:(n<0/\s=45::u)\/(¬n<0/\s=u):=by
   by_cases h0:n<0
   ·left;refine ⟨h0,?_⟩;rw [<-hs,hu,TT,mO h0];rfl
   ·right;refine ⟨h0,?_⟩;rw [<-hs,hu,TT,<-nO,yx h0];rfl
  have hul:u.length<=s.length:=by rcases DX with ⟨_,e⟩ | ⟨_,e⟩<;>rw [e]<;>simp
  have B2:0<u.length:=by omega
  have re:u[0]=b:=by
   have:u=b::(r++zK d):=by rw [hu,hb];rfl
   simp [this]
  have e1:=FZ BA (s:=u) (by omega);rw [Ao] at e1;have ew:ix u (some 0) (some K)=some (.str (aB n.natAbs)):=by
   rw [lC (by omega) (by omega),yL,hu,hK,List.take_left]
  unfold ak at e1;by_cases h9:9<K
  ·refine ⟨false,?_,fun h=>by cases h⟩;unfold ak;rw [aH h];rcases DX with ⟨h0,e⟩ | ⟨h0,e⟩
   ·have nE:¬20<u.length+1:=by rw [e] at nE;exact nE
    have kX:ix (45::u) (some 1) (some (u.length+1))=some (.str u):=by rw [lC (s:=45::u) (l:=1) (h:=u.length+1) (by omega) (by simp)];simp
    rw [e];simp only [go_sem,ya,pK,show ¬(20:Int)<((u.length+1:Nat):Int) by omega,show (0:Int)<((u.length+1:Nat):Int) by omega,Dv,eO,fb,dM,kX,e1,show (9:Int)<(K:Int) by omega];rfl
   ·rw [e];simp only [go_sem,ya,pK,show ¬(20:Int)<(u.length:Nat) by omega,show (0:Int)<(u.length:Nat) by omega,qI B2,re,show ¬((b:Nat):Int)=45 by omega,e1,show (9:Int)<(K:Int) by omega];rfl
  ·by_cases iO:10<(zK d).length
   ·refine ⟨false,?_,fun h=>by cases h⟩;unfold ak;rw [aH h];rcases DX with ⟨h0,e⟩ | ⟨h0,e⟩
    ·have nE:¬20<u.length+1:=by rw [e] at nE;exact nE
     have kX:ix (45::u) (some 1) (some (u.length+1))=some (.str u):=by rw [lC (s:=45::u) (l:=1) (h:=u.length+1) (by omega) (by simp)];simp
     rw [e]
     simp only [go_sem,ya,pK,show ¬(20:Int)<((u.length+1:Nat):Int) by omega,show (0:Int)<((u.length+1:Nat):Int) by omega,Dv,eO,fb,dM,kX,e1,show ¬(9:Int)<(K:Int) by omega,wrap64 (n:=(u.length:Int)-(K:Int)) (by omega) (by omega),show (10:Int)<(u.length:Int)-(K:Int) by omega];rfl
    ·rw [e]
     simp only [go_sem,ya,pK,show ¬(20:Int)<(u.length:Nat) by omega,show (0:Int)<(u.length:Nat) by omega,qI B2,re,show ¬((b:Nat):Int)=45 by omega,e1,show ¬(9:Int)<(K:Int) by omega,wrap64 (n:=(u.length:Int)-(K:Int)) (by omega) (by omega),show (10:Int)<(u.length:Int)-(K:Int) by omega];rfl
   ·have e2:=Ke z8 (s:=aB n.natAbs) (by omega) (Cy n.natAbs);unfold ak at e2;have hm:=adU (n:=n.natAbs) (by omega);by_cases hd:d=1
    ·subst hd;have fa:zK 1=[]:=rfl;refine ⟨true,?_,fun _=>⟨hm,by decide⟩⟩;rw [fa] at hlen;simp only [yK,yY] at hlen;unfold ak;rw [aH h];rcases DX with ⟨h0,e⟩ | ⟨h0,e⟩
     ·have nE:¬20<u.length+1:=by rw [e] at nE;exact nE
      have kX:ix (45::u) (some 1) (some (u.length+1))=some (.str u):=by rw [lC (s:=45::u) (l:=1) (h:=u.length+1) (by omega) (by simp)];simp
      rw [e]
      simp only [go_sem,ya,pK,show ¬(20:Int)<((u.length+1:Nat):Int) by omega,show (0:Int)<((u.length+1:Nat):Int) by omega,Dv,eO,fb,dM,kX,e1,show ¬(9:Int)<(K:Int) by omega,wrap64 (n:=(u.length:Int)-(K:Int)) (by omega) (by omega),show ¬(10:Int)<(u.length:Int)-(K:Int) by omega,ew,e2,show ¬(K:Int)<(u.length:Int) by omega,wrap64 (n:=0-(n.natAbs:Int)) (by omega) (by omega)];rw [show 0-(n.natAbs:Int)=n by omega];rfl
     ·rw [e]
      simp only [go_sem,ya,pK,show ¬(20:Int)<(u.length:Nat) by omega,show (0:Int)<(u.length:Nat) by omega,qI B2,re,show ¬((b:Nat):Int)=45 by omega,eO,fb,dM,e1,show ¬(9:Int)<(K:Int) by omega,wrap64 (n:=(u.length:Int)-(K:Int)) (by omega) (by omega),show ¬(10:Int)<(u.length:Int)-(K:Int) by omega,ew,e2,show ¬(K:Int)<(u.length:Int) by omega];rw [show (n.natAbs:Int)=n by omega];rfl
    ·have fa:zK d=47::aB d:=yx hd;have K9:(zK d).length=(aB d).length+1:=by rw [fa];rfl
     have hpd:=zh d;have hd9:=adU (n:=d) (by omega);have e3:=Ke z8 (s:=aB d) (by omega) (Cy d);unfold ak at e3;have sN:ix u (some (K+1)) (some u.length)=some (.str (aB d)):=by
      rw [lC (by omega) (yu _),xD,hu,fa,hK,show (aB n.natAbs).length+1=(aB n.natAbs++[47]).length by simp,show aB n.natAbs++47::aB d=(aB n.natAbs++[47])++aB d by simp,List.drop_left]
     refine ⟨true,?_,fun _=>⟨hm,hd9⟩⟩;unfold ak;rw [aH h];rcases DX with ⟨h0,e⟩ | ⟨h0,e⟩
     ·have nE:¬20<u.length+1:=by rw [e] at nE;exact nE
      have kX:ix (45::u) (some 1) (some (u.length+1))=some (.str u):=by rw [lC (s:=45::u) (l:=1) (h:=u.length+1) (by omega) (by simp)];simp
      rw [e]
      simp only [go_sem,ya,pK,show ¬(20:Int)<((u.length+1:Nat):Int) by omega,show (0:Int)<((u.length+1:Nat):Int) by omega,Dv,eO,fb,dM,kX,e1,show ¬(9:Int)<(K:Int) by omega,wrap64 (n:=(u.length:Int)-(K:Int)) (by omega) (by omega),show ¬(10:Int)<(u.length:Int)-(K:Int) by omega,ew,e2,show (K:Int)<(u.length:Int) by omega,wrapN (n:=K+1) (by omega),show (K:Int)+1=((K+1:Nat):Int) from rfl,sN,e3,wrap64 (n:=0-(n.natAbs:Int)) (by omega) (by omega)];rw [show 0-(n.natAbs:Int)=n by omega];rfl
     ·rw [e]
      simp only [go_sem,ya,pK,show ¬(20:Int)<(u.length:Nat) by omega,show (0:Int)<(u.length:Nat) by omega,qI B2,re,show ¬((b:Nat):Int)=45 by omega,eO,fb,dM,e1,show ¬(9:Int)<(K:Int) by omega,wrap64 (n:=(u.length:Int)-(K:Int)) (by omega) (by omega),show ¬(10:Int)<(u.length:Int)-(K:Int) by omega,ew,e2,show (K:Int)<(u.length:Int) by omega,wrapN (n:=K+1) (by omega),show (K:Int)+1=((K+1:Nat):Int) from rfl,sN,e3];rw [show (n.natAbs:Int)=n by omega];rfl
end
end
end VE
