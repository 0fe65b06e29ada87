import Derived.ChangeSlices
import Derived.ChangeReads
import Derived.ChangeSame
import Derived.OpenShut
import Derived.Lib.AtoiErrMem
import Derived.Attr
import Derived.Test.YtpdlhopnhojpjaaGreatDoorTaf
import Derived.Test.YtpdlhopnhojpjaaGreatDoorTad
import Derived.Test.YtpdlhopnhojpjaaGreatDoorTah
import Derived.Test.YtpdlhopnhojpjaaGreatDoorTai
import Derived.Test.YtpdlhopnhojpjaaGreatDoorTag
set_option linter.all false
set_option maxRecDepth 100000
open Array renaming getElem?_eq_some_iff→xF
open Bool renaming and_eq_true→yi,and_true→uk,true_and→wK
open Go renaming Addr→uK,ChangeSpec→ybQ,DataW→xI,Field→uX,IntKind→xc,MemPlace→wO,Program→xa,TypeId→yH,Value→yj,World→ym
open Int renaming ediv_emod_unique→tD,gcd→vv,gcd_dvd_left→tG,gcd_dvd_right→tz,mul_ediv_cancel'→yaC,natAbs_ediv_of_dvd→uy,tdiv_eq_ediv_of_dvd→yaj,tmod_eq_emod_of_nonneg→wF
open List renaming all_cons→yaJ,append_nil→xT,cons_append→xr,drop→vh,drop_drop→vS,drop_eq_getElem_cons→yP,drop_eq_nil_of_le→xe,drop_zero→yL,eq_nil_of_length_eq_zero→yF,flatMap_cons→yaS,getD_cons_succ→yaB,getD_eq_getElem?_getD→yM,getElem?_cons_zero→vU,getElem?_eq_getElem→y9,length→tR,length_append→yG,length_cons→yy,length_map→yk,length_nil→yO,length_singleton→tn,length_take→yI,mapM_cons→uv,mapM_nil→yae,map_cons→xd,mem_append_left→uZ,mem_append_right→vV,mem_flatMap→uG,nil_append→xp,range→y5,range'→wo,range'_succ→vT,range'_zero→ybc,range_eq_range'→yav,replicate→yf,replicate_succ→xP,set_cons_succ→yaI,take_append_drop→xZ,take_length→xJ,take_of_length_le→yC,take_succ_eq_append_getElem→yT
open Nat renaming add_mul→wS,add_sub_cancel→tS,add_zero→y7,beq→yz,beq_refl→ve,ble→yK,ble_eq_true_of_le→yx,blt→yQ,div_le_self→vM,eq_of_beq_eq_true→yt,eq_zero_or_pos→xB,gcd→wW,gcd_comm→tq,gcd_rec→yca,le_div_iff_mul_le→yay,le_max_left→ui,le_max_right→ua,le_of_ble_eq_true→yB,le_of_lt→tp,le_refl→yq,lt_of_le_of_lt→wY,lt_of_mul_lt_mul_right→tY,min_eq_left→xt,mod_eq_of_lt→yY,mod_lt→xH,mul_add→xK,mul_assoc→xx,mul_comm→xO,mul_le_mul_left→y8,mul_le_mul_right→yS,mul_pos→yaq,mul_zero→xM,pow_le_pow_right→xh,pow_succ→xi,reduceAdd→yd,reduceEqDiff→ya,strongRecOn→uB,zero_add→yg
open Option renaming bind_eq_bind→vK,bind_some→xX,map_some→wV,pure_def→vd
open Option.some renaming injEq→ye
open Prod.mk renaming injEq→yr
namespace VE
open Go (IntKind)
section
open Go
section
variable (P:xa)
def Fp (self:yH->Bool):List uX->Nat->Nat->Bool
 | [],o,n=>yz o n
 | f::r,o,n=>yz f.offset o&&(self f.type&&Fp self r (o+P.cellsOf f.type) n)
def flat:Nat->yH->Bool
 | 0,_=>false
 | n+1,t=>
  match P.underlying t with
  | some .bool | some (.int _) | some (.float _) | some .string=>yz (P.cellsOf t) 1
  | some (.slice e)=>yz (P.cellsOf t) 1&&(yQ 0 (P.cellsOf e)&&flat n e)
  | some (.struct fs)=>Fp P (fun u=>flat n u) fs.toList 0 (P.cellsOf t)
  | some (.array k e)=>yz (P.cellsOf t) (k*P.cellsOf e)&&flat n e
  | _=>false
def cY {H:Type}:Nat->yH->xI H->List AV
 | 0,_,_=>[]
 | n+1,t,d=>
  match P.underlying t,d with
  | some .bool,.lit (.bool b)=>[.bool b]
  | some (.int k),.lit (.int _ m)=>[.int k m]
  | some (.float k),.lit (.float _ b)=>[.dD k b]
  | some .string,.lit (.string s)=>[.str (s.map UInt8.toNat)]
  | some (.slice _),.nil=>[.ab]
  | some (.slice e),.slice j9 spare=>[.aE spare.isEmpty j9.length (j9.flatMap fun x=>cY n e x)]
  | some (.struct fs),.agg parts=>(fs.toList.zip parts).flatMap fun x=>cY n x.1.type x.2
  | some (.array _ e),.agg parts=>parts.flatMap fun x=>cY n e x
  | _,_=>[]
end
section
variable {ae:Nat->Nat} {m:Mp} {S:Nat->Prop} {w:ym}
def aag:∀{a b:List AV} {ef o:Nat},bR ae m S w a ef o->bR ae m S w b ef (o+a.length)->bR ae m S w (a++b) ef o
 | [],b,ef,o,_,h=>by simpa using h
 | x::a,b,ef,o,h1,h2=>by
  exact ⟨h1.1,aag h1.2 (by rw [yy] at h2;rw [show o+1+a.length=o+(a.length+1) by omega];exact h2)⟩
def NC:∀{a b:List AV},aH a=true->aH b=true->aH (a++b)=true
 | [],_,_,h=>h
 | x::a,b,h1,h2=>by
  simp only [aH,xr,yi] at h1 ⊢;exact ⟨h1.1,NC h1.2 h2⟩
def aah:∀{a:List AV} {us:List yj},aA ae m S w a us->a.length=us.length
 | [],us,h=>by simp only [aA] at h;subst h;rfl
 | x::a,us,h=>by
  obtain ⟨u,r,rfl,_,h2⟩:=h;simp [aah h2]
end
section
variable {H:Type} {enc:yH×yj->H} {P:xa} {w:ym} {held:Bool} {ae:Nat->Nat} {m:Mp} {S:Nat->Prop}
def acB {a:uK} {i:Nat} {u:yj} (h:w.cell? (a.add i)=some u):w.cell? ⟨a.block,a.off+i,none⟩=some u/\(i=0->a.spot=none):=by
 by_cases hi:i=0
 ·subst hi;have e:a.add 0=a:=by simp [Addr.add]
  rw [e] at h;have hs:a.spot=none:=by
   cases hq:a.spot with
   | none=>rfl
   | some k=>
    unfold World.cell? at h
    split at h
    ·simp [hq] at h
    all_goals simp_all
  obtain ⟨b,o,sp⟩:=a;simp only at hs;subst hs;exact ⟨by simpa using h,fun _=>rfl⟩
 ·have e:a.add i=⟨a.block,a.off+i,none⟩:=by simp [Addr.add,hi]
  rw [e] at h;exact ⟨h,fun h=>(hi h).elim⟩
def anD (a:uK) (i:Nat):(a.add i).block=a.block:=by unfold Addr.add;split<;>rfl
def arA (a:uK) (i:Nat):(a.add i).off=a.off+i:=by unfold Addr.add;split<;>simp_all
def NO {α β:Type} {f:α->Option β}:∀{l:List α} {r:List β},l.mapM f=some r->r.length=l.length
 | [],r,h=>by simp only [yae,vd,ye] at h;subst h;rfl
 | x::l,r,h=>by
  rw [uv] at h
  cases h1:f x with
  | none=>simp [h1] at h
  | some y=>
   cases h2:l.mapM f with
   | none=>simp [h1,h2] at h
   | some ys=>
    simp only [h1,h2,xX,vK,vd,ye] at h;subst h;simp [NO h2]
def apC {c:AV} {l:List AV} {b o:Nat} (h:bR ae m S w (c::l) b o):b<w.heap.size:=by
 obtain ⟨⟨u,h1,_⟩,_⟩:=h;unfold World.cell? at h1
 cases hq:w.heap[b]? with
 | none=>simp [hq] at h1
 | some o=>exact (xF.1 hq).1
def SF {e:yH} {bt sz:Nat} {f:xI H->List AV} {a:uK} (fg:0<sz)
  (IH:∀(cs:List yj) (d:xI H) (ps:List wO),DataW.trod enc P w 0 (fun _=>true) held bt e cs=some (d,ps)->aA ae m S w (f d) cs/\aH (f d)=true/\cs.length=sz):
  ∀(k j:Nat) (xs:List (xI H×List wO)),(wo j k).mapM (fun i=>(w.cells? 0 (a.add (i*sz)) sz).bind (DataW.trod enc P w 0 (fun _=>true) held bt e))=some xs->
   bR ae m S w ((xs.map (·.1)).flatMap f) a.block (a.off+j*sz)/\aH ((xs.map (·.1)).flatMap f)=true/\((xs.map (·.1)).flatMap f).length=k*sz/\xs.length=k/\(0<k->a.spot=none\/0<j)
 | 0,j,xs,h=>by
  simp only [ybc,yae,vd,ye] at h;subst h;simp [bR,aH]
 | k+1,j,xs,h=>by
  rw [vT,uv] at h
  cases h1:(w.cells? 0 (a.add (j*sz)) sz) with
  | none=>simp [h1] at h
  | some us=>
   cases h2:DataW.trod enc P w 0 (fun _=>true) held bt e us with
   | none=>simp [h1,h2] at h
   | some x=>
    cases h3:(wo (j+1) k).mapM (fun i=>(w.cells? 0 (a.add (i*sz)) sz).bind (DataW.trod enc P w 0 (fun _=>true) held bt e)) with
    | none=>simp [h1,h2,h3] at h
    | some ys=>
     simp only [h1,h2,h3,xX,vK,vd,ye] at h;subst h;obtain ⟨d,ps⟩:=x;obtain ⟨g1,g2,g3⟩:=IH us d ps h2;obtain ⟨k1,k2,k3,k4,_⟩:=SF fg IH k (j+1) ys h3;obtain ⟨_,c2,c3⟩:=World.cells?_some h1;have hl:(f d).length=sz:=by rw [aah g1,g3]
     have hc:∀(i:Nat) (u:yj),us[i]? =some u->w.cell? ⟨a.block,a.off+j*sz+i,none⟩=some u:=by
      intro i u hi;have Hj:i<sz:=by grind
      have h:=c3 i Hj;rw [hi] at h
      have:=(acB h).1
      rwa [anD,arA] at this
     refine ⟨?_,?_,?_,by simp [k4],?_⟩
     ·simp only [xd,yaS];refine aag (Fy _ us _ g1 hc) ?_
      grind
     ·simp only [xd,yaS];exact NC g2 k2
     ·grind
     ·intro _;rcases xB j with hj | hj
      ·left
       have h:=c3 0 fg;have hu:us[0]? =some us[0]:=by simp_all
       rw [hu] at h
       have:=(acB h).2 rfl
       subst hj;simpa [Addr.add] using this
      ·grind
def Zs {bt N:Nat} {n:Nat} {cs:List yj} (hN:cs.length=N)
  (IH:∀(t:yH) (cs:List yj) (d:xI H) (ps:List wO),flat P n t=true->DataW.trod enc P w 0 (fun _=>true) held bt t cs=some (d,ps)->aA ae m S w (cY P n t d) cs/\aH (cY P n t d)=true/\cs.length=P.cellsOf t):
  ∀(r:List uX) (o:Nat) (xs:List (xI H×List wO)),Fp P (fun u=>flat P n u) r o N=true->r.mapM (fun f=>DataW.trod enc P w 0 (fun _=>true) held bt f.type ((cs.drop f.offset).take (P.cellsOf f.type)))=some xs->
   aA ae m S w ((r.zip (xs.map (·.1))).flatMap fun x=>cY P n x.1.type x.2) (cs.drop o)/\aH ((r.zip (xs.map (·.1))).flatMap fun x=>cY P n x.1.type x.2)=true
 | [],o,xs,hf,h=>by
  have:=yt hf
  rw [xe (by omega)];simp [aA,aH]
 | f::r,o,xs,hf,h=>by
  simp only [Fp,yi] at hf;obtain ⟨e1,e2,e3⟩:=hf;have e1:=yt e1;rw [uv] at h
  cases h2:DataW.trod enc P w 0 (fun _=>true) held bt f.type ((cs.drop f.offset).take (P.cellsOf f.type)) with
  | none=>simp [h2] at h
  | some x=>
   cases h3:r.mapM (fun f=>DataW.trod enc P w 0 (fun _=>true) held bt f.type ((cs.drop f.offset).take (P.cellsOf f.type))) with
   | none=>simp [h2,h3] at h
   | some ys=>
    simp only [h2,h3,xX,vK,vd,ye] at h;subst h;obtain ⟨d,ps⟩:=x;obtain ⟨g1,g2,g3⟩:=IH f.type _ d ps e2 h2;obtain ⟨k1,k2⟩:=Zs hN IH r _ ys e3 h3;rw [e1] at g1;have e:cs.drop o=(cs.drop o).take (P.cellsOf f.type)++cs.drop (o+P.cellsOf f.type):=by rw [<-vS];exact (xZ _ _).symm
    rw [e];exact ⟨mr g1 k1,NC g2 k2⟩
def acC {bt sz:Nat} {e:yH} {f:xI H->List AV} {cs:List yj}
  (IH:∀(cs:List yj) (d:xI H) (ps:List wO),DataW.trod enc P w 0 (fun _=>true) held bt e cs=some (d,ps)->aA ae m S w (f d) cs/\aH (f d)=true/\cs.length=sz):
  ∀(k j:Nat) (xs:List (xI H×List wO)),(wo j k).mapM (fun i=>DataW.trod enc P w 0 (fun _=>true) held bt e ((cs.drop (i*sz)).take sz))=some xs->cs.length=(j+k)*sz->
   aA ae m S w ((xs.map (·.1)).flatMap f) (cs.drop (j*sz))/\aH ((xs.map (·.1)).flatMap f)=true
 | 0,j,xs,h,hl=>by
  simp only [ybc,yae,vd,ye] at h;subst h;rw [xe (by rw [hl];simp)]
  simp [aA,aH]
 | k+1,j,xs,h,hl=>by
  rw [vT,uv] at h
  cases h2:DataW.trod enc P w 0 (fun _=>true) held bt e ((cs.drop (j*sz)).take sz) with
  | none=>simp [h2] at h
  | some x=>
   cases h3:(wo (j+1) k).mapM (fun i=>DataW.trod enc P w 0 (fun _=>true) held bt e ((cs.drop (i*sz)).take sz)) with
   | none=>simp [h2,h3] at h
   | some ys=>
    simp only [h2,h3,xX,vK,vd,ye] at h;subst h;obtain ⟨d,ps⟩:=x;obtain ⟨g1,g2,g3⟩:=IH _ d ps h2;obtain ⟨k1,k2⟩:=acC IH k (j+1) ys h3 (by rw [hl];congr 1;omega)
    have e:cs.drop (j*sz)=(cs.drop (j*sz)).take sz++cs.drop ((j+1)*sz):=by rw [wS,Nat.one_mul,<-vS];exact (xZ _ _).symm
    rw [e];exact ⟨mr g1 k1,NC g2 k2⟩
def aa9 (hS:∀b,b<w.heap.size->S b):∀(n bt:Nat) (t:yH) (cs:List yj) (d:xI H) (ps:List wO),flat P n t=true->DataW.trod enc P w 0 (fun _=>true) held bt t cs=some (d,ps)->
  aA ae m S w (cY P n t d) cs/\aH (cY P n t d)=true/\cs.length=P.cellsOf t
 | 0,bt,t,cs,d,ps,hf,h=>by simp [flat] at hf
 | n+1,0,t,cs,d,ps,hf,h=>by simp [DataW.trod] at h
 | n+1,bt+1,t,cs,d,ps,hf,h=>by
  have IH:=aa9 hS n bt;unfold DataW.trod at h;simp only [flat] at hf
  split at h
  ·rename_i hu;simp only [hu] at hf;simp only [ye,yr] at h;obtain ⟨rfl,rfl⟩:=h;simp only [cY,hu];exact ⟨by simp [aA,ai],by simp [aH,a7],by rw [yt hf];rfl⟩
  ·rename_i hu;simp only [hu] at hf
   split at h
   ·rename_i hk;simp only [ye,yr] at h;obtain ⟨rfl,rfl⟩:=h;simp only [cY,hu];refine ⟨?_,by simp [aH,a7],by rw [yt hf];rfl⟩
    rw [hk.1];simp [aA,ai]
   ·cases h
  ·rename_i hu;simp only [hu] at hf
   split at h
   ·rename_i hk;simp only [ye,yr] at h;obtain ⟨rfl,rfl⟩:=h;simp only [cY,hu];refine ⟨?_,by simp [aH,a7],by rw [yt hf];rfl⟩
    rw [hk.1];simp [aA,ai]
   ·cases h
  ·rename_i hu;simp only [hu] at hf
   split at h
   ·simp only [ye,yr] at h;obtain ⟨rfl,rfl⟩:=h;simp only [cY,hu];refine ⟨?_,by simp [aH,a7],by rw [yt hf];rfl⟩
    simp only [aA,ai];exact ⟨_,_,rfl,⟨_,rfl,rfl⟩,rfl⟩
   ·cases h
  ·rename_i hu;simp [hu] at hf
  ·rename_i hu;simp [hu] at hf
  ·rename_i hu;simp only [hu,yi] at hf;simp only [ye,yr] at h;obtain ⟨rfl,rfl⟩:=h;simp only [cY,hu];exact ⟨by simp [aA,ai],by simp [aH,a7],by rw [yt hf.1];rfl⟩
  ·rename_i e a len cap hu;simp only [hu,yi] at hf;obtain ⟨f1,f2,f3⟩:=hf;have fg:=Ae.1 f2;simp only at h
   split at h
   case isFalse=>cases h
   rename_i hc;simp only [xE] at h
   cases h1:(y5 len).mapM fun i=>(w.cells? 0 (a.add (i*P.cellsOf e)) (P.cellsOf e)).bind (DataW.trod enc P w 0 (fun _=>true) held bt e) with
   | none=>rw [h1] at h;simp at h
   | some j9=>
    cases h2:(y5 (cap-len)).mapM fun j=>(w.cells? 0 (a.add ((len+j)*P.cellsOf e)) (P.cellsOf e)).bind (DataW.trod enc P w 0 (fun _=>true) held bt e) with
    | none=>rw [h1] at h;simp [h2] at h
    | some rest=>
     rw [h1] at h;simp only [xX,h2,wV,ye,yr] at h;obtain ⟨rfl,rfl⟩:=h;have hIH:=fun cs d ps h=>IH e cs d ps f3 h
     rw [yav] at h1 h2;obtain ⟨k1,k2,k3,k4,k5⟩:=SF (ae:=ae) (m:=m) (S:=S) fg hIH len 0 j9 h1;have hrl:rest.length=cap-len:=by rw [NO h2];simp
     have iI:cap≠0->a.spot=none:=by
      intro VT;rcases xB len with h0 | h0
      ·subst h0;simp only [yg,Nat.sub_zero] at h2;obtain ⟨_,_,_,_,q5⟩:=SF (ae:=ae) (m:=m) (S:=S) fg hIH cap 0 rest h2;exact (q5 (by omega)).resolve_right (by omega)
      ·exact (k5 h0).resolve_right (by omega)
     simp only [cY,hu,yk];refine ⟨?_,by simp [aH,a7],by rw [yt f1];rfl⟩
     simp only [aA];refine ⟨_,_,rfl,?_,rfl⟩;simp only [ai];by_cases VT:cap=0
     ·subst VT;have lD:len=0:=by omega
      subst lD;have he:j9=[]:=yF k4;subst he;exact .inr ⟨a,rfl,rfl,rfl⟩
     ·obtain ⟨b,o,sp⟩:=a;have iI:=iI VT;simp only at iI;subst iI;refine .inl ⟨b,o,cap,by rw [k4],by omega,fun hx=>?_,?_,k2,by simpa using k1⟩
      ·have:rest.length=0:=by simpa using hx
       omega
      ·generalize hg:((j9.map (·.1)).flatMap fun x=>cY P n e x)=l at k1
       cases l with
       | nil=>exact .inl rfl
       | cons c l=>exact .inr (hS b (apC k1))
  ·rename_i zD x1 Mr fs hu;simp only [hu] at hf
   split at h
   case isFalse=>cases h
   rename_i hlen
   cases h1:fs.toList.mapM fun f=>DataW.trod enc P w 0 (fun _=>true) held bt f.type ((zD.drop f.offset).take (P.cellsOf f.type)) with
   | none=>rw [h1] at h;simp at h
   | some xs=>
    rw [h1] at h;simp only [wV,ye,yr] at h;obtain ⟨rfl,rfl⟩:=h;obtain ⟨k1,k2⟩:=Zs hlen (fun t cs d ps hf h=>IH t cs d ps hf h) fs.toList 0 xs hf h1;simp only [cY,hu];exact ⟨by simpa using k1,k2,hlen⟩
  ·rename_i zD x1 Mr k e hu;simp only [hu,yi] at hf;obtain ⟨f1,f2⟩:=hf;have f1:=yt f1
   split at h
   case isFalse=>cases h
   rename_i hlen
   cases h1:(y5 k).mapM fun i=>DataW.trod enc P w 0 (fun _=>true) held bt e ((zD.drop (i*P.cellsOf e)).take (P.cellsOf e)) with
   | none=>rw [h1] at h;simp at h
   | some xs=>
    rw [h1] at h;simp only [wV,ye,yr] at h;obtain ⟨rfl,rfl⟩:=h;rw [yav] at h1;obtain ⟨k1,k2⟩:=acC (ae:=ae) (m:=m) (S:=S) (fun cs d ps h=>IH e cs d ps f2 h) k 0 xs h1 (by rw [hlen,f1];simp)
    simp only [cY,hu];exact ⟨by simpa using k1,k2,hlen⟩
  all_goals first
   | (cases h;done)
   | (simp_all;done)
def mD (P:xa) (n:Nat) (t:yH) (d:xI H):AV:=
 match P.underlying t with
 | some (.struct _) | some (.array _ _)=> .agg (cY P n t d)
 | _=>(cY P n t d).headD .undef
def arB (hS:∀b,b<w.heap.size->S b) {n base:Nat} {t:yH} {v:yj} {d:xI H} {ps:List wO} (hf:flat P n t=true) (h:DataW.Trod enc P w 0 (fun _=>true) held t v d ps)
  (hv:Value.okWide P w .any base t v):ai ae m S w (mD P n t d) v/\a7 (mD P n t d)=true:=by
 obtain ⟨bt,h⟩:=h;obtain ⟨h1,h2,h3⟩:=aa9 (ae:=ae) (m:=m) hS n bt t _ d ps hf h;have one:v.cells=#[v]->(∀fs,P.underlying t≠some (.struct fs))->(∀k e,P.underlying t≠some (.array k e))->ai ae m S w (mD P n t d) v/\a7 (mD P n t d)=true:=by
  intro hc Hf hna;have e:mD P n t d=(cY P n t d).headD .undef:=by
   unfold mD
   grind
  rw [e];rw [hc] at h1;generalize cY P n t d=l at h1 h2
  cases l with
  | nil=>simp [aA] at h1
  | cons x l=>
   simp only [aA] at h1;simp only [aH,yi] at h2
   grind
 cases n with
 | zero=>simp [flat] at hf
 | succ n=>
  unfold Value.okWide at hv;simp only [flat] at hf
  cases hu:P.underlying t with
  | none=>simp [hu] at hf
  | some ty=>
   rw [hu] at hv hf;cases ty<;>simp only [Bool.false_eq_true] at hf hv
   case struct fs=>
    obtain ⟨cs,rfl,_,_⟩:=hv;have e:mD P (n+1) t d= .agg (cY P (n+1) t d):=by simp only [mD,hu]
    rw [e];exact ⟨by simp only [ai];exact ⟨cs,rfl,h1⟩,by simpa only [a7] using h2⟩
   case array k e=>
    obtain ⟨cs,rfl,_,_⟩:=hv;have e:mD P (n+1) t d= .agg (cY P (n+1) t d):=by simp only [mD,hu]
    rw [e];exact ⟨by simp only [ai];exact ⟨cs,rfl,h1⟩,by simpa only [a7] using h2⟩
   all_goals
    refine one ?_ (by simp [hu]) (by simp [hu])
    cases v with
    | agg cs=>exfalso;simp only [Cell.okWide,Cell.ok,hu] at hv
    | _=>rfl
def Av (P:xa) (n:Nat):List yH->List (xI H)->List AV
 | t::ts,d::ds=>mD P n t d::Av P n ts ds
 | _,_=>[]
def aba (hS:∀b,b<w.heap.size->S b) {n base:Nat}:∀{ts:List yH} {vs:List yj} {ds:List (xI H)} {ps:List wO},ts.all (flat P n)=true->DataW.TrodAll enc P w 0 (fun _=>true) held ts vs ds ps->
  (∀(j:Nat) t v,ts[j]? =some t->vs[j]? =some v->Value.okWide P w .any base t v)->aA ae m S w (Av P n ts ds) vs/\aH (Av P n ts ds)=true
 | [],[],[],_,_,_,_=>by simp [Av,aA,aH]
 | t::ts,v::vs,d::ds,ps,hf,h,hv=>by
  simp only [yaJ,yi] at hf;obtain ⟨p,q,h1,h2,_⟩:=h;obtain ⟨a1,a2⟩:=arB (ae:=ae) (m:=m) hS hf.1 h1 (hv 0 t v rfl rfl);obtain ⟨b1,b2⟩:=aba hS hf.2 h2 (fun j t v h1 h2=>hv (j+1) t v h1 h2);simp only [Av,aA,aH,yi]
  grind
 | [],_::_,_,_,_,h,_=>by simp [DataW.TrodAll] at h
 | [],[],_::_,_,_,h,_=>by simp [DataW.TrodAll] at h
 | _::_,[],_,_,_,h,_=>by simp [DataW.TrodAll] at h
 | _::_,_::_,[],_,_,h,_=>by simp [DataW.TrodAll] at h
end
end
section
open Go
section
variable {H:Type} {enc:yH×yj->H} {P:xa} {w w':ym} {held:Bool} {sp:Nat->Bool}
def amt (hs:∀b,b<w.heap.size->w'.heap[b]? =w.heap[b]?) {a:uK} {u:yj} (h:w.cell? a=some u):w'.cell? a=some u:=by
 have hb:a.block<w.heap.size:=by
  unfold World.cell? at h
  cases hq:w.heap[a.block]? with
  | none=>simp [hq] at h
  | some o=>exact (xF.1 hq).1
 unfold World.cell? at h ⊢;rw [hs _ hb];exact h
def alZ (hs:∀b,b<w.heap.size->w'.heap[b]? =w.heap[b]?) {base:Nat} {a:uK} {n:Nat} {us:List yj} (h:w.cells? base a n=some us):w'.cells? base a n=some us:=by
 unfold World.cells? at h ⊢
 split at h
 ·rename_i hb;rw [yA hb];exact mapM_carry h (fun x y _ _ hx=>amt hs hx)
 ·cases h
def arC {a:uK} {n:Nat} (h:0<n):MemPlace.cell a.block (a.off+0)∈MemPlace.row a n:=by
 unfold MemPlace.row;exact List.mem_map.2 ⟨0,List.mem_range.2 h,rfl⟩
def Zt (hs:∀b,b<w.heap.size->w'.heap[b]? =w.heap[b]?):∀(n bt:Nat) (t:yH) (cs:List yj) (d:xI H) (ps:List wO),flat P n t=true->DataW.trod enc P w 0 (fun _=>true) held bt t cs=some (d,ps)->
  (∀p,p∈ps->sp p.block=true)->DataW.trod enc P w' 0 sp held bt t cs=some (d,ps)
 | 0,bt,t,cs,d,ps,hf,h,hp=>by simp [flat] at hf
 | n+1,0,t,cs,d,ps,hf,h,hp=>by simp [DataW.trod] at h
 | n+1,bt+1,t,cs,d,ps,hf,h,hp=>by
  have IH:=Zt hs n bt;have elem:∀{e:yH} {a:uK} {y:xI H×List wO},flat P n e=true->(w.cells? 0 a (P.cellsOf e)).bind (DataW.trod enc P w 0 (fun _=>true) held bt e)=some y->(∀p,p∈y.2->sp p.block=true)->
    (w'.cells? 0 a (P.cellsOf e)).bind (DataW.trod enc P w' 0 sp held bt e)=some y:=by
   intro e a y he h hq
   cases h1:w.cells? 0 a (P.cellsOf e) with
   | none=>simp [h1] at h
   | some us=>
    rw [h1] at h;rw [alZ hs h1];simp only [xX] at h ⊢;obtain ⟨d,ps⟩:=y;exact IH e us d ps he h hq
  unfold DataW.trod at h ⊢;simp only [flat] at hf
  split at h
  ·exact h
  ·exact h
  ·exact h
  ·exact h
  ·rename_i hu;simp [hu] at hf
  ·rename_i hu;simp [hu] at hf
  ·exact h
  ·rename_i e a len cap hu;simp only [hu,yi] at hf;obtain ⟨f1,f2,f3⟩:=hf;have fg:=Ae.1 f2;simp only at h ⊢
   split at h
   case isFalse=>cases h
   rename_i hc;rw [yA hc];simp only [xE] at h
   cases h1:(y5 len).mapM fun i=>(w.cells? 0 (a.add (i*P.cellsOf e)) (P.cellsOf e)).bind (DataW.trod enc P w 0 (fun _=>true) held bt e) with
   | none=>rw [h1] at h;simp at h
   | some j9=>
    cases h2:(y5 (cap-len)).mapM fun j=>(w.cells? 0 (a.add ((len+j)*P.cellsOf e)) (P.cellsOf e)).bind (DataW.trod enc P w 0 (fun _=>true) held bt e) with
    | none=>rw [h1] at h;simp [h2] at h
    | some rest=>
     rw [h1] at h;simp only [xX,h2,wV,ye,yr] at h;obtain ⟨rfl,rfl⟩:=h;have k1:((y5 len).mapM fun i=>(w'.cells? 0 (a.add (i*P.cellsOf e)) (P.cellsOf e)).bind (DataW.trod enc P w' 0 sp held bt e))=some j9:=
      mapM_carry h1 (fun x y _ hy hx=>elem f3 hx (fun p hq=>hp p (vV _ (uG.2 ⟨y,uZ _ hy,hq⟩))))
     have k2:((y5 (cap-len)).mapM fun j=>(w'.cells? 0 (a.add ((len+j)*P.cellsOf e)) (P.cellsOf e)).bind (DataW.trod enc P w' 0 sp held bt e))=some rest:=
      mapM_carry h2 (fun x y _ hy hx=>elem f3 hx (fun p hq=>hp p (vV _ (uG.2 ⟨y,vV _ hy,hq⟩))))
     have hr:(if sp a.block=true then (y5 (cap-len)).mapM fun j=>(w'.cells? 0 (a.add ((len+j)*P.cellsOf e)) (P.cellsOf e)).bind (DataW.trod enc P w' 0 sp held bt e) else some [])=some rest:=by
      by_cases iI:sp a.block=true
      ·rw [yA iI];exact k2
      ·rw [yo iI];have h0:¬0<(j9.length+rest.length)*P.cellsOf e:=fun h0=>iI (hp _ (uZ _ (arC h0)))
       have hz:j9.length+rest.length=0:=by
        rcases xB (j9.length+rest.length) with h | h
        ·exact h
        ·exact (h0 (yaq h fg)).elim
       have:rest=[]:=yF (by omega)
       rw [this]
     rw [k1];simp only [xX];rw [hr];rfl
  ·rename_i zD x1 Mr fs hu;simp only [hu] at hf
   split at h
   case isFalse=>cases h
   rename_i hlen;rw [yA hlen]
   cases h1:fs.toList.mapM fun f=>DataW.trod enc P w 0 (fun _=>true) held bt f.type ((zD.drop f.offset).take (P.cellsOf f.type)) with
   | none=>rw [h1] at h;simp at h
   | some xs=>
    rw [h1] at h;simp only [wV,ye,yr] at h;obtain ⟨rfl,rfl⟩:=h;have CJ:∀(r:List uX) (o:Nat),Fp P (fun u=>flat P n u) r o (P.cellsOf t)=true->∀f,f∈r->flat P n f.type=true:=by
     intro r
     induction r with
     | nil=>intro o _ f hm;cases hm
     | cons g r ih=>
      intro o hq f hm;simp only [Fp,yi] at hq;rcases List.mem_cons.1 hm with rfl | hm
      ·exact hq.2.1
      ·exact ih _ hq.2.2 f hm
    have k1:(fs.toList.mapM fun f=>DataW.trod enc P w' 0 sp held bt f.type ((zD.drop f.offset).take (P.cellsOf f.type)))=some xs:=
     mapM_carry h1 (fun f y hm hy hx=>IH _ _ y.1 y.2 (CJ _ _ hf f hm) hx (fun p hq=>hp p (uG.2 ⟨y,hy,hq⟩)))
    rw [k1];rfl
  ·rename_i zD x1 Mr k e hu;simp only [hu,yi] at hf
   split at h
   case isFalse=>cases h
   rename_i hlen;rw [yA hlen]
   cases h1:(y5 k).mapM fun i=>DataW.trod enc P w 0 (fun _=>true) held bt e ((zD.drop (i*P.cellsOf e)).take (P.cellsOf e)) with
   | none=>rw [h1] at h;simp at h
   | some xs=>
    rw [h1] at h;simp only [wV,ye,yr] at h;obtain ⟨rfl,rfl⟩:=h;have k1:((y5 k).mapM fun i=>DataW.trod enc P w' 0 sp held bt e ((zD.drop (i*P.cellsOf e)).take (P.cellsOf e)))=some xs:=
     mapM_carry h1 (fun i y _ hy hx=>IH _ _ y.1 y.2 hf.2 hx (fun p hq=>hp p (uG.2 ⟨y,hy,hq⟩)))
    rw [k1];rfl
  all_goals first
   | (cases h;done)
   | (simp_all;done)
def YG (hs:∀b,b<w.heap.size->w'.heap[b]? =w.heap[b]?) {n:Nat}:∀{ts:List yH} {vs:List yj} {ds:List (xI H)} {ps:List wO},ts.all (flat P n)=true->DataW.TrodAll enc P w 0 (fun _=>true) held ts vs ds ps->
  (∀p,p∈ps->sp p.block=true)->DataW.TrodAll enc P w' 0 sp held ts vs ds ps
 | [],[],[],ps,_,h,_=>by simpa only [DataW.TrodAll] using h
 | t::ts,v::vs,d::ds,ps,hf,h,hp=>by
  simp only [yaJ,yi] at hf;obtain ⟨p,q,⟨bt,h1⟩,h2,rfl⟩:=h;exact ⟨p,q,⟨bt,Zt hs n bt t _ d p hf.1 h1 (fun x hx=>hp x (uZ _ hx))⟩,YG hs hf.2 h2 (fun x hx=>hp x (vV _ hx)),rfl⟩
 | [],_::_,_,_,_,h,_=>by simp [DataW.TrodAll] at h
 | [],[],_::_,_,_,h,_=>by simp [DataW.TrodAll] at h
 | _::_,[],_,_,_,h,_=>by simp [DataW.TrodAll] at h
 | _::_,_::_,[],_,_,h,_=>by simp [DataW.TrodAll] at h
end
end
section
open Go Go.ChangeShapes Go.WideShapes
section
variable {H:Type} {enc:yH×yj->H} {P:xa} {W W':ym}
def anE (hc:Calm W W') (may:wO->Prop):W.keptBut W' may:=by
 refine ⟨hc.os,hc.output,fun i hi=>?_⟩;rw [hc.same i hi]
 cases hq:W.heap[i]? with
 | none=>rfl
 | some o=>cases o<;>simp
def al0 (hc:Calm W W') {b off:Nat} (hb:b<W.heap.size):W'.frozen? ⟨b,off,none⟩=W.frozen? ⟨b,off,none⟩:=by
 unfold World.frozen?;simp only;rw [hc.same b hb]
def apD {fn:Func} {s:ybQ} {apart fresh handsOn again:Bool} {args:Array yj} {ds gs:List (xI H)} {before:List wO} {n:Nat} {tb:yH}
  (hW:DataW.Whole enc P fn.params.toList s.vars apart W args.toList ds gs before) (hv:s.vars=[]) (Pn:fn.params.toList.all (flat P n)=true) (hc:Calm W W')
  (ml:s.fn H (ds++gs)={results:=[.lit (.bool true)],args:=ds}) (GS:fn.resultTypes=#[tb]) (lH:P.underlying tb=some .bool):
  s.post enc P fn apart fresh handsOn again W args (.bool true) W':=by
 have aU:=hW.lt;have Xx:=hW;obtain ⟨p,q,hA,hV,hpq,hz,hn⟩:=hW;rw [hv] at hV;have hq:gs=[]/\q=[]:=by
  cases gs with
  | nil=>exact ⟨rfl,by simpa only [DataW.TrodVars] using hV⟩
  | cons g gs=>simp [DataW.TrodVars] at hV
 obtain ⟨rfl,rfl⟩:=hq;have hbp:before=p:=by rw [hpq];simp
 subst hbp;have gI:∀sp:Nat->Bool,(∀p∈before,sp p.block=true)->DataW.TrodAll enc P W' 0 sp true fn.params.toList args.toList ds before:=fun sp h=>YG hc.same Pn hA h
 have agH:∀(b:Nat) (sp:Nat->Bool) (hd:Bool),DataW.TrodAll enc P W' b sp hd fn.resultTypes.toList ((Value.bool true).resultList fn.resultTypes.size) [.lit (.bool true)] []:=by
  intro b sp hd;rw [GS];refine ⟨[],[],⟨1,?_⟩,rfl,rfl⟩;simp [DataW.trod,lH,Value.cells]
 have hold:∀p∈before,(fun b=>decide (b<W.heap.size)) p.block=true:=fun p hp=>by simpa using aU p hp
 have agI:∀sp:Nat->Bool,DataW.TrodVars enc P W' sp s.vars ([]:List (xI H)) []:=fun sp=>by rw [hv];rfl
 refine ⟨ds,[],before,[],before,[],Xx,by rw [ml];exact agH _ _ _,by rw [ml];exact gI _ hold,by rw [ml];exact agI _,anE hc _,fun _=>?_⟩
 refine ⟨?_,[.lit (.bool true)]++ds,[],[]++before++[],⟨[]++before,[],trodAll_append (gI _ (fun _ _=>rfl)) (agH _ _ _),agI _,rfl,?_,?_⟩,?_⟩
 ·intro j t r h1 h2;rw [GS] at h1 h2
  cases j with
  | zero=>
   simp only [List.getElem?_toArray,vU,ye] at h1;simp only [Value.resultList,List.size_toArray,yy,yO,xE,yg,vU,ye] at h2;subst h1;subst h2;simp [Value.okWide,lH,Cell.okWide,Cell.ok]
  | succ j=>simp at h1
 ·intro b off hp;have hp:MemPlace.cell b off∈before:=by simpa using hp
  rw [al0 hc (b:=b) (aU _ hp)];exact hz b off hp
 ·intro ha
  have:=hn ha
  simpa using this
 ·intro p hp _;simpa using hp
def anF {O:bl} {n k:Nat} {fn:Func} {s:ybQ} {apart fresh handsOn again:Bool} {base:Nat} {args:Array yj} {ds gs:List (xI H)} {before:List wO} {tb:yH}
  (hp:fc O n (Av O.P k fn.params.toList ds) (.bool true)) (jq:O.w0=W) (ml:O.P.funcs[O.ae n]? =some fn) (hb:fn.body.isSome=true) (mi:fn.name≠ "runtime.NumGoroutine")
  (aR:∀(j:Nat) t v,fn.params[j]? =some t->args[j]? =some v->Value.okWide O.P W .any base t v)
  (hW:DataW.Whole enc O.P fn.params.toList s.vars apart W args.toList ds gs before) (hv:s.vars=[]) (Pn:fn.params.toList.all (flat O.P k)=true)
  (hfs:s.fn H (ds++gs)={results:=[.lit (.bool true)],args:=ds}) (GS:fn.resultTypes=#[tb]) (lH:O.P.underlying tb=some .bool):
  Calls O.P (O.ae n) args W fun e W'=>∃v,e= .returned v/\s.post enc O.P fn apart fresh handsOn again W args v W':=by
 have hA:=hW;obtain ⟨p,q,hA,_⟩:=hA;obtain ⟨h1,h2⟩:=aba (ae:=O.ae) (m:=fE) (S:=fun b=>b<W.heap.size) (fun b hb=>hb) Pn hA (fun j t v a b=>aR j t v (by simpa using a) (by simpa using b));have hi:=hp W (fun b=>b<W.heap.size) args ⟨fun b _=>by rw [jq],by rw [jq];exact yq _⟩ (fun b hb=>hb) h1 h2
 have key:∀e W',aaT O W (fun b=>b<W.heap.size) (.bool true) e W'->∃v,e= .returned v/\s.post enc O.P fn apart fresh handsOn again W args v W':=by
  rintro e W' ⟨u,S',rfl,hc,_,_,_,hr⟩;simp only [pq,iV,ai] at hr;obtain ⟨_,_,hu,_⟩:=hr;subst hu;exact ⟨_,rfl,apD hW hv Pn hc hfs GS lH⟩
 rcases hi with ⟨_,hi⟩ | ⟨u,w',hi,_⟩
 ·exact callsIn_wide.1 (hi.mono key)
 ·rw [N6 ml hb mi] at hi;cases hi
end
end
namespace J1
open Go Go.Proofs
noncomputable def O (W:ym):bl:=⟨Tryz.prog,VE.aS,AL pP.ae,VE.prog,Pg pP.b8 pP.hd,W⟩
def aai {w:ym} {k:Nat} {os:Array Go.Obj}:Calm w (Go.Sort.grow (w.drewN k) os):=IZ (Lib.below_grow w.heap.size w (yq _) k os)
def abb {W w:ym} (h:Lib.TabIs Tryz.prog W "internal/strconv.uint64pow10" .u64 Lib.pow10Tab) (hg:B7 (O W) w):Lib.TabIs Tryz.prog w "internal/strconv.uint64pow10" .u64 Lib.pow10Tab:=by
 unfold Lib.TabIs World.var? at h ⊢
 cases hn:Tryz.prog.globalNamed "internal/strconv.uint64pow10" with
 | none=>rw [hn] at h;exact h
 | some g=>
  rw [hn] at h;simp only [xX] at h ⊢;have hb:g<W.heap.size:=by
   cases hq:W.heap[g]? with
   | none=>rw [hq] at h;cases h
   | some o=>exact (xF.1 hq).1
  rw [hg.1 g hb];exact h
def ayE:∀args w,(callFunc 145 args).run Tryz.prog w= .ok (.enter 145 args) w:=enters_of Tryz.func145 (by kernel_rfl) rfl
def ayF:∀args w,(callFunc 144 args).run Tryz.prog w= .ok (.enter 144 args) w:=enters_of Tryz.func144 (by kernel_rfl) rfl
def ayG:∀args w,(callFunc 230 args).run Tryz.prog w= .ok (.enter 230 args) w:=enters_of Tryz.func230 (by kernel_rfl) rfl
def ayH:∀args w,(callFunc 232 args).run Tryz.prog w= .ok (.enter 232 args) w:=enters_of Tryz.func232 (by kernel_rfl) rfl
def ayI:∀args w,(callFunc 233 args).run Tryz.prog w= .ok (.enter 233 args) w:=enters_of Tryz.func233 (by kernel_rfl) rfl
def ayJ:∀args w,(callFunc 217 args).run Tryz.prog w= .ok (.enter 217 args) w:=enters_of Tryz.func217 (by kernel_rfl) rfl
def ayK:∀args w,(callFunc 205 args).run Tryz.prog w= .ok (.enter 205 args) w:=enters_of Tryz.func205 (by kernel_rfl) rfl
def ayL:∀args w,(callFunc 206 args).run Tryz.prog w= .ok (.enter 206 args) w:=enters_of Tryz.func206 (by kernel_rfl) rfl
def ayM:∀args w,(callFunc 207 args).run Tryz.prog w= .ok (.enter 207 args) w:=enters_of Tryz.func207 (by kernel_rfl) rfl
def ayN:∀args w,(callFunc 201 args).run Tryz.prog w= .ok (.enter 201 args) w:=enters_of Tryz.func201 (by kernel_rfl) rfl
def ayO:∀args w,(callFunc 257 args).run Tryz.prog w= .ok (.enter 257 args) w:=enters_of Tryz.func257 (by kernel_rfl) rfl
def ayP:∀args w,(callFunc 278 args).run Tryz.prog w= .ok (.enter 278 args) w:=enters_of Tryz.func278 (by kernel_rfl) rfl
def aw8 (W:ym) (n:Nat) (sp:List AV->Option AV):Prop:=∀ax r,sp ax=some r->fc (O W) n ax r
section
variable {W:ym} {m:Int} (hm:W.cell? ⟨0,0,none⟩=some (.int .i64 m)) (ht:Lib.TabIs Tryz.prog W "internal/strconv.uint64pow10" .u64 Lib.pow10Tab)
include hm ht
theorem aud:ahW.mQ (aw8 W):=
 (Tr.lX (alp (O:=O W) (f:=206) (by rfl) ayL Tryz.strings_TrimPrefix)
  (Tr.lX (alq (O:=O W) (f:=232) (by rfl) ayH (fun z w hz hg=>(Tryz.ali z hz w (abb ht hg)).mono fun _ _ ⟨h1,k,os,h2⟩=>⟨h1,h2▸aai⟩))
  (Tr.lX (als (O:=O W) (f:=144) (by rfl) ayF Tryz.strings_CutPrefix)
  (Tr.lX (ark (O:=O W) (f:=145) (by rfl) ayE (a:=⟨0,0,none⟩) (m:=m) hm (fun s sep w hs hc=>Tryz.strings_Cut s sep m w hs hc))
  Tr.j8 Tr.j8) (Tr.lX (aps (O:=O W) (f:=230) (by rfl) ayG (fun z w h0 h1 hg=>(Tryz.strconv_Itoa z h0 h1 w (abb ht hg)).mono fun _ _ ⟨h1,k,os,h2⟩=>⟨h1,h2▸aai⟩))
  Tr.j8 Tr.j8)) (Tr.lX (anv (O:=O W) (f:=217) (by rfl) ayJ (fun x y w hx hy=>Tryz.bits_Mul64 x y hx hy w))
  (Tr.lX (amr (O:=O W) (f:=233) (by rfl) ayI Tryz.strings_Repeat)
  Tr.j8 Tr.j8) (Tr.lX (alt (O:=O W) (f:=205) (by rfl) ayK Tryz.strings_HasPrefix)
  Tr.j8 Tr.j8))) (Tr.lX (anx (O:=O W) (f:=251) (by rfl) (fun x y c w h=>Tryz.bits_Add64 x y c h w))
  (Tr.lX (apr (O:=O W) (f:=201) (by rfl) ayN (fun s cs w hs fo ha=>Tryz.alF s cs w hs fo ha))
  (Tr.lX (apt (O:=O W) (f:=207) (by rfl) ayM (fun s z w hl h=>(Tryz.strconv_Atoi s z hl h w).mono fun _ _ ⟨h1,t,h2⟩=>⟨h1,h2▸IZ (Lib.bytesWorld_below _ _ _)⟩))
  Tr.j8 Tr.j8) (Tr.lX (apu (O:=O W) (f:=257) (by rfl) ayO (fun x w h0 h1=>Tryz.bits_LeadingZeros64 x w h0 h1))
  Tr.j8 Tr.j8)) (Tr.lX (anw (O:=O W) (f:=278) (by rfl) ayP (fun x w h0 h1=>Tryz.bits_Len64 x w h0 h1))
  (Tr.lX (anz (O:=O W) (f:=253) (by rfl) (fun x y b w h=>Tryz.bits_Sub64 x y b h w))
  Tr.j8 Tr.j8) Tr.j8)))
theorem arD:eU (O W) where
 hint n f g h:=Tr.Dn (p:=fun f g=>AL pP.ae g=f) (Sj pP.atY) h
 mixed:=by kernel_rfl
 prog n F h:=Tr.Dn pP.arz h
 aS n sp ax r h hs:=Tr.Dn (aud hm ht) h ax r hs
 GA n sp hp ct ax v ah aK h:=by cases h
end
end J1
def bH:List Int->Int
 | []=>0
 | a::r=>if a=0 then bH r else a
def R8 {l:List Int} {i:Nat} (h:i<l.length):bH (l.drop i)=if l[i]=0 then bH (l.drop (i+1)) else l[i]:=by
 rw [yP h,bH]
def ol (lo hi:Int):List Int->Bool
 | []=>false
 | a::r=>if a<lo\/hi<a then true else ol lo hi r
def agJ (n:Nat) (lo hi:Int):List (List Int)->Int
 | []=>0
 | r::s=>if r.length≠n then 2 else if ol lo hi r=true then 3 else agJ n lo hi s
def anG (s:List (List Int)):Int:=if s.length=0 then 12 else if 16<s.length then 5 else agJ s.length (-1000) 1000 s
def abc {lo hi:Int} {l:List Int} (h:ol lo hi l=false):∀i (cB:i<l.length),lo<=l[i]/\l[i]<=hi:=by
 induction l with
 | nil=>intro i cB;exact absurd cB (Nat.not_lt_zero _)
 | cons a r ih=>
  simp only [ol] at h
  grind
def anH {lo hi:Int} {l:List Int} (h:ol lo hi l=false):∀i,ol lo hi (l.take i)=false:=by
 induction l with
 | nil=>intro i;simp [ol]
 | cons a r ih=>
  intro i;simp only [ol] at h
  split at h
  ·grind
  ·rename_i hc
   cases i with
   | zero=>simp [ol]
   | succ i=>simp only [List.take_succ_cons,ol,hc,xn,ih h i]
def dv:List Int->Nat
 | []=>0
 | a::r=>a.toNat+1000000000*dv r
def nU:∀(a b:List Int),dv (a++b)=dv a+1000000000^a.length*dv b
 | [],b=>by simp [dv]
 | x::a,b=>by
  simp only [xr,dv,nU a b,yy,xi,xK]
  grind
def qu {l:List Int} (i:Nat):dv (l.take (i+1))=dv (l.take i)+1000000000^i*(l.getD i 0).toNat:=by
 by_cases h:i<l.length
 ·rw [yT h,nU,yI,xt (by omega)];simp [dv,yM,y9 h]
 ·rw [yC (by omega),yC (by omega)]
  grind
abbrev dg (l:List Int):Prop:=ol 0 999999999 l=false
def iM {a b:List Int}:dg (a++b)↔dg a/\dg b:=by
 induction a with
 | nil=>simp [dg,ol]
 | cons x a ih=>
  simp only [dg,xr,ol] at ih ⊢
  grind
def mA {x:Int}:dg [x]↔0<=x/\x<1000000000:=by
 simp only [dg,ol]
 grind
def iQ {l:List Int} (h:dg l) (i:Nat):0<=l.getD i 0/\l.getD i 0<1000000000:=by
 by_cases hi:i<l.length
 ·have:=abc h i hi
  grind
 ·grind
def Dt {l:List Int} (h:dg l) (i:Nat):dg (l.take i):=anH h i
def kh:∀{l:List Int},dg l->dv l<1000000000^l.length
 | [],_=>by simp [dv]
 | x::l,h=>by
  have h':dg ([x]++l):=h;obtain ⟨h1,h2⟩:=iM.1 h';have h1:=mA.1 h1
  have:=kh h2
  simp only [dv,yy,xi];omega
def eA:List Int->List Int
 | []=>[]
 | a::r=>match eA r with | []=>if a=0 then [] else [a] | t::q=>a::t::q
def I1:∀l:List Int,eA (l++[0])=eA l
 | []=>rfl
 | a::l=>by simp only [xr,eA,I1 l]
def ND {a:Int} (h:a≠0):∀l:List Int,eA (l++[a])=l++[a]
 | []=>by simp [eA,h]
 | b::l=>by
  simp only [xr,eA,ND h l]
  cases hq:l++[a] with
  | nil=>simp at hq
  | cons t q=>rfl
def zZ:∀l:List Int,dv (eA l)=dv l
 | []=>rfl
 | a::l=>by
  have ih:=zZ l;simp only [eA,dv]
  split
  ·rename_i h;rw [h] at ih
   split
   ·rename_i h0;subst h0;simp [dv,<-ih]
   ·simp [dv,<-ih]
  ·rename_i t q h;rw [h] at ih;simp only [dv] at ih ⊢;omega
def BH:∀{l:List Int},dg l->dg (eA l)
 | [],_=>rfl
 | a::l,h=>by
  have h':dg ([a]++l):=h;obtain ⟨h1,h2⟩:=iM.1 h';have ih:=BH h2;simp only [eA]
  split
  ·grind
  ·rename_i t q hq;rw [hq] at ih
   exact (iM (a:=[a]) (b:=t::q)).2 ⟨h1,ih⟩
def NP:∀l:List Int,(eA l).length<=l.length
 | []=>yq _
 | a::l=>by
  have ih:=NP l;simp only [eA]
  grind
def snoc {α:Type} (l:List α):l=[]\/∃m a,l=m++[a]:=by
 rcases List.eq_nil_or_concat l with h | ⟨m,a,h⟩
 ·grind
 ·grind
def al1:∀(n:Nat) (l:List Int),l.length=n->eA (eA l)=eA l:=by
 intro n
 induction n with
 | zero=>intro l h;rw [yF h];rfl
 | succ n ih=>
  intro l h;rcases snoc l with rfl | ⟨m,a,rfl⟩
  ·rfl
  ·by_cases h0:a=0
   ·subst h0;rw [I1]
    grind
   ·rw [ND h0,ND h0]
def amu (l:List Int):eA (eA l)=eA l:=al1 _ l rfl
abbrev nz (l:List Int):Prop:=eA l=l
def FH (l:List Int):nz (eA l):=amu l
def Po {l:List Int} (h:nz l) (hd:dg l) (h0:l≠[]):1000000000^(l.length-1)<=dv l:=by
 rcases snoc l with rfl | ⟨m,a,rfl⟩
 ·grind
 ·by_cases ha:a=0
  ·subst ha
   have:=NP m
   have e:=congrArg tR h;rw [I1] at e
   grind
  ·rw [nU]
   have:=mA.1 (iM.1 hd).2
   simp only [dv,yG,tn,tS,xM,y7];have h1:1<=a.toNat:=by omega
   have:=y8 (1000000000^m.length) h1
   omega
def acD {l:List Int} (h:nz l) (hd:dg l) (h0:dv l=0):l=[]:=by
 by_cases hl:l=[]
 ·grind
 ·have:=Po h hd hl
  grind
def Um {a b:List Int} (ha:dg a) (hb:nz b) (cA:dg b) (h:a.length<b.length):dv a<dv b:=by
 have h1:=kh ha;have h2:=Po hb cA (fun e=>by subst e;simp at h);have h3:1000000000^a.length<=1000000000^(b.length-1):=xh (by decide) (by omega);omega
def dY (m n:Nat):Int:=if m<n then -1 else if n<m then 1 else 0
def aet {l:List Int} {i:Nat} (h:i<l.length):dv l=dv (l.take i)+1000000000^i*(l[i].toNat+1000000000*dv (l.drop (i+1))):=by
 have e:l=l.take i++l[i]::l.drop (i+1):=by simp_all
 have:dv l=dv (l.take i++l[i]::l.drop (i+1)):=congrArg dv e
 rw [this,nU,yI,xt (by omega)];rfl
def acE {a b:List Int} {i:Nat} (ha:dg a) (hb:dg b) (h1:i<a.length) (h2:i<b.length) (he:a.drop (i+1)=b.drop (i+1)) (h:a[i]<b[i]):dv a<dv b:=by
 rw [aet h1,aet h2,he];have hl:=kh (Dt ha i);have g1:=abc ha i h1;have h3:a[i].toNat+1000000000*dv (b.drop (i+1))+1<=b[i].toNat+1000000000*dv (b.drop (i+1)):=by omega
 have:=y8 (1000000000^i) h3
 grind
def Un:∀{l:List Int} {j:Nat} {x:Int},j<l.length->dv (l.set j x)+1000000000^j*(l.getD j 0).toNat=dv l+1000000000^j*x.toNat
 | [],j,x,h=>by simp at h
 | a::l,0,x,_=>by simp [dv];omega
 | a::l,j+1,x,h=>by
  have ih:=Un (l:=l) (j:=j) (x:=x) (by simpa using h);simp only [yaI,dv,yaB,xi]
  grind
def OS {l:List Int} (h:dg l) {j:Nat} {x:Int} (hx:0<=x/\x<1000000000):dg (l.set j x):=by
 by_cases hj:j<l.length
 ·rw [List.set_eq_take_append_cons_drop,yA hj];have e:l=l.take (j+1)++l.drop (j+1):=(xZ _ _).symm;have hd:dg (l.drop (j+1)):=by rw [e] at h;exact (iM.1 h).2
  exact iM.2 ⟨Dt h j,(iM (a:=[x]) (b:=l.drop (j+1))).2 ⟨mA.2 hx,hd⟩⟩
 ·rw [List.set_eq_of_length_le (by omega)];exact h
def abd {l:List Int} {j m:Nat} {x:Int} (h:m≠j):(l.set j x).getD m 0=l.getD m 0:=by grind
def apE {V0 V V' p q A X Y o c s:Nat} (hs:s=o+A*X+c) (aT:V'+p*q*o=V+p*q*(s%1000000000)) (hv:V+p*q*c=V0+p*(A*Y)):
  V'+p*(q*1000000000)*(s/1000000000)=V0+p*(A*(Y+q*X)):=by
 have e:=Nat.mod_add_div s 1000000000;have e2:p*q*s=p*q*(s%1000000000)+p*(q*1000000000)*(s/1000000000):=by
  conv=>lhs;rw [<-e]
  rw [xK,<-xx (p*q),<-xx p q]
 have e3:p*q*s=p*q*o+p*q*(A*X)+p*q*c:=by rw [hs,xK,xK]
 have e4:p*(A*(Y+q*X))=p*(A*Y)+p*q*(A*X):=by
  rw [xK,xK,xx p q,<-xx A q X,xO A q,xx q A X]
 omega
def abe (n:Nat):dv (yf n 0)=0:=by
 induction n with
 | zero=>rfl
 | succ n ih=>simp [xP,dv,ih]
def abf (n:Nat):dg (yf n 0):=by
 induction n with
 | zero=>rfl
 | succ n ih=>exact (iM (a:=[0]) (b:=yf n 0)).2 ⟨by decide,ih⟩
def bv (b:Nat):List Nat->Nat
 | []=>0
 | a::r=>a+b*bv b r
def lo (b:Nat) (l:List Nat):Prop:=∀x,x∈l->x<b
section
variable {b:Nat}
def BZ (a:Nat):bv b [a]=a:=by simp [bv]
def sF:∀(l m:List Nat),bv b (l++m)=bv b l+b^l.length*bv b m
 | [],m=>by simp [bv]
 | x::l,m=>by
  simp only [xr,bv,sF l m,yy,xi,xK]
  grind
def gd {l:List Nat} {i:Nat} (h:i<l.length):l[i]=l.getD i 0:=by simp_all
def Uo {l:List Nat} {i:Nat} (h:l.length<=i):l.getD i 0=0:=by simp_all
def jP {l:List Nat} (i:Nat):bv b (l.take (i+1))=bv b (l.take i)+b^i*l.getD i 0:=by
 by_cases h:i<l.length
 ·rw [yT h,sF,yI,xt (by omega),BZ,gd h]
 ·rw [yC (by omega),yC (by omega),Uo (by omega),xM,y7]
def OT:lo b []:=fun _ h=>by simp at h
def NQ {l m:List Nat}:lo b (l++m)↔lo b l/\lo b m:=by
 constructor
 ·intro h;exact ⟨fun x hx=>h x (by simp [hx]),fun x hx=>h x (by simp [hx])⟩
 ·rintro ⟨h1,h2⟩ x hx;rcases List.mem_append.1 hx with h | h
  ·exact h1 x h
  ·exact h2 x h
def F9 {x:Nat}:lo b [x]↔x<b:=by simp [lo]
def iy (hb:0<b) {l:List Nat} (h:lo b l) (i:Nat):l.getD i 0<b:=by
 by_cases hi:i<l.length
 ·rw [<-gd hi];exact h _ (List.getElem_mem hi)
 ·grind
def BQ {l:List Nat} (h:lo b l) (i:Nat):lo b (l.take i):=fun x hx=>h x (List.mem_of_mem_take hx)
def acF {l:List Nat} (h:lo b l) (i:Nat):lo b (l.drop i):=fun x hx=>h x (List.mem_of_mem_drop hx)
def nf {l:List Nat} (h:lo b l) {i x:Nat} (hx:x<b):lo b (l.set i x):=fun y hy=>by
 rcases List.mem_or_eq_of_mem_set hy with h1 | h1
 ·exact h y h1
 ·omega
def Ga (hb:0<b) (n:Nat):lo b (yf n 0):=fun x hx=>by
 grind
def Gb (n:Nat):bv b (yf n 0)=0:=by
 induction n with
 | zero=>rfl
 | succ n ih=>simp [xP,bv,ih]
def Du (n m:Nat):(yf n (0:Nat)).getD m 0=0:=by grind
def nj:∀{l:List Nat},lo b l->bv b l<b^l.length
 | [],_=>by simp [bv]
 | x::l,h=>by
  have h1:=h x (by simp);have h2:=nj (l:=l) (fun y hy=>h y (by simp [hy]));simp only [bv,yy,xi,xO _ b]
  have:=y8 b (show bv b l+1<=b^l.length from h2)
  grind
def ph:∀{l:List Nat} {i x:Nat},i<l.length->bv b (l.set i x)+b^i*l.getD i 0=bv b l+b^i*x
 | [],i,x,h=>by simp at h
 | a::l,0,x,_=>by simp [bv];omega
 | a::l,i+1,x,h=>by
  have ih:=ph (l:=l) (i:=i) (x:=x) (by simpa using h)
  have:=congrArg (fun t=>b*t) ih
  simp only [xK] at this;simp only [yaI,bv,yaB,xi,xO _ b,xx] at this ⊢;omega
def qw {l:List Nat} {i m x:Nat} (h:i≠m):(l.set i x).getD m 0=l.getD m 0:=by simp_all
def amv {l:List Nat} {i x:Nat} (h:i<l.length):(l.set i x).getD i 0=x:=by simp_all
def Jg (l:List Nat) (i:Nat) (h:i<=l.length):bv b l=bv b (l.take i)+b^i*bv b (l.drop i):=by
 have:=sF (b:=b) (l.take i) (l.drop i)
 simp_all
def eB:List Nat->List Nat
 | []=>[]
 | a::r=>match eB r with | []=>if a=0 then [] else [a] | t::q=>a::t::q
def NE:∀l:List Nat,eB (l++[0])=eB l
 | []=>rfl
 | a::l=>by simp only [xr,eB,NE l]
def Fq {a:Nat} (h:a≠0):∀l:List Nat,eB (l++[a])=l++[a]
 | []=>by simp [eB,h]
 | b::l=>by
  simp only [xr,eB,Fq h l]
  cases hq:l++[a] with
  | nil=>simp at hq
  | cons t q=>rfl
abbrev im (l:List Nat):Prop:=eB l=l
def amw:∀(n:Nat) (l:List Nat),l.length=n->∃i,i<=n/\eB l=l.take i/\im (l.take i)/\bv b (l.take i)=bv b l:=by
 intro n
 induction n with
 | zero=>intro l h;rw [yF h];exact ⟨0,yq _,rfl,rfl,rfl⟩
 | succ n ih=>
  intro l h;rcases snoc l with rfl | ⟨m,a,rfl⟩
  ·grind
  ·have hm:m.length=n:=by simp_all
   by_cases h0:a=0
   ·subst h0;obtain ⟨i,h1,h2,h3,h4⟩:=ih m hm;have e:(m++[0]).take i=m.take i:=by grind
    refine ⟨i,by omega,by rw [NE,h2,e],by rw [e];exact h3,?_⟩
    rw [e,h4,sF];simp [bv]
   ·have e:(m++[a]).take (n+1)=m++[a]:=yC (by simp [hm]);exact ⟨n+1,yq _,by rw [e,Fq h0],by rw [e];exact Fq h0 m,by rw [e]⟩
def NR (l:List Nat):∃i,i<=l.length/\eB l=l.take i/\im (eB l)/\bv b (eB l)=bv b l:=by
 obtain ⟨i,h1,h2,h3,h4⟩:=amw (b:=b) l.length l rfl
 grind
def BI (l:List Nat):bv b (eB l)=bv b l:=by
 obtain ⟨_,_,_,_,h⟩:=NR (b:=b) l;exact h
def BJ (l:List Nat):im (eB l):=by
 obtain ⟨_,_,_,h,_⟩:=NR (b:=2) l;exact h
def BK {l:List Nat} (h:lo b l):lo b (eB l):=by
 obtain ⟨i,_,h2,_⟩:=NR (b:=b) l;rw [h2];exact BQ h i
def anI (l:List Nat):(eB l).length<=l.length:=by
 obtain ⟨i,_,h2,_⟩:=NR (b:=2) l
 grind
def N7 {l:List Nat} (h:im l) (h0:l≠[]):l.getD (l.length-1) 0≠0:=by
 rcases snoc l with rfl | ⟨m,a,rfl⟩
 ·grind
 ·intro ha
  have:a=0:=by
   grind
  subst this;have e:=congrArg tR h;rw [NE] at e
  have:=anI m
  grind
def Up (hb:0<b) {l:List Nat} (h:im l) (h0:l≠[]):b^(l.length-1)<=bv b l:=by
 rcases snoc l with rfl | ⟨m,a,rfl⟩
 ·grind
 ·have ha:=N7 h h0;simp [yM] at ha;rw [sF,BZ];simp only [yG,tn,tS]
  have:=y8 (b^m.length) (show 1<=a by omega)
  omega
def Ow (hb:1<b) {l m:List Nat} (hl:lo b l) (hm:im m) (h:l.length<m.length):bv b l<bv b m:=by
 have h1:=nj hl;have h2:=Up (b:=b) (by omega) hm (fun e=>by subst e;simp at h);have h3:b^l.length<=b^(m.length-1):=xh (by omega) (by omega);omega
def acG {l m:List Nat} (hl:lo b l) {i:Nat} (h1:i<l.length) (h2:i<m.length) (he:l.drop (i+1)=m.drop (i+1)) (h:l.getD i 0<m.getD i 0):bv b l<bv b m:=by
 rw [Jg l (i+1) (by omega),Jg m (i+1) (by omega),he,jP,jP]
 have:=nj (BQ hl i)
 have:=y8 (b^i) (show l.getD i 0+1<=m.getD i 0 from h)
 grind
def anJ (hb:1<b) {l:List Nat} {k:Nat} (h:im l) (hk:bv b l<b^k):l.length<=k:=by
 by_cases h0:l=[]
 ·grind
 ·have h1:=Up (b:=b) (by omega) h h0;have h2:b^(l.length-1)<b^k:=wY h1 hk
  have:=(Nat.pow_lt_pow_iff_right hb).1 h2
  omega
def Zu {V v1 v2 vr U u0 u1 u2 ur p t r:Nat} (hV:V=(v1*b+v2)*p+vr) (hU:U=((u0*b+u1)*b+u2)*p+ur) (hur:ur<p)
  (ht:t*v1+r=u0*b+u1) (h:r*b+u2<t*v2):U/V<=t-1:=by
 have h1:U<t*V:=by
  have e:t*((v1*b+v2)*p)=((t*v1)*b+t*v2)*p:=by
   grind
  have h2:((u0*b+u1)*b+u2)+1<=(t*v1)*b+t*v2:=by rw [<-ht,wS];omega
  have h3:=yS p h2;rw [hV,hU,xK,e]
  grind
 have sj:0<V:=by
  grind
 have:=(Nat.div_lt_iff_lt_mul sj).2 h1
 omega
def aaj {V v1 v2 vr U u0 u1 u2 ur p t r:Nat} (hb:0<b) (hV:V=(v1*b+v2)*p+vr) (Ms:vr<p) (hU:U=((u0*b+u1)*b+u2)*p+ur) (fp:0<v1) (dM:v2<b) (lH:t<b)
  (ht:t*v1+r=u0*b+u1) (h:b<=r\/t*v2<=r*b+u2):t<=U/V+1:=by
 have h2:t*v2<=r*b+u2:=by
  rcases h with h | h
  ·have:=Nat.mul_le_mul (tp lH) (tp dM)
   have:=yS b h
   omega
  ·exact h
 have h3:t*(v1*b+v2)<=(u0*b+u1)*b+u2:=by
  rw [xK,<-xx,<-ht,wS];omega
 have hp:0<p:=by omega
 have aEp:b<=v1*b:=Nat.le_mul_of_pos_left b fp;have sj:0<V:=by
  have:=yaq (show 0<v1*b+v2 by omega) hp
  omega
 rcases xB t with h0 | h0
 ·grind
 ·obtain ⟨s,rfl⟩:∃s,t=s+1:=⟨t-1,by omega⟩;have h4:s*V<=U:=by
   have h5:V<=(v1*b+v2+1)*p:=by grind
   have h6:=y8 s h5;have h7:s*(v1*b+v2+1)<=(s+1)*(v1*b+v2):=by
    grind
   have h8:=yS p (Nat.le_trans h7 h3)
   grind
  exact Nat.succ_le_succ ((yay sj).2 h4)
def R9 {V v1 v2 vr U u0 u1 u2 ur p:Nat} (hV:V=(v1*b+v2)*p+vr) (hU:U=((u0*b+u1)*b+u2)*p+ur) (hur:ur<p) (Bf:u2<b) (fp:0<v1):U/V<=(u0*b+u1)/v1:=by
 by_cases sj:V=0
 ·grind
 ·refine (yay fp).2 ?_;have h1:=Nat.div_mul_le_self U V;generalize U/V=q at h1 ⊢;have h2:q*v1*(b*p)<=q*V:=by
   rw [hV,xx]
   grind
  have h3:U<(u0*b+u1+1)*(b*p):=by
   have:(u0*b+u1)*b+u2+1<=(u0*b+u1+1)*b:=by grind
   have:=yS p this
   grind
  have h4:q*v1*(b*p)<(u0*b+u1+1)*(b*p):=by omega
  have:=tY h4
  omega
def aak {V v1 v2 vr U u0 u1 u2 ur p:Nat} (hV:V=(v1*b+v2)*p+vr) (hU:U=((u0*b+u1)*b+u2)*p+ur) (Ms:vr<p) (dM:v2<b) (h:U<b*V):u0<=v1:=by
 refine Nat.le_of_lt_succ ?_;have h1:V<(v1+1)*(b*p):=by
  have:v1*b+v2+1<=(v1+1)*b:=by grind
  have:=yS p this
  grind
 have h2:u0*(b*(b*p))<=U:=by
  grind
 have h3:=y8 b (tp h1);have e:b*((v1+1)*(b*p))=(v1+1)*(b*(b*p)):=by grind
 rw [e] at h3;have h4:u0*(b*(b*p))<(v1+1)*(b*(b*p)):=wY h2 (Nat.lt_of_lt_of_le h h3);exact tY h4
end
section
variable {P:aM} {L:Lib} {f:cG} {F:Nat->cG}
def CQ (f:cG) (F:Nat->cG):Prop:=∀c s r,f c s=some r->∃n,F n c s=some r
def Mon (F:Nat->cG):Prop:=∀n m,n<=m->Le (F n) (F m)
def Nn (h:CQ f F) (n:Nat) (ax:List AV) (r:AV) (hr:bK P L f n ax=some r):∃k,bK P L (F k) n ax=some r:=by
 unfold bK at hr ⊢
 cases hL:L.pure n with
 | some sp=>exact ⟨0,by simpa only [hL] using hr⟩
 | none=>
  simp only [hL] at hr ⊢
  cases hP:P n with
  | none=>simp [hP] at hr
  | some G=>
   simp only [hP] at hr ⊢
   cases hf:f G.body ⟨dN 0 ax,[],0,0⟩ with
   | none=>simp [hf] at hr
   | some q=>
    obtain ⟨k,hk⟩:=h _ _ _ hf
    grind
def Sk (h:CQ f F) (hp:Hp) (ct:Nat) (n:Nat) (ax:List AV) (r:AV×Hp×Nat) (hr:ix P L f hp ct n ax=some r):∃k,ix P L (F k) hp ct n ax=some r:=by
 unfold ix at hr ⊢
 cases hL:L.heap n with
 | some sp=>exact ⟨0,by simpa only [hL] using hr⟩
 | none=>
  simp only [hL] at hr ⊢
  cases hP:P n with
  | none=>simp [hP] at hr
  | some G=>
   simp only [hP] at hr ⊢
   cases hf:f G.body ⟨dN 0 ax,hp,ct,ct⟩ with
   | none=>simp [hf] at hr
   | some q=>
    obtain ⟨k,hk⟩:=h _ _ _ hf
    grind
def Y1 (h:CQ f F) (hm:Mon F) (hp:Hp) (ct:Nat) (l:Nat) (xs:List AV) (r:AV×Hp×Nat) (hr:oU f hp ct l xs=some r):∃k,oU (F k) hp ct l xs=some r:=by
 have key:∃k,∀g,Le (F k) g->oU g hp ct l xs=some r:=by
  unfold oU at hr
  cases hl:ao hp l with
  | none=>simp [hl] at hr
  | some o=>
   split at hr
   ·rename_i tm ps cT body pe pO
    cases hb:sM tm ps xs with
    | none=>simp [hb] at hr
    | some tm'=>
     simp only [hb] at hr
     cases h1:f cT ⟨tm',hp,ct,ct⟩ with
     | none=>simp [h1] at hr
     | some q=>
      obtain ⟨k1,oE⟩:=h _ _ _ h1
      split at hr
      ·rename_i s1 Vx
       split at hr
       ·rename_i ky Ev CG DZ A3 ahx
        cases h2:f body ⟨s1.tm,aT s1.hp l (.lp ky Ev CG DZ 1 A3),s1.ct,s1.ct⟩ with
        | none=>simp [h2] at hr
        | some q2=>
         obtain ⟨k2,gY⟩:=h _ _ _ h2;refine ⟨max k1 k2,fun g hg=>?_⟩;have e1:=hg _ _ _ (hm k1 _ (ui k1 k2) _ _ _ oE);have e2:=hg _ _ _ (hm k2 _ (ua k1 k2) _ _ _ gY);unfold oU
         grind
       ·simp at hr
      ·simp at hr
   ·simp at hr
 obtain ⟨k,hk⟩:=key;exact ⟨k,hk _ (fun _ _ _ h=>h)⟩
def Zv (h:CQ f F) (hm:Mon F) (hp:Hp) (ct:Nat) (m:Md) (fv:AV) (xs:List AV) (r:AV×Hp×Nat) (hr:er P L f hp ct m fv xs=some r):∃k,er P L (F k) hp ct m fv xs=some r:=by
 unfold er at hr ⊢
 split at hr
 ·rename_i n first cap
  cases m with
  | pure=>
   cases hz:cD deep hp (first++(xs++cap)) with
   | none=>simp [hz] at hr
   | some q=>
    simp only [hz] at hr ⊢
    cases hc:bK P L f n q.1 with
    | none=>simp [hc] at hr
    | some u=>
     obtain ⟨k,hk⟩:=Nn h n q.1 u hc
     grind
  | own=>
   cases hz:cD deep hp (first++(xs++cap)) with
   | none=>simp [hz] at hr
   | some q=>
    simp only [hz] at hr ⊢
    cases hc:bK P L f n q.1 with
    | none=>simp [hc] at hr
    | some u=>
     obtain ⟨k,hk⟩:=Nn h n q.1 u hc
     grind
  | heap=>exact Sk h _ _ _ _ _ hr
  | dyn=>
   cases hz:aH (first++(xs++cap)) with
   | true=>
    simp only [hz,yD] at hr ⊢
    cases hc:bK P L f n (first++(xs++cap)) with
    | none=>simp [hc] at hr
    | some u=>
     obtain ⟨k,hk⟩:=Nn h n _ u hc
     grind
   | false=>
    simp only [hz,yW] at hr ⊢;exact Sk h _ _ _ _ _ hr
 ·split at hr
  ·exact Y1 h hm _ _ _ _ _ hr
  ·exact Y1 h hm _ _ _ _ _ hr
  ·simp at hr
 ·simp at hr
def apF (h:CQ f F) (hm:Mon F) (tm:Env) (hp:Hp) (ct:Nat) (o:Op) (r:AV×Hp×Nat) (hr:bg P L f tm hp ct o=some r):∃k,bg P L (F k) tm hp ct o=some r:=by
 unfold bg at hr ⊢
 split at hr
 ·exact Zv h hm _ _ _ _ _ _ hr
 ·rename_i rs fv xs
  cases hc:er P L f hp ct .dyn (aC tm fv) (dH tm xs) with
  | none=>simp [hc] at hr
  | some q=>
   obtain ⟨k,hk⟩:=Zv h hm _ _ _ _ _ _ hc
   grind
 all_goals exact ⟨0,by simpa only using hr⟩
def SG (h:CQ f F) (hm:Mon F):∀(ops:List bf) (s s':St),dO P L f ops s=some s'->∃k,dO P L (F k) ops s=some s'
 | [],s,s',hr=>⟨0,by simpa only [dO] using hr⟩
 | ⟨d,gd,o⟩::r,s,s',hr=>by
  simp only [dO] at hr ⊢
  split at hr
  ·rename_i hw
   cases ho:bg P L f s.tm s.hp s.ct o with
   | none=>simp [ho] at hr
   | some q=>
    obtain ⟨k1,oE⟩:=apF h hm _ _ _ _ _ ho;simp only [ho] at hr;obtain ⟨k2,gY⟩:=SG h hm r _ _ hr;refine ⟨max k1 k2,?_⟩;rw [aab (hm k1 _ (ui k1 k2)) _ _ _ _ _ oE];exact Nz (hm k2 _ (ua k1 k2)) r _ _ gY
  ·rename_i hw;exact SG h hm r _ _ hr
  ·simp at hr
def Dk (h:CQ f F) (hm:Mon F):∀(c:VC) (s:St) (r:Ex×St),bF P L f c s=some r->∃k,bF P L (F k) c s=some r
 | .skip,s,r,hr=>⟨0,by simpa only [bF] using hr⟩
 | .mh ops,s,r,hr=>by
  simp only [bF] at hr ⊢
  cases ho:dO P L f ops s with
  | none=>simp [ho] at hr
  | some s'=>
   obtain ⟨k,hk⟩:=SG h hm _ _ _ ho
   grind
 | .seq a b,s,r,hr=>by
  simp only [bF] at hr ⊢
  cases ha:bF P L f a s with
  | none=>simp [ha] at hr
  | some q=>
   obtain ⟨k1,oE⟩:=Dk h hm a s q ha;obtain ⟨ex,s1⟩:=q
   cases ex with
   | normal=>
    simp only [ha] at hr;obtain ⟨k2,gY⟩:=Dk h hm b s1 r hr;refine ⟨max k1 k2,?_⟩;rw [rD (hm k1 _ (ui k1 k2)) a s _ oE];exact rD (hm k2 _ (ua k1 k2)) b s1 r gY
   | ret=>exact ⟨k1,by rw [oE];simpa only [ha] using hr⟩
   | exit id=>exact ⟨k1,by rw [oE];simpa only [ha] using hr⟩
 | .cond x a b,s,r,hr=>by
  simp only [bF] at hr ⊢
  split at hr
  ·rename_i t ht
   cases t with
   | true=>simp only [yD] at hr ⊢;exact Dk h hm a s r hr
   | false=>simp only [yW] at hr ⊢;exact Dk h hm b s r hr
  ·simp at hr
 | .ef id a,s,r,hr=>by
  simp only [bF] at hr ⊢
  cases ha:bF P L f a s with
  | none=>simp [ha] at hr
  | some q=>
   obtain ⟨k,hk⟩:=Dk h hm a s q ha
   grind
 | .kp live,s,r,hr=>⟨0,by simpa only [bF] using hr⟩
 | .fz ts,s,r,hr=>⟨0,by simpa only [bF] using hr⟩
 | .loop live a,s,r,hr=>by
  simp only [bF] at hr ⊢
  cases ha:bF P L f a (aG live s) with
  | none=>simp [ha] at hr
  | some q=>
   obtain ⟨k1,oE⟩:=Dk h hm a _ q ha;obtain ⟨ex,s1⟩:=q
   cases ex with
   | normal=>
    simp only [ha] at hr;obtain ⟨k2,gY⟩:=h _ _ _ hr;refine ⟨max k1 k2,?_⟩;rw [rD (hm k1 _ (ui k1 k2)) a _ _ oE];exact hm k2 _ (ua k1 k2) _ _ _ gY
   | ret=>exact ⟨k1,by rw [oE];simpa only [ha] using hr⟩
   | exit id=>exact ⟨k1,by rw [oE];simpa only [ha] using hr⟩
 | .rf fv ps cT body,s,r,hr=>by
  simp only [bF] at hr ⊢
  split at hr
  ·rename_i n first cap hx
   split at hr
   ·grind
   ·rename_i hL
    cases hc:ix P L f ((s.ct,.lp s.tm ps cT body 0 .none)::s.hp) (s.ct+1) n (first++(.fn (.y s.ct) [] []::cap)) with
    | none=>simp [hc] at hr
    | some q=>
     obtain ⟨k,hk⟩:=Sk h _ _ _ _ _ hc
     grind
  ·simp at hr
 | .exit id,s,r,hr=>⟨0,by simpa only [bF] using hr⟩
 | .ret,s,r,hr=>⟨0,by simpa only [bF] using hr⟩
end
section
variable (P:aM) (L:Lib)
noncomputable def D:cG:=fun c s=>@dite _ (∃r n,ev P L n c s=some r) (Classical.propDecidable _) (fun h=>some h.choose) (fun _=>none)
variable {P L}
def ahX {c:VC} {s:St} {r:Ex×St} {n:Nat} (h:ev P L n c s=some r):D P L c s=some r:=by
 have hx:∃r n,ev P L n c s=some r:=⟨r,n,h⟩;unfold D;obtain ⟨m,hm⟩:=hx.choose_spec;have e1:=TE P L (ui n m) _ _ _ h;have e2:=TE P L (ua n m) _ _ _ hm
 grind
def VU {c:VC} {s:St} {r:Ex×St} (h:D P L c s=some r):∃n,ev P L n c s=some r:=by
 unfold D at h;by_cases hx:∃r n,ev P L n c s=some r
 ·grind
 ·grind
def ayQ (n:Nat):Le (ev P L n) (D P L):=fun _ _ _ h=>ahX h
def agK:CQ (D P L) (ev P L):=fun _ _ _ h=>VU h
def aue:Mon (ev P L):=fun _ _ h=>TE P L h
def mK (c:VC) (s:St):D P L c s=bF P L (D P L) c s:=by
 cases h:D P L c s with
 | some r=>
  obtain ⟨n,hn⟩:=VU h
  cases n with
  | zero=>rw [Jz] at hn;cases hn
  | succ n=>rw [JA] at hn;exact (rD (ayQ n) c s r hn).symm
 | none=>
  cases hs:bF P L (D P L) c s with
  | none=>rfl
  | some r=>
   obtain ⟨n,hn⟩:=Dk agK aue c s r hs;rw [<-JA] at hn;rw [ahX hn] at h;cases h
def aeu {f:Nat} {ax:List AV} {r:AV} (h:bK P L (D P L) f ax=some r):∃n,WV P L n f ax=some r:=Nn agK f ax r h
end
section
open Go (IntKind BinOp UnOp)
section
variable {P:aM} {L:Lib}
structure Has (P:aM) (L:Lib) (n:Nat) (F:av):Prop where
 pure:L.pure n=none
 heap:L.heap n=none
 code:P n=some F
noncomputable def kj (P:aM) (L:Lib) (r:Option (Ex×St)) (b:VC):Option (Ex×St):=match r with | some (.normal,s)=>D P L b s | r=>r
def oc (id:Nat) (r:Option (Ex×St)):Option (Ex×St):=match r with | some (.exit j,s)=>bif yz j id then some (.normal,s) else some (.exit j,s) | r=>r
noncomputable def KL (P:aM) (L:Lib) (live:List Nat) (a:VC) (r:Option (Ex×St)):Option (Ex×St):=match r with | some (.normal,s)=>D P L (.loop live a) s | r=>r
def norm (r:Option St):Option (Ex×St):=match r with | some s=>some (.normal,s) | none=>none
noncomputable def Pp (P:aM) (L:Lib) (v:AV) (a b:VC) (s:St):Option (Ex×St):=match v with | .bool t=>bif t then D P L a s else D P L b s | _=>none
def auf (s:St):D P L .skip s=some (.normal,s):=by rw [mK];rfl
def aug (id:Nat) (s:St):D P L (.exit id) s=some (.exit id,s):=by rw [mK];rfl
def aw9 (s:St):D P L .ret s=some (.ret,s):=by rw [mK];rfl
def VV (live:List Nat) (s:St):D P L (.kp live) s=some (.normal,aG live s):=by rw [mK];rfl
def ayR (ts:List Nat) (s:St):D P L (.fz ts) s=norm (qG ts s):=by rw [mK];rfl
def axa (ops:List bf) (s:St):D P L (.mh ops) s=norm (dO P L (D P L) ops s):=by rw [mK];rfl
def kZ (a b:VC) (s:St):D P L (.seq a b) s=kj P L (D P L a s) b:=by
 rw [mK,mK a];simp only [bF,kj]
 cases bF P L (D P L) a s with
 | none=>rfl
 | some q=>
  obtain ⟨e,s1⟩:=q
  cases e with
  | normal=>exact (mK b s1).symm
  | ret=>rfl
  | exit id=>rfl
def auh (x:X) (a b:VC) (s:St):D P L (.cond x a b) s=Pp P L (aC s.tm x) a b s:=by
 rw [mK];simp only [bF,Pp]
 cases aC s.tm x with
 | bool t=>
  cases t with
  | true=>exact (mK a s).symm
  | false=>exact (mK b s).symm
 | _=>rfl
def axb (id:Nat) (a:VC) (s:St):D P L (.ef id a) s=oc id (D P L a s):=by
 rw [mK,mK a];simp only [bF,oc]
 cases bF P L (D P L) a s with
 | none=>rfl
 | some q=>obtain ⟨e,s1⟩:=q;cases e<;>rfl
def OU (live:List Nat) (a:VC) (s:St):D P L (.loop live a) s=KL P L live a (D P L a (aG live s)):=by
 rw [mK,mK a];simp only [bF,KL]
 cases bF P L (D P L) a (aG live s) with
 | none=>rfl
 | some q=>obtain ⟨e,s1⟩:=q;cases e<;>rfl
def fN (s:St) (b:VC):kj P L (some (.normal,s)) b=D P L b s:=rfl
def arE (s:St) (b:VC):kj P L (some (.ret,s)) b=some (.ret,s):=rfl
def arF (id:Nat) (s:St) (b:VC):kj P L (some (.exit id,s)) b=some (.exit id,s):=rfl
def acH (live:List Nat) (a:VC) (s:St):KL P L live a (some (.normal,s))=D P L (.loop live a) s:=rfl
def arG (live:List Nat) (a:VC) (s:St):KL P L live a (some (.ret,s))=some (.ret,s):=rfl
def arH (live:List Nat) (a:VC) (id:Nat) (s:St):KL P L live a (some (.exit id,s))=some (.exit id,s):=rfl
def arI (id:Nat) (s:St):oc id (some (.normal,s))=some (.normal,s):=rfl
def arJ (id:Nat) (s:St):oc id (some (.ret,s))=some (.ret,s):=rfl
def TF (id:Nat) (s:St):oc id (some (.exit id,s))=some (.normal,s):=by simp only [oc,ve,yD]
def arK {id j:Nat} (s:St) (h:j≠id):oc id (some (.exit j,s))=some (.exit j,s):=by
 have:yz j id=false:=by
  cases hq:yz j id with
  | false=>rfl
  | true=>exact absurd (yt hq) h
 simp only [oc,this,yW]
def aui (s:St):norm (some s)=some (.normal,s):=rfl
def auj:norm none=none:=rfl
def arL (a b:VC) (s:St):Pp P L (.bool true) a b s=D P L a s:=rfl
def arM (a b:VC) (s:St):Pp P L (.bool false) a b s=D P L b s:=rfl
noncomputable def UX (P:aM) (L:Lib) (d:Option Nat) (r:List bf) (tm:Env) (base:Nat) (q:gM):Option St:=
 match q with | some (v,hp,ct)=>dO P L (D P L) r ⟨put d v tm,hp,ct,base⟩ | none=>none
noncomputable def DS (P:aM) (L:Lib) (v:AV) (b:Bool) (d:Option Nat) (o:Op) (r:List bf) (s:St):Option St:=
 match v with
 | .bool c=>bif c==b then dO P L (D P L) (⟨d,none,o⟩::r) s else dO P L (D P L) r ⟨put d (.az []) s.tm,s.hp,s.ct,s.base⟩
 | .az []=>dO P L (D P L) r ⟨put d (.az []) s.tm,s.hp,s.ct,s.base⟩
 | _=>none
def arN (s:St):dO P L (D P L) [] s=some s:=rfl
def apG (d:Option Nat) (o:Op) (r:List bf) (tm:Env) (hp:Hp) (ct base:Nat):
  dO P L (D P L) (⟨d,none,o⟩::r) ⟨tm,hp,ct,base⟩=UX P L d r tm base (bg P L (D P L) tm hp ct o):=by
 simp only [dO,UX]
 grind
def anK (d:Option Nat) (t:Nat) (b:Bool) (o:Op) (r:List bf) (tm:Env) (hp:Hp) (ct base:Nat):
  dO P L (D P L) (⟨d,some (t,b),o⟩::r) ⟨tm,hp,ct,base⟩=DS P L (af tm t) b d o r ⟨tm,hp,ct,base⟩:=by
 simp only [dO,DS]
 cases af tm t with
 | bool c=>
  simp only
  cases hc:(c==b) with
  | true=>simp only [yD]
  | false=>simp only [yW]
 | az vs=>cases vs<;>rfl
 | _=>rfl
def arO (d:Option Nat) (r:List bf) (tm:Env) (base:Nat) (v:AV) (hp:Hp) (ct:Nat):UX P L d r tm base (some (v,hp,ct))=dO P L (D P L) r ⟨put d v tm,hp,ct,base⟩:=rfl
def axc (i:Nat) (v:AV) (tm:Env):put (some i) v tm=(i,v)::tm:=rfl
def axd (v:AV) (tm:Env):put none v tm=tm:=rfl
def apH (d:Option Nat) (o:Op) (r:List bf) (s:St):DS P L (.bool true) true d o r s=dO P L (D P L) (⟨d,none,o⟩::r) s:=rfl
def apI (d:Option Nat) (o:Op) (r:List bf) (s:St):DS P L (.bool false) false d o r s=dO P L (D P L) (⟨d,none,o⟩::r) s:=rfl
def apJ (d:Option Nat) (o:Op) (r:List bf) (tm:Env) (hp:Hp) (ct base:Nat):DS P L (.bool true) false d o r ⟨tm,hp,ct,base⟩=dO P L (D P L) r ⟨put d (.az []) tm,hp,ct,base⟩:=rfl
def apK (d:Option Nat) (o:Op) (r:List bf) (tm:Env) (hp:Hp) (ct base:Nat):DS P L (.bool false) true d o r ⟨tm,hp,ct,base⟩=dO P L (D P L) r ⟨put d (.az []) tm,hp,ct,base⟩:=rfl
def arP (b:Bool) (d:Option Nat) (o:Op) (r:List bf) (tm:Env) (hp:Hp) (ct base:Nat):DS P L (.az []) b d o r ⟨tm,hp,ct,base⟩=dO P L (D P L) r ⟨put d (.az []) tm,hp,ct,base⟩:=rfl
def iO {j i:Nat} (h:j≠i):yz j i=false:=by
 cases hq:yz j i with
 | false=>rfl
 | true=>exact absurd (yt hq) h
def auk (tm:Env) (i:Nat):aC tm (.t i)=af tm i:=rfl
def aul (tm:Env) (v:AV):aC tm (.c v)=v:=rfl
def anL (tm:Env):dH tm []=[]:=rfl
def amx (tm:Env) (x:X) (r:List X):dH tm (x::r)=aC tm x::dH tm r:=rfl
def apL (i:Nat) (v:AV) (r:Env):af ((i,v)::r) i=v:=by simp only [af,ve,yD]
def anM {j i:Nat} (v:AV) (r:Env) (h:j≠i):af ((j,v)::r) i=af r i:=by simp only [af,iO h,yW]
def ej (i:Nat) (o:Obj) (r:Hp):ao ((i,o)::r) i=some o:=by simp only [ao,ve,yD]
def cd {j i:Nat} (o:Obj) (r:Hp) (h:j≠i):ao ((j,o)::r) i=ao r i:=by simp only [ao,iO h,yW]
def abg (i:Nat) (o u:Obj) (r:Hp):aT ((i,o)::r) i u=(i,u)::r:=by simp only [aT,ve,yD]
def SH {j i:Nat} (o u:Obj) (r:Hp) (h:j≠i):aT ((j,o)::r) i u=(j,o)::aT r i u:=by simp only [aT,iO h,yW]
def apM (i:Nat):dJ [] i=[]:=rfl
def abh (i:Nat) (o:Obj) (r:Hp):dJ ((i,o)::r) i=dJ r i:=by simp only [dJ,ve,yD]
def aal {j i:Nat} (o:Obj) (r:Hp) (h:j≠i):dJ ((j,o)::r) i=(j,o)::dJ r i:=by simp only [dJ,iO h,yW]
def rd (hp:Hp) (ct:Nat) (q:Option AV):gM:=match q with | some v=>some (v,hp,ct) | none=>none
def mk (hp:Hp) (ct:Nat) (q:Option (AV×Obj)):gM:=match q with | some (v,b)=>some (v,(ct,b)::hp,ct+1) | none=>none
def ayS (hp:Hp) (ct:Nat) (v:AV):rd hp ct (some v)=some (v,hp,ct):=rfl
def ayT (hp:Hp) (ct:Nat) (v:AV) (b:Obj):mk hp ct (some (v,b))=some (v,(ct,b)::hp,ct+1):=rfl
def UY (c a b:AV):Option AV:=match c with | .bool t=>some (bif t then a else b) | _=>none
def Mt (k:Nat->Option AV) (n:Option Nat):Option AV:=match n with | some i=>k i | none=>none
def agL (r:Option (List AV)):Option AV:=match r with | some cs=>some (.agg cs) | none=>none
def Lr (ne:Bool) (r:Option Bool):Option AV:=match r with | some b=>some (.bool (ne !=b)) | none=>none
def ayU:AV->Option AV
 | .ptr id o=>some (.ptr id o)
 | .aO cs=>some (.aO cs)
 | .fn f a b=>some (.fn f a b)
 | _=>none
def Ls (i:Nat):AV->Option AV | .az vs=>vs[i]? | _=>none
section
variable {f:cG} {tm:Env} {hp:Hp} {ct:Nat}
def aum (x:X):bg P L f tm hp ct (.rW x)=some (aC tm x,hp,ct):=rfl
def arQ (c a b:X):bg P L f tm hp ct (.pick c a b)=rd hp ct (UY (aC tm c) (aC tm a) (aC tm b)):=by
 rfl
def apN (z:List AV) (ps:List (Nat×Nat×X)):bg P L f tm hp ct (.B4 z ps)=rd hp ct (agL (fill tm z ps)):=by
 rfl
def axe (sz:Nat) (ag:Bool) (x:X):bg P L f tm hp ct (.ld sz ag x)=rd hp ct (jz hp sz ag (aC tm x)):=rfl
def arR (x:X):bg P L f tm hp ct (.KY x)=rd hp ct (ayU (aC tm x)):=by
 rfl
def aun (op:BinOp) (x y:X):bg P L f tm hp ct (.bin op x y)=rd hp ct (binOp op (aC tm x) (aC tm y)):=rfl
def axf (ne:Bool) (k:Qy) (x y:X):bg P L f tm hp ct (.eq ne k x y)=rd hp ct (Lr ne (kv k (aC tm x) (aC tm y))):=by
 rfl
def axg (op:UnOp) (x:X):bg P L f tm hp ct (.un op x)=rd hp ct (unOp op (aC tm x)):=rfl
def axh (k:Conv) (x:X):bg P L f tm hp ct (.cv k x)=rd hp ct (qO k (aC tm x)):=rfl
def auo (g:Fr) (a b:List X):bg P L f tm hp ct (.G9 g a b)=some (.fn g (dH tm a) (dH tm b),hp,ct):=rfl
def aup (k:Cut) (x:X) (lo hi:Option X):bg P L f tm hp ct (.qZ k x lo hi)=rd hp ct (fG hp k (aC tm x) tm lo hi):=rfl
def auq (k:Nat) (x:X):bg P L f tm hp ct (.off k x)=rd hp ct (Kr k (aC tm x)):=rfl
def aur (o sz:Nat) (ag:Bool) (x:X):bg P L f tm hp ct (.LU o sz ag x)=rd hp ct (O8 o sz ag (aC tm x)):=rfl
def aus (sz:Nat) (x i:X):bg P L f tm hp ct (.bi sz x i)=rd hp ct (Mt (fun j=>kX sz j (aC tm x)) (dI (aC tm i))):=by
 rfl
def aut (n sz:Nat) (x i:X):bg P L f tm hp ct (.Ha n sz x i)=rd hp ct (Mt (fun j=>O9 n sz j (aC tm x)) (dI (aC tm i))):=by
 rfl
def auu (x i:X):bg P L f tm hp ct (.Hb x i)=rd hp ct (Mt (fun j=>n7 j (aC tm x)) (dI (aC tm i))):=by
 rfl
def auv (n sz:Nat) (ag:Bool) (x i:X):bg P L f tm hp ct (.Hc n sz ag x i)=rd hp ct (Mt (fun j=>Pa n sz ag j (aC tm x)) (dI (aC tm i))):=by
 rfl
def auw (i:Nat) (x:X):bg P L f tm hp ct (.ext i x)=rd hp ct (Ls i (aC tm x)):=by
 rfl
def auy (k:Nat) (x:X):bg P L f tm hp ct (.len k x)=rd hp ct (gg hp k (aC tm x)):=rfl
def auz (sz:Nat) (x:X):bg P L f tm hp ct (.box sz x)=mk hp ct (cW tm hp ct (.box sz x)):=rfl
def arS (n sz:Nat) (z:List AV) (ps:List (Nat×Nat×X)):bg P L f tm hp ct (.nl n sz z ps)=mk hp ct (cW tm hp ct (.nl n sz z ps)):=rfl
def auA (sz bX:Nat) (z:List AV) (l c:X):bg P L f tm hp ct (.pE sz bX z l c)=mk hp ct (cW tm hp ct (.pE sz bX z l c)):=rfl
def auB:bg P L f tm hp ct .A2=some (.map ct,(ct,.mp true [] [])::hp,ct+1):=rfl
def auC (x:X):bg P L f tm hp ct (.q9 x)=mk hp ct (cW tm hp ct (.q9 x)):=rfl
def axi (sz:Nat) (x v:X):bg P L f tm hp ct (.st sz x v)=cR tm hp ct (.st sz x v):=rfl
def auD (sz bX:Nat) (s x:X):bg P L f tm hp ct (.cX sz bX s x)=cR tm hp ct (.cX sz bX s x):=rfl
def Pq (hp:Hp) (ct:Nat) (r:Option AV):gM:=match r with | some v=>some (shut v,hp,ct) | none=>none
def Qe (hp:Hp) (ct:Nat) (r:Option AV):gM:=match r with | some v=>some (own hp ct v) | none=>none
def UZ (P:aM) (L:Lib) (f:cG) (ct n:Nat) (q:Option (List AV×Hp)):gM:=match q with | some (ax,hp)=>Pq hp ct (bK P L f n ax) | none=>none
def U1 (P:aM) (L:Lib) (f:cG) (ct n:Nat) (q:Option (List AV×Hp)):gM:=match q with | some (ax,hp)=>Qe hp ct (bK P L f n ax) | none=>none
def U2 (P:aM) (L:Lib) (f:cG) (hp:Hp) (ct:Nat) (fv:AV) (xs:List AV):gM:=er P L f hp ct .pure fv xs
def U3 (P:aM) (L:Lib) (f:cG) (hp:Hp) (ct:Nat) (fv:AV) (xs:List AV):gM:=er P L f hp ct .own fv xs
def apO (g:X) (xs:List X):bg P L f tm hp ct (.call .pure g xs)=U2 P L f hp ct (aC tm g) (dH tm xs):=rfl
def apP (g:X) (xs:List X):bg P L f tm hp ct (.call .own g xs)=U3 P L f hp ct (aC tm g) (dH tm xs):=rfl
def apQ (g:X) (xs:List X):bg P L f tm hp ct (.call .heap g xs)=er P L f hp ct .heap (aC tm g) (dH tm xs):=rfl
def arT (n:Nat) (first cap xs:List AV):U2 P L f hp ct (.fn (.f n) first cap) xs=UZ P L f ct n (cD deep hp (first++(xs++cap))):=by
 simp only [U2,er,UZ,Pq]
 cases cD deep hp (first++(xs++cap)) with
 | none=>rfl
 | some q=>cases bK P L f n q.1<;>rfl
def arU (n:Nat) (first cap xs:List AV):U3 P L f hp ct (.fn (.f n) first cap) xs=U1 P L f ct n (cD deep hp (first++(xs++cap))):=by
 simp only [U3,er,U1,Qe]
 cases cD deep hp (first++(xs++cap)) with
 | none=>rfl
 | some q=>cases bK P L f n q.1<;>rfl
def arV (n:Nat) (ax:List AV):UZ P L f ct n (some (ax,hp))=Pq hp ct (bK P L f n ax):=rfl
def arW (n:Nat) (ax:List AV):U1 P L f ct n (some (ax,hp))=Qe hp ct (bK P L f n ax):=rfl
def arX (v:AV):Pq hp ct (some v)=some (shut v,hp,ct):=rfl
def auE (v:AV):Qe hp ct (some v)=some (own hp ct v):=rfl
def Qf (hp:Hp) (r:Option AV):Option AV:=match r with | some v=>result hp v | none=>none
def gJ (rs:List RV) (q:Option (Ex×St)):Option AV:=
 match q with
 | some (.normal,s) | some (.ret,s)=>Qf s.hp (jr s rs)
 | _=>none
def aI {n:Nat} {F:av} (h:Has P L n F) (ax:List AV):bK P L f n ax=gJ F.fm (f F.body ⟨dN 0 ax,[],0,0⟩):=by
 simp only [bK,h.pure,h.code]
 cases hq:f F.body ⟨dN 0 ax,[],0,0⟩ with
 | none=>rfl
 | some q=>
  obtain ⟨e,s⟩:=q
  cases e with
  | normal=>rfl
  | ret=>rfl
  | exit id=>rfl
def auF (rs:List RV) (s:St):gJ rs (some (.normal,s))=Qf s.hp (jr s rs):=rfl
def auG (rs:List RV) (s:St):gJ rs (some (.ret,s))=Qf s.hp (jr s rs):=rfl
def auH (v:AV):Qf hp (some v)=result hp v:=rfl
def VW (r:RV) (s:St):jr s [r]=results1 s r:=by
 simp only [jr,mu];cases results1 s r<;>rfl
def ahY (r:Option (List AV)):Option AV:=match r with | some vs=>some (.az vs) | none=>none
def ayV (r q:RV) (l:List RV) (s:St):jr s (r::q::l)=ahY (mu s (r::q::l)):=by
 simp only [jr,mu];cases results1 s r<;>cases results1 s q<;>cases mu s l<;>rfl
def agM (r:Option AV) (l:Option (List AV)):Option (List AV):=match r,l with | some v,some vs=>some (v::vs) | _,_=>none
def apR (s:St):mu s []=some []:=rfl
def anN (r:RV) (l:List RV) (s:St):mu s (r::l)=agM (results1 s r) (mu s l):=rfl
def arY (v:AV) (vs:List AV):agM (some v) (some vs)=some (v::vs):=rfl
def auI (vs:List AV):ahY (some vs)=some (.az vs):=rfl
def U4 (i:Nat) (s:St):results1 s (.t i)=some (af s.tm i):=rfl
def axj (a:AV):dN 0 [a]=[(0,a)]:=rfl
def axk (a b:AV):dN 0 [a,b]=[(0,a),(1,b)]:=rfl
def axl (a b c:AV):dN 0 [a,b,c]=[(0,a),(1,b),(2,c)]:=rfl
def axm (a b c d:AV):dN 0 [a,b,c,d]=[(0,a),(1,b),(2,c),(3,d)]:=rfl
def axn (a b c d e:AV):dN 0 [a,b,c,d,e]=[(0,a),(1,b),(2,c),(3,d),(4,e)]:=rfl
def amy (k:xc) (n:Int):result hp (.int k n)=some (.int k n):=rfl
def al2 (b:Bool):result hp (.bool b)=some (.bool b):=rfl
def amz (s:List Nat):result hp (.str s)=some (.str s):=rfl
def al3:result hp .ab=some .ab:=rfl
def amA (e:Bool) (n:Nat) (cs:List AV):result hp (.aE e n cs)=some (.aE e n cs):=rfl
def shut_int (k:xc) (n:Int):shut (.int k n)= .int k n:=rfl
def shut_bool (b:Bool):shut (.bool b)= .bool b:=rfl
def apS (s:List Nat):shut (.str s)= .str s:=rfl
def anO:shut .ab= .ab:=rfl
def apT (e:Bool) (n:Nat) (cs:List AV):shut (.aE e n cs)= .aE e n cs:=rfl
def apU (e:Bool) (sz n:Nat) (cs:List AV):shut (.bV e sz n cs)= .aE e n cs:=rfl
def bO (cs:List AV):shut (.agg cs)= .agg cs:=rfl
def arZ (g:Fr) (a b:List AV):shut (.fn g a b)= .fn g a b:=rfl
def Fz (vs:List AV):shut (.az vs)= .az (DW vs):=rfl
def Fv:DW []=[]:=rfl
def Fs (v:AV) (r:List AV):DW (v::r)=bZ v::DW r:=rfl
def anP (k:xc) (n:Int):bZ (.int k n)= .int k n:=rfl
def amB (b:Bool):bZ (.bool b)= .bool b:=rfl
def anQ (s:List Nat):bZ (.str s)= .str s:=rfl
def amC:bZ .ab= .ab:=rfl
def anR (e:Bool) (n:Nat) (cs:List AV):bZ (.aE e n cs)= .aE e n cs:=rfl
def anS (e:Bool) (sz n:Nat) (cs:List AV):bZ (.bV e sz n cs)= .aE e n cs:=rfl
def BE (cs:List AV):bZ (.agg cs)= .agg cs:=rfl
def VX (n:Nat) (r:List AV) (q:Option (AV×Hp)):Option (List AV×Hp):=match q with | some (v,hp)=>(match cD n hp r with | some (vs,fD)=>some (v::vs,fD) | none=>none) | none=>none
def ahZ (v:AV) (q:Option (List AV×Hp)):Option (List AV×Hp):=match q with | some (vs,hp)=>some (v::vs,hp) | none=>none
def apV (n:Nat):cD (n+1) hp []=some ([],hp):=rfl
def NS (n:Nat) (v:AV) (r:List AV):cD (n+1) hp (v::r)=VX n r (freeze n hp v):=by
 simp only [cD,VX];cases freeze n hp v<;>rfl
def OV (n:Nat) (r:List AV) (v:AV):VX n r (some (v,hp))=ahZ v (cD n hp r):=by
 rfl
def OW (v:AV) (vs:List AV):ahZ v (some (vs,hp))=some (v::vs,hp):=rfl
def ar0 (n:Nat) (k:xc) (a:Int):freeze (n+1) hp (.int k a)=some (.int k a,hp):=rfl
def apW (n:Nat) (b:Bool):freeze (n+1) hp (.bool b)=some (.bool b,hp):=rfl
def ar1 (n:Nat) (s:List Nat):freeze (n+1) hp (.str s)=some (.str s,hp):=rfl
def apX (n:Nat):freeze (n+1) hp .ab=some (.ab,hp):=rfl
def ar2 (n:Nat) (e:Bool) (k:Nat) (cs:List AV):freeze (n+1) hp (.aE e k cs)=some (.aE e k cs,hp):=rfl
def apY (n:Nat) (cs:List AV):freeze (n+1) hp (.aO cs)=some (.aO cs,hp):=rfl
end
end
section
variable {hp:Hp}
def auJ (a b:AV):UY (.bool true) a b=some a:=rfl
def auK (a b:AV):UY (.bool false) a b=some b:=rfl
def axo (k:Nat->Option AV) (n:Nat):Mt k (some n)=k n:=rfl
def oS (k:xc) (n:Nat):dI (.int k (n:Int))=some n:=rfl
def aev (k:xc):dI (.int k 0)=some 0:=rfl
def auL (k:xc):dI (.int k 1)=some 1:=rfl
def auM (k:xc):dI (.int k 2)=some 2:=rfl
def auN (k:xc):dI (.int k 3)=some 3:=rfl
def auO (k:xc):dI (.int k 4)=some 4:=rfl
def auP (k:xc):dI (.int k 5)=some 5:=rfl
def auQ (k:xc):dI (.int k 6)=some 6:=rfl
def auR (k:xc):dI (.int k 7)=some 7:=rfl
def auS (k:xc):dI (.int k 8)=some 8:=rfl
def auT (k:xc):dI (.int k 9)=some 9:=rfl
def ar3 (cs:List AV):agL (some cs)=some (.agg cs):=rfl
def acI (k:xc) (a b:Int):binOp .add (.int k a) (.int k b)=some (.int k (k.wrap (a+b))):=by simp [binOp,mB]
def Ox (k:xc) (a b:Int):binOp .sub (.int k a) (.int k b)=some (.int k (k.wrap (a-b))):=by simp [binOp,mB]
def acJ (k:xc) (a b:Int):binOp .mul (.int k a) (.int k b)=some (.int k (k.wrap (a*b))):=by simp [binOp,mB]
def hZ (k:xc) (a b:Int) (h:b≠0):binOp .quo (.int k a) (.int k b)=some (.int k (k.wrap (a.tdiv b))):=by simp [binOp,mB,h]
def jt (k:xc) (a b:Int) (h:b≠0):binOp .rem (.int k a) (.int k b)=some (.int k (a.tmod b)):=by simp [binOp,mB,h]
def ar4 (k:xc) (a b:Int):binOp .eql (.int k a) (.int k b)=some (.bool (decide (a=b))):=by
 simp [binOp,mB,intCmp,BEq.beq]
def ar5 (k:xc) (a b:Int):binOp .neq (.int k a) (.int k b)=some (.bool (!decide (a=b))):=by
 simp [binOp,mB,intCmp,bne,BEq.beq]
def ar6 (k:xc) (a b:Int):binOp .lss (.int k a) (.int k b)=some (.bool (decide (a<b))):=by simp [binOp,mB,intCmp]
def ar7 (k:xc) (a b:Int):binOp .leq (.int k a) (.int k b)=some (.bool (decide (a<=b))):=by simp [binOp,mB,intCmp]
def ar8 (k:xc) (a b:Int):binOp .gtr (.int k a) (.int k b)=some (.bool (decide (b<a))):=by simp [binOp,mB,intCmp]
def ar9 (k:xc) (a b:Int):binOp .geq (.int k a) (.int k b)=some (.bool (decide (b<=a))):=by simp [binOp,mB,intCmp]
def auU (k:xc) (a:Int):unOp .neg (.int k a)=some (.int k (k.wrap (0-a))):=rfl
def auV (b:Bool):unOp .not (.bool b)=some (.bool !b):=rfl
def apZ:gg hp 1 .ab=some (.int .i64 0):=rfl
def asa (e:Bool) (n:Nat) (cs:List AV):gg hp 1 (.aE e n cs)=some (.int .i64 n):=rfl
def asb (id o n:Nat):gg hp 1 (.ak id o n)=some (.int .i64 n):=rfl
def asc (s:List Nat):gg hp 0 (.str s)=some (.int .i64 s.length):=rfl
def TG {sz i n:Nat} (e:Bool) (cs:List AV) (h:i<n):kX sz i (.aE e n cs)=some (.aO (cs.drop (i*sz))):=by
 have hb:yQ i n=true:=yx h;simp only [kX]
 grind
def bA {sz i n:Nat} (id o:Nat) (h:i<n):kX sz i (.ak id o n)=some (.ptr id (o+i*sz)):=by
 have hb:yQ i n=true:=yx h;simp only [kX]
 grind
def ap0 (v:AV) (cs:List AV):jz hp 1 false (.aO (v::cs))=some v:=rfl
def Re (sz:Nat) (ag:Bool) (o:Nat) (q:Option Obj):Option AV:=match q with | some (.cells _ _ _ _ cs)=>iX sz ag (cs.drop o) | _=>none
def auW (sz:Nat) (ag:Bool) (id o:Nat):jz hp sz ag (.ptr id o)=Re sz ag o (ao hp id):=by
 rfl
def axp (sz:Nat) (ag:Bool) (o:Nat) (rw pu ex:Bool) (z:Nat) (cs:List AV):Re sz ag o (some (.cells rw pu ex z cs))=iX sz ag (cs.drop o):=rfl
def AA (sz:Nat) (v:AV) (cs:List AV):iX sz false (v::cs)=some v:=rfl
def ayW (a:AV) (l:List AV):Ls 0 (.az (a::l))=some a:=rfl
def ext1 (a b:AV) (l:List AV):Ls 1 (.az (a::b::l))=some b:=rfl
def ayX (a b c:AV) (l:List AV):Ls 2 (.az (a::b::c::l))=some c:=rfl
def ayY (a b c d:AV) (l:List AV):Ls 3 (.az (a::b::c::d::l))=some d:=rfl
end
def AB:Env->Bool
 | []=>true
 | (_,v)::r=>a7 v&&AB r
mutual
def aq:∀{v:AV},a7 v=true->refs v=[]
 | .int _ _,_ | .bool _,_ | .dD _ _,_ | .str _,_ | .mH,_ | .aO _,_ | .ab,_ | .aE _ _ _,_ | .jy,_ | .lh,_ | .ko _ _,_ | .undef,_=>rfl
 | .ptr _ _,h | .ak _ _ _,h | .map _,h | .it _,h | .bV _ _ _ _,h=>by simp [a7] at h
 | .fn (.y _) _ _,h=>by simp [a7] at h
 | .fn (.f _) first cap,h=>by
  simp only [a7,yi] at h;simp only [refs,I2 h.1,I2 h.2,xT]
 | .agg cs,h=>by simp only [a7] at h;simp only [refs,I2 h]
 | .az cs,h=>by simp only [a7] at h;simp only [refs,I2 h]
def I2:∀{vs:List AV},aH vs=true->gG vs=[]
 | [],_=>rfl
 | v::r,h=>by
  simp only [aH,yi] at h;simp only [gG,aq h.1,I2 h.2,xT]
end
mutual
def au (f:Nat->Option Nat):∀{v:AV},a7 v=true->b8 f v=v
 | .int _ _,_ | .bool _,_ | .dD _ _,_ | .str _,_ | .mH,_ | .aO _,_ | .ab,_ | .aE _ _ _,_ | .jy,_ | .lh,_ | .ko _ _,_ | .undef,_=>rfl
 | .ptr _ _,h | .ak _ _ _,h | .map _,h | .it _,h | .bV _ _ _ _,h=>by simp [a7] at h
 | .fn (.y _) _ _,h=>by simp [a7] at h
 | .fn (.f _) first cap,h=>by
  simp only [a7,yi] at h;simp only [b8,I8 f h.1,I8 f h.2]
 | .agg cs,h=>by simp only [a7] at h;simp only [b8,I8 f h]
 | .az cs,h=>by simp only [a7] at h;simp only [b8,I8 f h]
def I8 (f:Nat->Option Nat):∀{vs:List AV},aH vs=true->eH f vs=vs
 | [],_=>rfl
 | v::r,h=>by
  simp only [aH,yi] at h;simp only [eH,au f h.1,I8 f h.2]
end
def Zw:∀{tm:Env},AB tm=true->et tm=[]
 | [],_=>rfl
 | (i,v)::r,h=>by
  simp only [AB,yi] at h;simp only [et,aq h.1,Zw h.2,xT]
def aam (f:Nat->Option Nat):∀{tm:Env},AB tm=true->fe f tm=tm
 | [],_=>rfl
 | (i,v)::r,h=>by
  simp only [AB,yi] at h;simp only [fe,au f h.1,aam f h.2]
def R0 {live:List Nat} {tm:Env} {ct:Nat} (h:AB (bP tm live)=true):aG live ⟨tm,[],ct,0⟩=⟨bP tm live,[],0,0⟩:=by
 simp only [aG,Zw h,jN,xT];simp only [reach,iz,ni,aam _ h,yO,y7]
def al4 {tm:Env} {ct:Nat}:aG [] ⟨tm,[],ct,0⟩=⟨[],[],0,0⟩:=rfl
def N8 {P:aM} {L:Lib} {live:List Nat} {a:VC} (I:Nat->St->Prop) (Q:Ex->St->Prop)
  (step:∀k s,I k s->(∃s' k',D P L a (aG live s)=some (.normal,s')/\k'<k/\I k' s')\/(∃ex s',D P L a (aG live s)=some (ex,s')/\ex≠.normal/\Q ex s')):
  ∀k s,I k s->∃ex s',D P L (.loop live a) s=some (ex,s')/\Q ex s':=by
 intro k
 induction k using uB with
 | _ k ih=>
  intro s hI;rw [OU];rcases step k s hI with ⟨s',k',h1,h2,h3⟩ | ⟨ex,s',h1,h2,h3⟩
  ·rw [h1,acH];exact ih k' h2 s' h3
  ·rw [h1]
   cases ex with
   | normal=>exact absurd rfl h2
   | ret=>exact ⟨.ret,s',rfl,h3⟩
   | exit id=>exact ⟨.exit id,s',rfl,h3⟩
def fk {P:aM} {L:Lib} {live:List Nat} {a:VC} (I:Nat->St->Prop) (Q:Ex->St->Prop)
  (step:∀k s,I k s->(∃s' k',D P L a s=some (.normal,s')/\k'<k/\I k' (aG live s'))\/(∃ex s',D P L a s=some (ex,s')/\ex≠.normal/\Q ex s')):
  ∀k s,I k (aG live s)->∃ex s',D P L (.loop live a) s=some (ex,s')/\Q ex s':=
 N8 (fun k s=>I k (aG live s)) Q (fun k s h=>step k _ h)
def dj {P:aM} {L:Lib} {live:List Nat} {a:VC} {I:Nat->St->Prop} {Q:Ex->St->Prop}
  (step:∀k s,I k s->(∃s' k',D P L a s=some (.normal,s')/\k'<k/\I k' (aG live s'))\/(∃ex s',D P L a s=some (ex,s')/\ex≠.normal/\Q ex s')):
  ∀k s s0,aG live s=s0->I k s0->∃ex s',D P L (.loop live a) s=some (ex,s')/\Q ex s':=fun k s s0 h hi=>fk I Q step k s (h▸hi)
def bD {P:aM} {L:Lib} {c:VC} {s:St} {q:Option (Ex×St)} {I:St->Prop} {Q:Ex->St->Prop} (hq:D P L c s=q) (key:∀s,I s->∃ex s',D P L c s=some (ex,s')/\Q ex s') (hI:I s):
  ∃ex s',q=some (ex,s')/\Q ex s':=by
 rw [<-hq];exact key s hI
def ap1 (tm:Env):bP tm []=[]:=rfl
def anT (tm:Env) (i:Nat) (r:List Nat):bP tm (i::r)=(i,af tm i)::bP tm r:=rfl
def anU:AB []=true:=rfl
def amD (i:Nat) (v:AV) (r:Env):AB ((i,v)::r)=(a7 v&&AB r):=rfl
def aew (k:xc) (n:Int):a7 (.int k n)=true:=(rfl)
def asd (b:Bool):a7 (.bool b)=true:=(rfl)
def Uq (s:List Nat):a7 (.str s)=true:=(rfl)
def ase:a7 .ab=true:=(rfl)
def auX (e:Bool) (n:Nat) (cs:List AV):a7 (.aE e n cs)=true:=(rfl)
def asf (cs:List AV):a7 (.aO cs)=true:=(rfl)
def ap2:a7 .undef=true:=(rfl)
attribute [go_sem] deep al4 ap1 anT anU amD aew asd Uq ase auX asf ap2 uk wK
attribute [go_sem] auf aug aw9 VV ayR axa kZ auh axb fN arE arF acH arG arH arI arJ TF arK aui auj arL arM
 arN apG anK arO axc axd apH apI apJ apK arP auk aul anL amx apL anM ej cd abg SH apM abh aal
 ayS ayT aum arQ apN axe arR aun axf axg axh auo aup auq aur aus aut auu auv auw auy auz arS auA auB auC axi auD apO apP apQ
 arT arU arV arW arX auE auF auG auH VW ayV apR anN arY auI U4 axj axk axl axm axn
 amy al2 amz al3 amA shut_int shut_bool apS anO apT apU bO arZ Fz Fv Fs anP amB anQ amC anR anS BE
 apV NS OV OW ar0 apW ar1 apX ar2 apY
 auJ auK axo oS aev auL auM auN auO auP auQ auR auS auT ar3 acI Ox acJ ar4 ar5 ar6 ar7 ar8 ar9 auU auV apZ asa asb asc ap0 auW axp AA ayW ext1 ayX ayY
 xp xT xr yu yv Bool.not_true Bool.not_false uj xz
end
abbrev aa (n:Int):AV:= .int .i64 n
def cZ (v:AV) (cs:List AV):Prop:=(v= .ab/\cs=[])\/∃e,v= .aE e cs.length cs
section
variable {v:AV} {cs:List AV} {hp:Hp}
def cZ.len (h:cZ v cs) {hp:Hp}:gg hp 1 v=some (.int .i64 (cs.length:Nat)):=by
 rcases h with ⟨rfl,rfl⟩ | ⟨e,rfl⟩<;>rfl
def cZ.pu (h:cZ v cs):a7 v=true:=by
 rcases h with ⟨rfl,rfl⟩ | ⟨e,rfl⟩<;>rfl
def cZ.an (h:cZ v cs) (n:Nat) {hp:Hp}:freeze (n+1) hp v=some (v,hp):=by
 rcases h with ⟨rfl,rfl⟩ | ⟨e,rfl⟩<;>rfl
def cZ.shut (h:cZ v cs):shut v=v:=by
 rcases h with ⟨rfl,rfl⟩ | ⟨e,rfl⟩<;>rfl
def cZ.bZ (h:cZ v cs):bZ v=v:=by
 rcases h with ⟨rfl,rfl⟩ | ⟨e,rfl⟩<;>rfl
def cZ.fm (h:cZ v cs) {hp:Hp}:result hp v=some v:=by
 rcases h with ⟨rfl,rfl⟩ | ⟨e,rfl⟩<;>rfl
def cZ.bi (h:cZ v cs) {i:Nat} (hi:i<cs.length):kX 1 i v=some (.aO (cs[i]::cs.drop (i+1))):=by
 rcases h with ⟨rfl,rfl⟩ | ⟨e,rfl⟩
 ·grind
 ·rw [TG e _ hi,Nat.mul_one,yP hi]
def cZ.one (h:cZ v cs):dG v=true:=by
 rcases h with ⟨rfl,rfl⟩ | ⟨e,rfl⟩<;>rfl
def cZ.cells (h:cZ v cs):cellsOf v=[v]:=by
 rcases h with ⟨rfl,rfl⟩ | ⟨e,rfl⟩<;>rfl
def JC (e:Bool) (cs:List AV):cZ (.aE e cs.length cs) cs:= .inr ⟨e,rfl⟩
def rI:cZ .ab []:= .inl ⟨rfl,rfl⟩
end
def bq (v:AV) (l:List Int):Prop:=cZ v (l.map aa)
section
variable {v:AV} {l:List Int}
def bq.len (h:bq v l) {hp:Hp}:gg hp 1 v=some (.int .i64 (l.length:Nat)):=by
 have:=cZ.len (hp:=hp) h
 grind
def bq.pu (h:bq v l):a7 v=true:=cZ.pu h
def bq.an (h:bq v l) (n:Nat) {hp:Hp}:freeze (n+1) hp v=some (v,hp):=cZ.an h n
def bq.shut (h:bq v l):VE.shut v=v:=cZ.shut h
def bq.bZ (h:bq v l):VE.bZ v=v:=cZ.bZ h
def bq.fm (h:bq v l) {hp:Hp}:result hp v=some v:=cZ.fm h
def bq.one (h:bq v l):dG v=true:=cZ.one h
def bq.cells (h:bq v l):cellsOf v=[v]:=cZ.cells h
def bq.bi (h:bq v l) {i:Nat} (hi:i<l.length):kX 1 i v=some (.aO (.int .i64 l[i]::(l.map aa).drop (i+1))):=by
 have:=cZ.bi h (i:=i) (by simpa using hi)
 grind
def kP (e:Bool) (l:List Int):bq (.aE e l.length (l.map aa)) l:=by
 have:=JC e (l.map aa)
 rwa [yk] at this
end
def cF {α β:Type} (p:α->β->Prop):List α->List β->Prop
 | [],[]=>True
 | a::r,b::s=>p a b/\cF p r s
 | _,_=>False
section
variable {α β:Type} {p:α->β->Prop}
def cF.len:∀{l:List α} {m:List β},cF p l m->l.length=m.length
 | [],[],_=>rfl
 | _::_,_::_,h=>by rw [yy,yy,h.2.len]
def cF.get:∀{l:List α} {m:List β} (_:cF p l m) {i:Nat} (h1:i<l.length) (h2:i<m.length),p l[i] m[i]
 | a::r,b::s,h,0,_,_=>h.1
 | a::r,b::s,h,i+1,h1,h2=>by
  exact h.2.get (by simpa using h1) (by simpa using h2)
end
def IsS (v:AV) (s:List (List Int)):Prop:=∃rows,cZ v rows/\cF bq rows s
def wrap64 {n:Int} (h1: -9223372036854775808<=n) (h2:n<9223372036854775808):IntKind.wrap .i64 n=n:=by
 simp only [IntKind.wrap,IntKind.bits,IntKind.signed,wK]
 grind
def wrapN {n:Nat} (h:n<9223372036854775808):IntKind.wrap .i64 (n:Int)=n:=wrap64 (by omega) (by omega)
section
variable {P:aM} {L:Lib}
abbrev aj (P:aM) (L:Lib) (f:Nat) (ax:List AV) (r:AV):Prop:=bK P L (D P L) f ax=some r
def Xy (h:Has P L 31 CP) (b:Bool) (n:Int):aj P L 31 [.bool b,aa n] (aa (if b=true then n else 0)):=by
 unfold aj;rw [aI h]
 cases b with
 | true=>simp only [go_sem,ya,CP,xE]
 | false=>simp only [go_sem,ya,CP];rfl
def s13 (h:Has P L 13 lF) (b:Bool) (n:Int):aj P L 13 [.bool b,aa n] (aa (if b=true then n else 0)):=by
 unfold aj;rw [aI h]
 cases b with
 | true=>simp only [go_sem,ya,lF,xE]
 | false=>simp only [go_sem,ya,lF];rfl
def Rg (h:Has P L 33 Hs) {v:AV} {l:List Int} (hv:bq v l) (hl:l.length<=1000000):aj P L 33 [v] (aa (bH l)):=by
 unfold aj;rw [aI h];simp only [go_sem,ya,Hs,hv.len];have key:=N8 (P:=P) (L:=L) (live:=[5,6,7]) (a:=Ph)
  (I:=fun k s=>∃tm ct i,s=⟨tm,[],ct,0⟩/\af tm 5=v/\af tm 6=aa l.length/\af tm 7=aa (i:Nat)/\i+k=l.length/\bH (l.drop i)=bH l)
  (Q:=fun ex s=>∃tm,s=⟨tm,[],0,0⟩/\((ex= .ret/\af tm 2=aa (bH l))\/(ex= .exit 0/\bH l=0))) ?_ l.length
 ·generalize hq:D P L (.loop [5,6,7] Ph) _=q;obtain ⟨ex,s,rfl,tm,rfl,h2⟩:=bD hq key ⟨_,_,0,rfl,rfl,rfl,rfl,by omega,rfl⟩;rcases h2 with ⟨rfl,h2⟩ | ⟨rfl,h2⟩
  ·simp only [go_sem,h2]
  ·rw [h2];simp only [go_sem]
 ·rintro k s ⟨tm,ct,i,rfl,h5,h6,h7,hk,hf⟩;rw [R0 (by simp only [go_sem,h5,h6,h7,hv.pu])];simp only [go_sem,ya,h5,h6,h7,Ph];by_cases hi:i<l.length
  ·have cB:(i:Int)<l.length:=by omega
   rw [R8 hi] at hf;by_cases hz:l[i]=0
   ·left
    simp only [go_sem,ya,cB,hv.bi hi,hz];refine ⟨_,k-1,rfl,by omega,_,_,i+1,rfl,?_⟩;rw [wrap64 (by omega) (by omega)];rw [yA hz] at hf;simp only [go_sem,ya];exact ⟨trivial,trivial,rfl,by omega,hf⟩
   ·right
    simp only [go_sem,ya,cB,hv.bi hi,hz];rw [yo hz] at hf;refine ⟨_,_,rfl,by simp,_,rfl,.inl ⟨rfl,?_⟩⟩;simp only [go_sem,hf]
  ·right
   have cB:¬(i:Int)<l.length:=by omega
   simp only [go_sem,cB];refine ⟨_,_,rfl,by simp,_,rfl,.inr ⟨rfl,?_⟩⟩;rw [<-hf,xe (by omega)];rfl
def s42 {n:Nat} (h:Has P L n Mj) {v:AV} {l:List Int} (hv:bq v l) (hl:l.length<=1000000):aj P L n [v] (aa (bH l)):=by
 unfold aj;rw [aI h];simp only [go_sem,Mj];have key:=N8 (P:=P) (L:=L) (live:=[0,3]) (a:=Pj)
  (I:=fun k s=>∃tm ct i,s=⟨tm,[],ct,0⟩/\af tm 0=v/\af tm 3=aa (i:Nat)/\i+k=l.length/\bH (l.drop i)=bH l)
  (Q:=fun ex s=>∃tm,s=⟨tm,[],0,0⟩/\((ex= .ret/\af tm 2=aa (bH l))\/(ex= .exit 0/\bH l=0))) ?_ l.length
 ·generalize hq:D P L (.loop [0,3] Pj) _=q;obtain ⟨ex,s,rfl,tm,rfl,h2⟩:=bD hq key ⟨_,_,0,rfl,rfl,rfl,by omega,rfl⟩;rcases h2 with ⟨rfl,h2⟩ | ⟨rfl,h2⟩
  ·simp only [go_sem,h2]
  ·rw [h2];simp only [go_sem]
 ·rintro k s ⟨tm,ct,i,rfl,h0,h3,hk,hf⟩;rw [R0 (by simp only [go_sem,h0,h3,hv.pu])];simp only [go_sem,ya,h0,h3,Pj,hv.len];by_cases hi:i<l.length
  ·have cB:(i:Int)<l.length:=by omega
   rw [R8 hi] at hf;by_cases hz:l[i]=0
   ·left
    simp only [go_sem,ya,cB,hv.bi hi,hz];refine ⟨_,k-1,rfl,by omega,_,_,i+1,rfl,?_⟩;rw [wrap64 (by omega) (by omega)];rw [yA hz] at hf;simp only [go_sem,ya];exact ⟨trivial,rfl,by omega,hf⟩
   ·right
    simp only [go_sem,ya,cB,hv.bi hi,hz];rw [yo hz] at hf;refine ⟨_,_,rfl,by simp,_,rfl,.inl ⟨rfl,?_⟩⟩;simp only [go_sem,hf]
  ·right
   have cB:¬(i:Int)<l.length:=by omega
   simp only [go_sem,cB];refine ⟨_,_,rfl,by simp,_,rfl,.inr ⟨rfl,?_⟩⟩;rw [<-hf,xe (by omega)];rfl
def s11 (h:Has P L 11 ja) (Mu:Has P L 42 Mj) {v:AV} {l:List Int} (hv:bq v l) (hl:l.length<=1000000):aj P L 11 [v] (aa (bH l)):=by
 unfold aj;rw [aI h];simp only [go_sem,ya,ja,hv.an,s42 Mu hv hl]
end
section
variable {P:aM} {L:Lib} {f:cG} {tm:Env} {hp:Hp} {ct:Nat}
def anV (k:xc) (n:Int):cellsOf (.int k n)=[.int k n]:=(rfl)
def amE (b:Bool):cellsOf (.bool b)=[.bool b]:=(rfl)
def anW (s:List Nat):cellsOf (.str s)=[.str s]:=(rfl)
def amF:cellsOf .ab=[.ab]:=(rfl)
def anX (e:Bool) (n:Nat) (cs:List AV):cellsOf (.aE e n cs)=[.aE e n cs]:=(rfl)
def anY (id o n:Nat):cellsOf (.ak id o n)=[.ak id o n]:=(rfl)
def anZ (id o:Nat):cellsOf (.ptr id o)=[.ptr id o]:=(rfl)
def ap3 (g:Fr) (a b:List AV):cellsOf (.fn g a b)=[.fn g a b]:=(rfl)
def an0 (cs:List AV):cellsOf (.agg cs)=cs:=(rfl)
def acK (k:xc) (n:Int):dG (.int k n)=true:=(rfl)
def ap4 (b:Bool):dG (.bool b)=true:=(rfl)
def TH (s:List Nat):dG (.str s)=true:=(rfl)
def ap5:dG .ab=true:=(rfl)
def asg (e:Bool) (n:Nat) (cs:List AV):dG (.aE e n cs)=true:=(rfl)
def ash (id o n:Nat):dG (.ak id o n)=true:=(rfl)
def asi (id o:Nat):dG (.ptr id o)=true:=(rfl)
def auY (g:Fr) (a b:List AV):dG (.fn g a b)=true:=(rfl)
def ap6:cw []=true:=(rfl)
def aan (v:AV) (r:List AV):cw (v::r)=(dG v&&cw r):=(rfl)
def an1:aH []=true:=(rfl)
def amG (v:AV) (r:List AV):aH (v::r)=(a7 v&&aH r):=(rfl)
def auZ (id o:Nat):a7 (.ptr id o)=false:=(rfl)
def au0 (id o n:Nat):a7 (.ak id o n)=false:=(rfl)
def axq (g:Nat) (a b:List AV):a7 (.fn (.f g) a b)=(aH a&&aH b):=(rfl)
def ayZ (l:Nat) (a b:List AV):a7 (.fn (.y l) a b)=false:=(rfl)
def au1 (cs:List AV):a7 (.agg cs)=aH cs:=(rfl)
def au2 (cs:List AV):a7 (.az cs)=aH cs:=(rfl)
def GU (ct sz:Nat) (cs:List AV):Option (AV×Obj):=bif yz cs.length sz&&cw cs then some (.ptr ct 0,.cells true (aH cs) true sz cs) else none
def au3 (sz:Nat) (x:X):cW tm hp ct (.box sz x)=GU ct sz (cellsOf (aC tm x)):=rfl
def Pr {v:AV} (h:dG v=true):GU ct 1 [v]=some (.ptr ct 0,.cells true (a7 v&&true) true 1 [v]):=by
 simp [GU,cw,aH,h]
def bc {cs:List AV} {n:Nat} (hn:cs.length=n) (h:cw cs=true):GU ct n cs=some (.ptr ct 0,.cells true (aH cs) true n cs):=by
 subst hn;simp [GU,h]
def gP (hp:Hp) (ct id o sz:Nat) (new:List AV) (q:Option Obj):gM:=
 match q with
 | some (.cells true pu ex z cs)=>bif yz new.length sz&&yK (o+sz) cs.length&&cw new then some (.az [],aT hp id (.cells true (pu&&aH new) ex z (over o new cs)),ct) else none
 | _=>none
def stV (hp:Hp) (ct sz:Nat) (p:AV) (new:List AV):gM:=match p with | .ptr id o=>gP hp ct id o sz new (ao hp id) | _=>none
def abi (sz:Nat) (x v:X):cR tm hp ct (.st sz x v)=stV hp ct sz (aC tm x) (cellsOf (aC tm v)):=rfl
def agN (sz id o:Nat) (new:List AV):stV hp ct sz (.ptr id o) new=gP hp ct id o sz new (ao hp id):=rfl
def ay0 {v u:AV} {id z:Nat} {pu ex:Bool} (h:dG v=true):gP hp ct id 0 1 [v] (some (.cells true pu ex z [u]))=some (.az [],aT hp id (.cells true (pu&&(a7 v&&true)) ex z [v]),ct):=by
 simp [gP,cw,aH,h,over];rfl
def od {new cs:List AV} {id o sz z:Nat} {pu ex:Bool} (h1:new.length=sz) (h2:o+sz<=cs.length) (h:cw new=true):
  gP hp ct id o sz new (some (.cells true pu ex z cs))=some (.az [],aT hp id (.cells true (pu&&aH new) ex z (over o new cs)),ct):=by
 subst h1;simp [gP,h,yx h2]
def Ps (ct n sz:Nat) (q:Option (List AV)):Option (AV×Obj):=match q with | some cs=>bif yz cs.length (n*sz) then some (.ak ct 0 n,.cells true (aH cs) true sz cs) else none | none=>none
def asj (n sz:Nat) (z:List AV) (ps:List (Nat×Nat×X)):cW tm hp ct (.nl n sz z ps)=Ps ct n sz (fill tm z ps):=by
 simp only [cW,Ps];cases fill tm z ps<;>rfl
def Dv {n sz:Nat} {cs:List AV} (h:cs.length=n*sz):Ps ct n sz (some cs)=some (.ak ct 0 n,.cells true (aH cs) true sz cs):=by
 simp [Ps,h]
def qJ (tm:Env) (cs:List AV) (o sz:Nat) (new:List AV) (r:List (Nat×Nat×X)):Option (List AV):=
 bif yz new.length sz&&yK (o+sz) cs.length&&cw new then fill tm (over o new cs) r else none
def ap7 (cs:List AV):fill tm cs []=some cs:=rfl
def an2 (cs:List AV) (o sz:Nat) (x:X) (r:List (Nat×Nat×X)):fill tm cs ((o,sz,x)::r)=qJ tm cs o sz (cellsOf (aC tm x)) r:=rfl
def acL {cs:List AV} {o:Nat} {v:AV} {r:List (Nat×Nat×X)} (h1:o+1<=cs.length) (h2:dG v=true):qJ tm cs o 1 [v] r=fill tm (over o [v] cs) r:=by
 simp [qJ,cw,h2,yx h1]
def TI {cs new:List AV} {o sz:Nat} {r:List (Nat×Nat×X)} (h0:new.length=sz) (h1:o+sz<=cs.length) (h2:cw new=true):qJ tm cs o sz new r=fill tm (over o new cs) r:=by
 subst h0;simp [qJ,h2,yx h1]
def axr (v u:AV) (r:List AV):over 0 [v] (u::r)=v::r:=rfl
def axs (v a u:AV) (r:List AV):over 1 [v] (a::u::r)=a::v::r:=rfl
def axt (v a b u:AV) (r:List AV):over 2 [v] (a::b::u::r)=a::b::v::r:=rfl
def axu (v a b c u:AV) (r:List AV):over 3 [v] (a::b::c::u::r)=a::b::c::v::r:=rfl
def axv (v a b c d u:AV) (r:List AV):over 4 [v] (a::b::c::d::u::r)=a::b::c::d::v::r:=rfl
def axw (v a b c d e u:AV) (r:List AV):over 5 [v] (a::b::c::d::e::u::r)=a::b::c::d::e::v::r:=rfl
def om (ct sz bX:Nat) (zero:List AV) (l c:Option Nat):Option (AV×Obj):=
 match l,c with
 | some l,some c=>bif yK l c&&(yK c room&&(yK (c*bX) room&&(yz zero.length sz&&cw zero))) then some (.ak ct 0 l,.cells true (aH zero) (yz l c) sz (yf l zero).flatten) else none
 | _,_=>none
def au4 (sz bX:Nat) (z:List AV) (l c:X):cW tm hp ct (.pE sz bX z l c)=om ct sz bX z (dI (aC tm l)) (dI (aC tm c)):=by
 simp only [cW,om]
 grind
def sQ {sz bX l:Nat} {z:List AV} (h1:l<=1099511627776) (h2:l*bX<=1099511627776) (h3:z.length=sz) (h4:cw z=true):
  om ct sz bX z (some l) (some l)=some (.ak ct 0 l,.cells true (aH z) true sz (yf l z).flatten):=by
 subst h3;simp [om,h4,yx (show l<=room from h1),yx (show l*bX<=room from h2),yx (yq l)]
def Cs (hp:Hp) (ct sz bX:Nat) (s:AV) (src:Option (Nat×List AV)):gM:=
 match src with
 | none=>none
 | some (m,new)=>
  match s with
  | .ab=>
   bif yz m 0 then some (.ab,hp,ct)
   else bif yK m room&&(yK (m*bX) room&&yQ 0 sz) then some (.ak ct 0 m,(ct,.cells true (aH new) false sz new)::hp,ct+1) else none
  | .aE true n cs=>
   bif yz m 0 then some (.aE true n cs,hp,ct)
   else bif yK (n+m) room&&(yK ((n+m)*bX) room&&(yz cs.length (n*sz)&&yQ 0 sz)) then some (.ak ct 0 (n+m),(ct,.cells true (aH cs&&aH new) false sz (cs++new))::hp,ct+1) else none
  | .ak id o n=>
   match ao hp id with
   | some (.cells true pu _ z cs)=>
    bif yz z sz&&(yK (n+m) room&&(yK ((n+m)*bX) room&&(yK (o+n*sz) cs.length&&(yQ 0 sz&&cw new)))) then
     some (.ak ct 0 (n+m),(ct,.cells true (pu&&aH new) false sz (slice o (n*sz) cs++new))::dJ hp id,ct+1)
    else none
   | _=>none
  | _=>none
def an3 (sz bX:Nat) (s x:X):cR tm hp ct (.cX sz bX s x)=Cs hp ct sz bX (aC tm s) (iP hp sz (aC tm x)):=by
 simp only [cR,Cs]
 cases iP hp sz (aC tm x) with
 | none=>rfl
 | some q=>obtain ⟨m,new⟩:=q;cases aC tm s<;>rfl
def amH (sz id o n:Nat):iP hp sz (.ak id o n)=iN hp sz (.ak id o n):=rfl
def Zx (sz:Nat) (e:Bool) (n:Nat) (cs:List AV):iP hp sz (.aE e n cs)=iN hp sz (.aE e n cs):=rfl
def al5 (sz:Nat):iP hp sz .ab=some (0,[]):=rfl
def Xz (o n sz:Nat) (q:Option Obj):Option (Nat×List AV):=match q with | some (.cells _ _ _ _ cs)=>bif yK (o+n*sz) cs.length then some (n,slice o (n*sz) cs) else none | _=>none
def al6 (sz id o n:Nat):iN hp sz (.ak id o n)=Xz o n sz (ao hp id):=rfl
def axx (rw pu ex:Bool) (z:Nat) (v:AV):Xz 0 1 1 (some (.cells rw pu ex z [v]))=some (1,[v]):=rfl
def fY {sz bX:Nat} {new:List AV} {m:Nat} (hm:0<m) (h1:m<=1099511627776) (h2:m*bX<=1099511627776) (hs:0<sz):
  Cs hp ct sz bX .ab (some (m,new))=some (.ak ct 0 m,(ct,.cells true (aH new) false sz new)::hp,ct+1):=by
 have e1:yz m 0=false:=iO (by omega);have e2:yQ 0 sz=true:=yx hs;simp [Cs,e1,e2,yx (show m<=room from h1),yx (show m*bX<=room from h2)]
def fA {sz bX id n m:Nat} {pu ex:Bool} {cs new:List AV} (hg:ao hp id=some (.cells true pu ex sz cs)) (hl:cs.length=n*sz) (h1:n+m<=1099511627776) (h2:(n+m)*bX<=1099511627776) (hs:0<sz) (ho:cw new=true):
  Cs hp ct sz bX (.ak id 0 n) (some (m,new))=some (.ak ct 0 (n+m),(ct,.cells true (pu&&aH new) false sz (cs++new))::dJ hp id,ct+1):=by
 have e2:yQ 0 sz=true:=yx hs;simp only [Cs,hg];simp [e2,ho,yx (show n+m<=room from h1),yx (show (n+m)*bX<=room from h2),<-hl,slice,yx (yq cs.length)]
def ah0 (n:Nat) (g:Nat) (cap:List AV) (q:Option (List AV×Hp)):Option (AV×Hp):=match q with | some (first,hp)=>(match cD n hp cap with | some (PE,fD)=>some (.fn (.f g) first PE,fD) | none=>none) | none=>none
def ah1 (g:Nat) (first:List AV) (q:Option (List AV×Hp)):Option (AV×Hp):=match q with | some (cap,hp)=>some (.fn (.f g) first cap,hp) | none=>none
def au5 (n g:Nat) (first cap:List AV):freeze (n+1) hp (.fn (.f g) first cap)=ah0 n g cap (cD n hp first):=rfl
def au6 (n g:Nat) (first cap:List AV):ah0 n g cap (some (first,hp))=ah1 g first (cD n hp cap):=rfl
def au7 (g:Nat) (first cap:List AV):ah1 g first (some (cap,hp))=some (.fn (.f g) first cap,hp):=rfl
def ah2 (o:Nat) (q:Option (Bool×Nat×List AV×Hp)):Option (AV×Hp):=match q with | some (_,_,cs,hp)=>some (.aO (cs.drop o),hp) | none=>none
def asl (n id o:Nat):freeze (n+1) hp (.ptr id o)=ah2 o (nT n hp id):=rfl
def au8 (o:Nat) (ex:Bool) (sz:Nat) (cs:List AV):ah2 o (some (ex,sz,cs,hp))=some (.aO (cs.drop o),hp):=rfl
def kw (o k:Nat) (q:Option (Bool×Nat×List AV×Hp)):Option (AV×Hp):=
 match q with
 | some (ex,sz,cs,hp)=>bif yK (o+k*sz) cs.length then some (.aE (ex&&yQ 0 sz&&yz (o+k*sz) cs.length) k (slice o (k*sz) cs),hp) else none
 | none=>none
def JD (n id o k:Nat):freeze (n+1) hp (.ak id o k)=kw o k (nT n hp id):=rfl
def lP {sz k:Nat} {cs:List AV} (ex:Bool) (hl:cs.length=k*sz) (hs:0<sz):kw 0 k (some (ex,sz,cs,hp))=some (.aE ex k cs,hp):=by
 have e2:yQ 0 sz=true:=yx hs;simp [kw,<-hl,e2,slice,yx (yq cs.length)]
def zh (n id:Nat) (hp:Hp) (q:Option Obj):Option (Bool×Nat×List AV×Hp):=
 match q with
 | some (.cells rw pu ex sz cs)=>
  bif pu then some (ex,sz,cs,bif rw then aT hp id (.cells false true ex sz cs) else hp)
  else match cD n hp cs with
   | some (dL,ah)=>some (ex,sz,dL,aT ah id (.cells false false ex sz cs))
   | none=>none
 | _=>none
def JE (n id:Nat):nT (n+1) hp id=zh n id hp (ao hp id):=rfl
def au9 (n id:Nat) (ex:Bool) (sz:Nat) (cs:List AV):zh n id hp (some (.cells true true ex sz cs))=some (ex,sz,cs,aT hp id (.cells false true ex sz cs)):=rfl
def ava (n id:Nat) (ex:Bool) (sz:Nat) (cs:List AV):zh n id hp (some (.cells false true ex sz cs))=some (ex,sz,cs,hp):=rfl
def cy (n:Nat) (cs:List AV) (h:cD n hp cs=some (cs,hp)):freeze (n+1) hp (.agg cs)=some (.agg cs,hp):=by
 simp only [freeze,h]
def p9 {id n sz:Nat} {ex:Bool} {cs:List AV} (hg:ao hp id=some (.cells true true ex sz cs)) (hl:cs.length=n*sz) (hs:0<sz):result hp (.ak id 0 n)=some (.bV ex sz n cs):=by
 have e2:yQ 0 sz=true:=yx hs;simp only [result,mZ,hg,yg,<-hl,yx (yq cs.length),yD,e2,uk,slice,yL,xJ]
 simp
def aao {k id n sz:Nat} {ex:Bool} {cs:List AV} (hg:ao hp id=some (.cells true true ex sz cs)) (hl:cs.length=n*sz) (hs:0<sz):mZ k hp (.ak id 0 n)=some (.bV ex sz n cs,dJ hp id):=by
 have e2:yQ 0 sz=true:=yx hs;simp only [mZ,hg,yg,<-hl,yx (yq cs.length),yD,e2,uk,slice,yL,xJ]
 simp
def alG {id n sz:Nat} {ex:Bool} {cs:List AV} {b:Bool} (hg:ao hp id=some (.cells true true ex sz cs)) (hl:cs.length=n*sz) (hs:0<sz):result hp (.az [.ak id 0 n,.bool b])=some (.az [.bV ex sz n cs,.bool b]):=by
 have h1:FM [.ak id 0 n,.bool b]=some [id]:=rfl;simp only [result,h1,Aa,aao hg hl hs];rfl
def alu (b:Bool):result hp (.az [.ab,.bool b])=some (.az [.ab,.bool b]):=rfl
def alv (k:xc) (b:Int):result hp (.az [.ab,.int k b])=some (.az [.ab,.int k b]):=rfl
def alw (e:Bool) (n:Nat) (cs:List AV) (k:xc) (b:Int):result hp (.az [.aE e n cs,.int k b])=some (.az [.aE e n cs,.int k b]):=rfl
def an4 (s:St):qG [] s=some s:=rfl
def XA (t:Nat) (r:List Nat) (tm:Env) (ct base:Nat) (q:Option (AV×Hp)):Option St:=match q with | some (v,hp)=>qG r ⟨(t,v)::tm,hp,ct,base⟩ | none=>none
def amI (t:Nat) (r:List Nat) (tm:Env) (hp:Hp) (ct base:Nat):qG (t::r) ⟨tm,hp,ct,base⟩=XA t r tm ct base (freeze deep hp (af tm t)):=by
 simp only [qG,XA];cases freeze deep hp (af tm t)<;>rfl
def axy (t:Nat) (r:List Nat) (tm:Env) (ct base:Nat) (v:AV) (hp:Hp):XA t r tm ct base (some (v,hp))=qG r ⟨(t,v)::tm,hp,ct,base⟩:=rfl
end
attribute [go_sem] alu alv alw anV amE anW amF anX anY anZ ap3 an0 acK ap4 TH ap5 asg ash asi auY ap6 aan
 an1 amG auZ au0 axq ayZ au1 au2 au3 Pr abi agN ay0 asj ap7 an2 axr axs axt axu axv axw au4
 an3 amH Zx al5 al6 axx au5 au6 au7 asl au8 JD lP Dv acL JE au9 ava an4 amI axy
 Bool.and_false Bool.false_and yL eq_self
def abj:∀hp:Hp,jN 0 hp=[]
 | []=>rfl
 | (id,o)::r=>by
  have:yQ id 0=false:=rfl
  simp only [jN,this,yW,abj r]
def aex (f:Nat->Option Nat):∀hp:Hp,ni 0 f hp=[]
 | []=>rfl
 | (id,o)::r=>by
  have:yQ id 0=false:=rfl
  simp only [ni,this,yW,aex f r]
def pos (seen:List Nat):Nat->Option Nat:=fun id=>dc id seen 0
def VY (tm:Env) (hp:Hp) (seen:List Nat):St:=⟨fe (pos seen) tm,iz hp (pos seen) seen 0 [],seen.length,0⟩
def mo (hp:Hp):Nat->List Nat->List Nat->List Nat:=reach hp 0
def aw (live:List Nat) (tm:Env) (hp:Hp) (ct:Nat):aG live ⟨tm,hp,ct,0⟩=VY (bP tm live) hp (mo hp 100000 (et (bP tm live)) []):=by
 have e:∀seen,lS 0 seen=pos seen:=fun seen=>by
  funext id
  have:yQ id 0=false:=rfl
  simp only [lS,this,yW,pos]
 simp only [aG,abj,xT,e,aex,VY,mo,yg]
def an5:et []=[]:=rfl
def amJ (i:Nat) (v:AV) (r:Env):et ((i,v)::r)=refs v++et r:=rfl
def ap8 (k:xc) (n:Int):refs (.int k n)=[]:=rfl
def an6 (b:Bool):refs (.bool b)=[]:=rfl
def ap9 (s:List Nat):refs (.str s)=[]:=rfl
def an7:refs .ab=[]:=rfl
def aqa (e:Bool) (n:Nat) (cs:List AV):refs (.aE e n cs)=[]:=rfl
def an8 (cs:List AV):refs (.aO cs)=[]:=rfl
def amK:refs .undef=[]:=rfl
def aqb (id o:Nat):refs (.ptr id o)=[id]:=rfl
def aqc (id o n:Nat):refs (.ak id o n)=[id]:=rfl
def asm (g:Nat) (a b:List AV):refs (.fn (.f g) a b)=gG a++gG b:=rfl
def avb (l:Nat) (a b:List AV):refs (.fn (.y l) a b)=[l]:=rfl
def aqd (cs:List AV):refs (.agg cs)=gG cs:=rfl
def an9:gG []=[]:=rfl
def amL (v:AV) (r:List AV):gG (v::r)=refs v++gG r:=rfl
def Qg (hp:Hp) (n id:Nat) (gh seen:List Nat) (q:Option Obj):List Nat:=match q with | some o=>mo hp n (iR o++gh) (seen++[id]) | none=>mo hp n gh seen
def Qh (hp:Hp) (n id:Nat) (gh seen:List Nat) (b:Bool):List Nat:=bif b then mo hp n gh seen else Qg hp n id gh seen (ao hp id)
def acM (hp:Hp) (n:Nat) (seen:List Nat):mo hp (n+1) [] seen=seen:=rfl
def FA (hp:Hp) (n id:Nat) (gh seen:List Nat):mo hp (n+1) (id::gh) seen=Qh hp n id gh seen (jR id seen):=by
 have:yQ id 0=false:=rfl
 simp only [mo,reach,this,Bool.false_or,Qh,Qg]
 cases jR id seen with
 | true=>rfl
 | false=>simp only [yW];cases ao hp id<;>rfl
def avc (hp:Hp) (n id:Nat) (gh seen:List Nat):Qh hp n id gh seen true=mo hp n gh seen:=rfl
def Gc (hp:Hp) (n id:Nat) (gh seen:List Nat):Qh hp n id gh seen false=Qg hp n id gh seen (ao hp id):=rfl
def Gd (hp:Hp) (n id:Nat) (gh seen:List Nat) (o:Obj):Qg hp n id gh seen (some o)=mo hp n (iR o++gh) (seen++[id]):=rfl
def Jh (i:Nat):jR i []=false:=rfl
def abk (i:Nat) (r:List Nat):jR i (i::r)=true:=by simp only [jR,ve,yD]
def SI {i j:Nat} (r:List Nat) (h:j≠i):jR i (j::r)=jR i r:=by simp only [jR,iO h,yW]
def TJ (rw ex:Bool) (sz:Nat) (cs:List AV):iR (.cells rw true ex sz cs)=[]:=rfl
def Oy (rw ex:Bool) (sz:Nat) (cs:List AV):iR (.cells rw false ex sz cs)=gG cs:=rfl
def aqe (tm:Env) (ps:List Nat) (a b:VC) (st:Nat) (pe:AI):iR (.lp tm ps a b st pe)=et tm:=rfl
def acN (i:Nat) (r:List Nat) (k:Nat):dc i (i::r) k=some k:=by simp only [dc,ve,yD]
def abl {i j:Nat} (r:List Nat) (k:Nat) (h:j≠i):dc i (j::r) k=dc i r (k+1):=by simp only [dc,iO h,yW]
def pos_eq (seen:List Nat) (i:Nat):pos seen i=dc i seen 0:=rfl
def agO (o:Nat) (q:Option Nat):AV:=match q with | some j=> .ptr j o | none=> .undef
def agP (o n:Nat) (q:Option Nat):AV:=match q with | some j=> .ak j o n | none=> .undef
def aqf (s:List Nat):fe (pos s) []=[]:=rfl
def aoa (s:List Nat) (i:Nat) (v:AV) (r:Env):fe (pos s) ((i,v)::r)=(i,b8 (pos s) v)::fe (pos s) r:=rfl
def asn (s:List Nat) (k:xc) (n:Int):b8 (pos s) (.int k n)= .int k n:=rfl
def aqg (s:List Nat) (b:Bool):b8 (pos s) (.bool b)= .bool b:=rfl
def aso (s:List Nat) (t:List Nat):b8 (pos s) (.str t)= .str t:=rfl
def aqh (s:List Nat):b8 (pos s) .ab= .ab:=rfl
def asp (s:List Nat) (e:Bool) (n:Nat) (cs:List AV):b8 (pos s) (.aE e n cs)= .aE e n cs:=rfl
def aqi (s:List Nat) (cs:List AV):b8 (pos s) (.aO cs)= .aO cs:=rfl
def aob (s:List Nat):b8 (pos s) .undef= .undef:=rfl
def asq (s:List Nat) (id o:Nat):b8 (pos s) (.ptr id o)=agO o (dc id s 0):=rfl
def asr (s:List Nat) (id o n:Nat):b8 (pos s) (.ak id o n)=agP o n (dc id s 0):=rfl
def avd (s:List Nat) (g:Nat) (a b:List AV):b8 (pos s) (.fn (.f g) a b)= .fn (.f g) (eH (pos s) a) (eH (pos s) b):=rfl
def ass (s:List Nat) (cs:List AV):b8 (pos s) (.agg cs)= .agg (eH (pos s) cs):=rfl
def aqj (s:List Nat):eH (pos s) []=[]:=rfl
def aoc (s:List Nat) (v:AV) (r:List AV):eH (pos s) (v::r)=b8 (pos s) v::eH (pos s) r:=rfl
def ast (o j:Nat):agO o (some j)= .ptr j o:=rfl
def asu (o n j:Nat):agP o n (some j)= .ak j o n:=rfl
def VZ (hp:Hp) (f:Nat->Option Nat) (r:List Nat) (k:Nat) (acc:Hp) (q:Option Obj):Hp:=match q with | some o=>iz hp f r (k+1) ((k,iT f o)::acc) | none=>iz hp f r (k+1) acc
def aod (hp:Hp) (s:List Nat) (k:Nat) (acc:Hp):iz hp (pos s) [] k acc=acc:=rfl
def amM (hp:Hp) (s:List Nat) (id:Nat) (r:List Nat) (k:Nat) (acc:Hp):iz hp (pos s) (id::r) k acc=VZ hp (pos s) r k acc (ao hp id):=by
 simp only [iz,VZ];cases ao hp id<;>rfl
def ave (hp:Hp) (s r:List Nat) (k:Nat) (acc:Hp) (o:Obj):VZ hp (pos s) r k acc (some o)=iz hp (pos s) r (k+1) ((k,iT (pos s) o)::acc):=rfl
def avf (f:Nat->Option Nat) (rw ex:Bool) (sz:Nat) (cs:List AV):iT f (.cells rw true ex sz cs)= .cells rw true ex sz cs:=rfl
def avg (f:Nat->Option Nat) (rw ex:Bool) (sz:Nat) (cs:List AV):iT f (.cells rw false ex sz cs)= .cells rw false ex sz (eH f cs):=rfl
def asv (f:Nat->Option Nat) (tm:Env) (ps:List Nat) (a b:VC) (st:Nat) (pe:AI):iT f (.lp tm ps a b st pe)= .lp (fe f tm) ps a b st pe:=rfl
def acO (tm:Env) (hp:Hp) (seen:List Nat):VY tm hp seen=⟨fe (pos seen) tm,iz hp (pos seen) seen 0 [],seen.length,0⟩:=rfl
attribute [go_sem] an5 amJ ap8 an6 ap9 an7 aqa an8 amK aqb aqc asm avb aqd an9 amL acM FA avc Gc Gd
 Jh abk SI TJ Oy aqe acN abl aqf aoa asn aqg aso aqh asp aqi aob asq asr avd ass aqj aoc ast asu
 aod amM ave avf avg asv acO yy yO
section
variable {P:aM} {L:Lib}
def aqk {α:Type} {p:α->Bool} {l:List α} {i:Nat} (h:i<l.length):(l.drop i).any p=(p l[i]||(l.drop (i+1)).any p):=by
 rw [yP h,List.any_cons]
structure Sq (P:aM) (L:Lib):Prop where
 h32:Has P L 32 c32
 zM:Has P L 31 CP
 CR:Has P L 33 Hs
 h94:Has P L 94 c94
 h95:Has P L 95 c95
 aEq:Has P L 132 ahS
 h4:Has P L 4 c4
 h9:Has P L 9 c9
def NT {k:xc} {n:Int} (h:0<=n):dI (.int k n)=some n.toNat:=by
 cases n with
 | ofNat n=>rfl
 | negSucc n=>exact absurd h (by simp)
def b7 (k id o:Nat):Kr k (.ptr id o)=some (.ptr id (o+k)):=rfl
def dt {α:Type} (a:α) (l:List α):vh 1 (a::l)=l:=rfl
def axz {α:Type} (a b:α) (l:List α):vh 2 (a::b::l)=l:=rfl
def agQ {α:Type} (a b c:α) (l:List α):vh 3 (a::b::c::l)=l:=rfl
abbrev Nm (n:Int):AV:= .agg [aa n,.ab]
def sR (hp:Hp) (ct id:Nat) (a:Int) (x y:AV):gP hp ct id 0 2 [.int .i64 a,.ab] (some (.cells true true true 2 [x,y]))=some (.az [],aT hp id (.cells true true true 2 [.int .i64 a,.ab]),ct):=rfl
def eN (b:Bool):Lr false (some b)=some (.bool b):=by cases b<;>rfl
def aey (f:cG) (tm:Env) (hp:Hp) (ct:Nat) (x y:X):bg P L f tm hp ct (.mn [x,y])=rd hp ct (min2 (aC tm x) (aC tm y)):=by
 simp only [bg,rd,bB,dH,B5]
 grind
def Kk (f:cG) (tm:Env) (hp:Hp) (ct:Nat) (x y:X):bg P L f tm hp ct (.mx [x,y])=rd hp ct (max2 (aC tm x) (aC tm y)):=by
 simp only [bg,rd,bB,dH,B5]
 grind
def abm (k k':xc) (x y:Int):min2 (.int k x) (.int k' y)=some (.int k (if y<x then y else x)):=rfl
def Ji (k k':xc) (x y:Int):max2 (.int k x) (.int k' y)=some (.int k (if y>x then y else x)):=rfl
def cJ (n:Int):Int:=if n<0 then -1 else if n=0 then 0 else 1
def avh (n:Int):(if (if n<1 then n else 1)> -1 then (if n<1 then n else 1) else -1)=cJ n:=by
 unfold cJ
 grind
def n117 (h:Has P L 117 PR) (n:Int):aj P L 117 [aa n] (Nm n):=by
 unfold aj;rw [aI h];simp only [go_sem,ya,yd,Nat.reduceLeDiff,PR,bc,yg,sR];rfl
def qK (hp:Hp) (p q:Bool):kv .b (.bool p) (.bool q)=some (p==q):=rfl
def jL {n:Nat} {sp:List AV->Option AV} (h:L.pure n=some sp) {f:cG} (ax:List AV):bK P L f n ax=sp ax:=by simp only [bK,h]
abbrev U64 (n:Int):AV:= .int .u64 n
def axA {n:Int} (h1:0<=n) (h2:n<18446744073709551616):IntKind.wrap .u64 n=n:=by
 simp only [IntKind.wrap,IntKind.signed,IntKind.bits]
 grind
def aez (n:Int):qO (.toInt .u64) (aa n)=some (U64 (IntKind.wrap .u64 n)):=rfl
def OX (n:Int):qO (.toInt .i64) (U64 n)=some (aa (IntKind.wrap .i64 n)):=rfl
def Kl (b:Bool):Lr true (some b)=some (.bool (!b)):=by cases b<;>rfl
def cz (a b:AV) (r:List AV):iX 2 true (a::b::r)=some (.agg [a,b]):=rfl
def fP (a b c d:AV) (r:List AV):iX 4 true (a::b::c::d::r)=some (.agg [a,b,c,d]):=rfl
def aoe {a b:Int} (hb:0<b):(a.tmod b<0->a/b=a.tdiv b-1/\a%b=a.tmod b+b)/\(¬a.tmod b<0->a/b=a.tdiv b/\a%b=a.tmod b):=by
 have h1:=Int.mul_tdiv_add_tmod a b;have h2:a.tmod b<b:=Int.tmod_lt_of_pos a hb;have h3: -b<a.tmod b:=Int.lt_tmod_of_pos a hb;refine ⟨fun h=>(tD hb).2 ⟨?_,?_,?_⟩,fun h=>(tD hb).2 ⟨?_,?_,?_⟩⟩
 ·grind
 ·omega
 ·omega
 ·omega
 ·omega
 ·omega
def aql (a b:Nat) (hb:b≠0):wW b (a%b)=wW a b:=by
 rw [tq b,<-yca,tq]
end
def dC (a b:Int):Int:=a/(vv a b:Nat)
def dK (a b:Int):Int:=b/(vv a b:Nat)
def Oz {a b:Int} (hb:0<b):(0:Int)<(vv a b:Nat):=by
 have:=Int.gcd_pos_of_ne_zero_right a (show b≠0 by omega)
 omega
def avi (a b:Int):a=(vv a b:Nat)*dC a b:=(yaC (tG a b)).symm
def avj (a b:Int):b=(vv a b:Nat)*dK a b:=(yaC (tz a b)).symm
def Jj {a b:Int} (hb:0<b):0<dK a b:=by
 have h1:=Oz (a:=a) hb;have h2:=avj a b;rcases Int.lt_trichotomy (dK a b) 0 with h | h | h
 ·have:=Int.mul_neg_of_pos_of_neg h1 h;omega
 ·grind
 ·exact h
def abn (a b:Int):(dC a b).natAbs<=a.natAbs:=by
 unfold dC;rw [uy (tG a b)];exact vM _ _
def abo (a b:Int):(dK a b).natAbs<=b.natAbs:=by
 unfold dK;rw [uy (tz a b)];exact vM _ _
def qS (a b:Int):List Nat:=if dK a b=1 then aY (dC a b) else aY (dC a b)++[47]++aY (dK a b)
def agR {a b:Nat} (h:¬a<b):yQ a b=false:=by
 cases hb:yQ a b with
 | false=>rfl
 | true=>exact absurd (yB hb) (by omega)
def TK:∀(f n:Nat) (acc:List Nat),n<f->nW f n acc=nW f n []++acc
 | 0,_,_,h=>by omega
 | f+1,n,acc,h=>by
  simp only [nW];by_cases h1:n<10
  ·rw [show yQ n 10=true from yx h1];rfl
  ·rw [show yQ n 10=false from agR (by omega)];rw [TK f (n/10) _ (by omega),TK f (n/10) [48+n%10] (by omega)]
   simp
def SJ {f n:Nat} (h:n<10):nW (f+1) n []=[48+n]:=by
 simp only [nW];rw [show yQ n 10=true from yx h];rfl
def TL {f n:Nat} (h:¬n<10) (hf:n<=f):nW (f+1) n []=nW f (n/10) []++[48+n%10]:=by
 rw [<-TK f (n/10) _ (by omega)];simp only [nW];rw [show yQ n 10=false from agR (by omega)];rfl
def aqm:∀(n f:Nat),n<f->nW f n []=aD n:=by
 intro n
 induction n using uB with
 | _ n ih=>
  intro f hf;obtain ⟨g,rfl⟩:∃g,f=g+1:=⟨f-1,by omega⟩;by_cases h:n<10
  ·rw [SJ h];unfold aD;rw [SJ h]
  ·rw [TL h (by omega),ih (n/10) (by omega) g (by omega)];unfold aD;rw [TL h (yq n),ih (n/10) (by omega) n (by omega)];rfl
def qc {n:Nat} (h:n<10):aD n=[48+n]:=SJ h
def rJ {n:Nat} (h:¬n<10):aD n=aD (n/10)++[48+n%10]:=by
 rw [show aD n=nW (n+1) n [] from rfl,TL h (yq n),aqm (n/10) n (by omega)]
def sG:∀{k n:Nat},n<10^(k+1)->(aD n).length<=k+1
 | 0,n,h=>by rw [qc (by simpa using h)];simp
 | k+1,n,h=>by
  by_cases h1:n<10
  ·rw [qc h1];simp
  ·rw [rJ h1,yG]
   have:n/10<10^(k+1):=by
    grind
   have:=sG this
   grind
def NF {n:Nat} (h:n<18446744073709551616):(aD n).length<=20:=sG (k:=19) (by omega)
def mw (n:Nat):aY (n:Int)=aD n:=rfl
def nV {n:Int} (h:n<0):aY n=45::aD n.natAbs:=by
 cases n with
 | ofNat n=>exact absurd h (by simp)
 | negSucc n=>rfl
def bY:List Nat->Nat
 | []=>0
 | b::r=>if b=47 then 0 else bY r+1
def al7 {s:List Nat} {i:Nat} (h:i<s.length):bY (s.drop i)=if s[i]=47 then 0 else bY (s.drop (i+1))+1:=by
 rw [yP h];rfl
def I9:∀s:List Nat,bY s<=s.length
 | []=>yq _
 | b::r=>by
  unfold bY
  have:=I9 r
  grind
def dw:List Nat->Bool
 | []=>true
 | b::r=>yK 48 b&&yK b 57&&dw r
def Np:∀(a b:List Nat),dw (a++b)=(dw a&&dw b)
 | [],b=>by simp [dw]
 | x::a,b=>by simp [dw,Np a b,Bool.and_assoc]
def Ja (n:Nat):dw (aD n)=true:=by
 induction n using uB with
 | _ n ih=>
  by_cases h:n<10
  ·rw [qc h];simp [dw];omega
  ·rw [rJ h,Np,ih (n/10) (by omega)];simp [dw];omega
def Nq:∀{s:List Nat} (r:List Nat),dw s=true->bY (s++r)=s.length+bY r
 | [],r,_=>by simp
 | b::s,r,h=>by
  simp only [dw,yi] at h;have h1:=yB h.1.1;simp only [xr,bY,yy];rw [yo (by omega),Nq r h.2];omega
def Nr:∀(l:List Nat) (a d:Nat),d<10->cV (l++[48+d]) a=(cV l a).map (fun v=>10*v+d)
 | [],a,d,h=>by
  simp only [xp,cV];rw [show yK 48 (48+d)=true from yx (by omega),show yK (48+d) 57=true from yx (by omega)]
  simp
 | b::l,a,d,h=>by
  simp only [xr,cV]
  cases (yK 48 b&&yK b 57) with
  | true=>exact Nr l _ d h
  | false=>rfl
def Dm (n:Nat):cV (aD n) 0=some n:=by
 induction n using uB with
 | _ n ih=>
  by_cases h:n<10
  ·rw [qc h]
   have:=Nr [] 0 n h
   simpa [cV] using this
  ·rw [rJ h,Nr _ _ _ (by omega),ih (n/10) (by omega)]
   simp;omega
def aof {s:List Nat} {i a v:Nat} (h:i<s.length) (hv:cV (s.drop i) a=some v):48<=s[i]/\s[i]<=57/\cV (s.drop (i+1)) (10*a+(s[i]-48))=some v:=by
 rw [yP h] at hv;simp only [cV] at hv
 cases hb:(yK 48 s[i]&&yK s[i] 57) with
 | false=>rw [hb] at hv;cases hv
 | true=>
  simp_all
def jh:Nat->Nat->List Nat
 | 0,_=>[]
 | k+1,n=>jh k (n/10)++[48+n%10]
def Td:∀k n,(jh k n).length=k
 | 0,_=>rfl
 | k+1,n=>by simp [jh,Td k]
def N9:∀(k m r:Nat),0<m->r<10^k->aD (m*10^k+r)=aD m++jh k r
 | 0,m,r,_,h=>by simp at h;subst h;simp [jh]
 | k+1,m,r,hm,h=>by
  have h1:m*10^(k+1)+r=(m*10^k)*10+r:=by grind
  have hp:0<m*10^k:=yaq hm (Nat.pow_pos (by decide));have e1:(m*10^(k+1)+r)/10=m*10^k+r/10:=by omega
  have e2:(m*10^(k+1)+r)%10=r%10:=by omega
  rw [rJ (by omega),e1,e2,N9 k m (r/10) hm (by rw [xi] at h;omega)];simp [jh]
def abp:∀(k r a:Nat),r<10^k->cV (jh k r) a=some (a*10^k+r)
 | 0,r,a,h=>by simp at h;subst h;simp [jh,cV]
 | k+1,r,a,h=>by
  rw [jh,Nr _ _ _ (xH _ (by decide)),abp k (r/10) a (by omega)];simp only [wV,ye,xi]
  grind
def aqn {m:Nat} (h:1000000000<=m):aD m=aD (m/1000000000)++jh 9 (m%1000000000):=by
 have:=N9 9 (m/1000000000) (m%1000000000) (by omega) (by omega)
 grind
def iW (s:List Nat) (l h:Option Nat):Option AV:=
 match l,h with
 | some l,some h=>bif yK l h&&yK h s.length then some (.str ((s.take h).drop l)) else none
 | _,_=>none
def fb (hp:Hp) (s:List Nat) (tm:Env) (lo hi:Option X):fG hp .str (.str s) tm lo hi=iW s (dl tm 0 lo) (dl tm s.length hi):=by
 unfold iW;simp only [fG]
 grind
def fB (tm:Env) (d:Nat):dl tm d none=some d:=rfl
def dS (tm:Env) (d:Nat) (x:X):dl tm d (some x)=dI (aC tm x):=rfl
def my {s:List Nat} {l h:Nat} (h1:l<=h) (h2:h<=s.length):iW s (some l) (some h)=some (.str ((s.take h).drop l)):=by
 simp [iW,yx h1,yx h2]
def ia {a b:List Nat} (h:a.length+b.length<=9223372036854775807):binOp .add (.str a) (.str b)=some (.str (a++b)):=by
 show Kq .add a b=_
 simp only [Kq,yx h,yD]
def asw (k:xc) (n:Int):qO (.toInt .i64) (.int k n)=some (aa (IntKind.wrap .i64 n)):=rfl
def mz (a b:List Nat):binOp .eql (.str a) (.str b)=some (.bool (de a b)):=rfl
def rM {s:List Nat} {i:Nat} (h:i<s.length):n7 i (.str s)=some (.int .u8 (s[i]:Nat)):=by
 simp only [n7,y9 h]
def Zy {r:Nat} (h:r<10):iW [48,49,50,51,52,53,54,55,56,57] (some r) (some (r+1))=some (.str [48+r]):=by
 have:r=0\/r=1\/r=2\/r=3\/r=4\/r=5\/r=6\/r=7\/r=8\/r=9:=by omega
 rcases this with rfl | rfl | rfl | rfl | rfl | rfl | rfl | rfl | rfl | rfl<;>rfl
section
variable {P:aM} {L:Lib}
def V1 (h:Has P L 292 AN) {n:Nat} (hn:n<9223372036854775808):aj P L 292 [aa n,aa 1] (.str (aD n)):=by
 have key:=fk (P:=P) (L:=L) (live:=[0,1,5]) (a:=pg)
  (I:=fun k st=>∃(m:Nat) (s:List Nat),st=⟨[(0,aa m),(1,aa 1),(5,.str s)],[],0,0⟩/\m<=n/\m+(1-s.length)=k/\s.length<=20/\((s=[]/\m=n)\/(0<s.length/\(m=0->s=aD n)/\(0<m->aD n=aD m++s))))
  (Q:=fun ex st=>∃tm ct,st=⟨tm,[],ct,0⟩/\ex= .exit 0/\af tm 5= .str (aD n)) ?_
 ·unfold aj;rw [aI h];simp only [go_sem,AN];generalize hq:D P L (.loop [0,1,5] pg) _=q;obtain ⟨ex,st,rfl,tm,ct,rfl,rfl,h2⟩:=bD hq (key (n+1)) ⟨n,[],by simp only [go_sem,ya,aw]<;>rfl,by omega,rfl,by simp,.inl ⟨rfl,rfl⟩⟩
  simp only [go_sem,aw,h2]
 ·rintro k st ⟨m,s,rfl,hm,hk,hl,hs⟩;by_cases zN:0<m\/s.length<1
  ·left
   have hc:((decide ((0:Int)<m))=true)\/((decide ((0:Int)<m))=false/\((s.length:Nat):Int)<1):=by
    by_cases h0:0<m
    ·exact .inl (xq (by omega))
    ·exact .inr ⟨xb (by omega),by omega⟩
   have hr:((m:Int)).tmod 10=((m%10:Nat):Int):=by rw [wF (by omega)];rfl
   have hq:((m:Int)).tdiv 10=((m/10:Nat):Int):=by rw [Int.tdiv_eq_ediv_of_nonneg (by omega)];rfl
   have hd:=Zy (r:=m%10) (by omega);have fin:∃s' k',D P L pg ⟨[(0,aa m),(1,aa 1),(5,.str s)],[],0,0⟩=some (.normal,s')/\k'<k/\aG [0,1,5] s'=⟨[(0,aa (m/10:Nat)),(1,aa 1),(5,.str ([48+m%10]++s))],[],0,0⟩/\m/10+(1-([48+m%10]++s).length)=k':=by
    rcases hc with hc | ⟨hc,zG⟩
    ·have hc:(0:Int)<m:=of_decide_eq_true hc
     simp only [go_sem,ya,yd,pg,hc,jt _ _ _ (show (10:Int)≠0 by decide),hZ _ _ _ (show (10:Int)≠0 by decide),hr,hq,wrapN (n:=m%10+1) (by omega),wrap64 (n:=((m/10:Nat):Int)) (by omega) (by omega),fb,dS,show ((m%10:Nat):Int)+1=((m%10+1:Nat):Int) from rfl,hd,ia (a:=[48+m%10]) (b:=s) (by simp;omega)];refine ⟨_,_,rfl,?_,by simp only [go_sem,ya,aw],rfl⟩
     simp;omega
    ·have hc:¬(0:Int)<m:=of_decide_eq_false hc
     simp only [go_sem,ya,yd,pg,hc,zG,jt _ _ _ (show (10:Int)≠0 by decide),hZ _ _ _ (show (10:Int)≠0 by decide),hr,hq,wrapN (n:=m%10+1) (by omega),wrap64 (n:=((m/10:Nat):Int)) (by omega) (by omega),fb,dS,show ((m%10:Nat):Int)+1=((m%10+1:Nat):Int) from rfl,hd,ia (a:=[48+m%10]) (b:=s) (by simp;omega)];refine ⟨_,_,rfl,?_,by simp only [go_sem,ya,aw],rfl⟩
     simp;omega
   obtain ⟨s',k',f1,f2,f3,f4⟩:=fin;refine ⟨s',k',f1,f2,m/10,[48+m%10]++s,f3,by omega,f4,?_,.inr ⟨by simp,fun h0=>?_,fun h0=>?_⟩⟩
   ·have aEr:=NF (n:=n) (by omega);rcases hs with ⟨rfl,rfl⟩ | ⟨h1,h2,h3⟩
    ·simp
    ·by_cases h0:0<m
     ·have e:=congrArg tR (h3 h0);have e2:0<(aD m).length:=by
       by_cases h9:m<10
       ·rw [qc h9];simp
       ·rw [rJ h9];simp
      simp only [yG] at e
      simp;omega
     ·omega
   ·have h9:m<10:=by omega
    rcases hs with ⟨rfl,rfl⟩ | ⟨h1,h2,h3⟩
    ·rw [qc h9,yY h9];rfl
    ·have:0<m:=by omega
     rw [h3 this,qc h9,yY h9]
   ·have h9:¬m<10:=by omega
    rcases hs with ⟨rfl,rfl⟩ | ⟨h1,h2,h3⟩
    ·rw [rJ h9];simp
    ·rw [h3 (by omega),rJ h9];simp
  ·right
   simp only [go_sem,ya,pg,show ¬(0:Int)<m by omega,show ¬((s.length:Nat):Int)<1 by omega];refine ⟨_,_,rfl,by simp,_,_,rfl,rfl,?_⟩;simp only [go_sem,ya];rcases hs with ⟨rfl,rfl⟩ | ⟨h1,h2,h3⟩
   ·simp at zN
   ·rw [h2 (by omega)]
def ay1 (h:Has P L 291 Lk) {a b:Nat} (ha:a<9223372036854775808) (hb:b<9223372036854775808):aj P L 291 [aa a,aa b] (aa (wW a b)):=by
 have key:=fk (P:=P) (L:=L) (live:=[0,1]) (a:=Kc)
  (I:=fun k st=>∃x y:Nat,st=⟨[(0,aa x),(1,aa y)],[],0,0⟩/\y=k/\wW x y=wW a b)
  (Q:=fun ex st=>∃tm ct,st=⟨tm,[],ct,0⟩/\ex= .exit 0/\af tm 0=aa (wW a b)) ?_
 ·unfold aj;rw [aI h];simp only [go_sem,Lk];generalize hq:D P L (.loop [0,1] Kc) _=q;obtain ⟨ex,st,rfl,tm,ct,rfl,rfl,h2⟩:=bD hq (key b) ⟨a,b,by simp only [go_sem,ya,aw]<;>rfl,rfl,rfl⟩
  simp only [go_sem,aw,h2]
 ·rintro k st ⟨x,y,rfl,rfl,hg⟩;by_cases hy:y=0
  ·right
   subst hy;simp only [go_sem,ya,Kc,show ¬(0:Int)<((0:Nat):Int) by omega];refine ⟨_,_,rfl,by simp,_,_,rfl,rfl,?_⟩;simp only [go_sem,ya];rw [<-hg,Nat.gcd_zero_right]
  ·left
   have hr:((x:Int)).tmod y=((x%y:Nat):Int):=by rw [wF (by omega)];rfl
   simp only [go_sem,ya,Kc,show (0:Int)<y by omega,jt _ _ _ (show (y:Int)≠0 by omega),hr];refine ⟨_,x%y,rfl,xH _ (by omega),y,x%y,by simp only [go_sem,ya,aw],rfl,?_⟩;rw [<-hg,tq y,<-yca,tq]
def GV (h:Has P L 272 Lh) {s:List Nat} (hl:s.length<9223372036854775808):aj P L 272 [.str s] (aa (bY s)):=by
 have key:=fk (P:=P) (L:=L) (live:=[0,3]) (a:=FX)
  (I:=fun k st=>∃i:Nat,st=⟨[(0,.str s),(3,aa i)],[],0,0⟩/\i+k=s.length/\i+bY (s.drop i)=bY s)
  (Q:=fun ex st=>∃tm ct,st=⟨tm,[],ct,0⟩/\((ex= .ret/\af tm 2=aa (bY s))\/(ex= .exit 0/\af tm 0= .str s/\bY s=s.length))) ?_
 ·unfold aj;rw [aI h];simp only [go_sem,Lh];generalize hq:D P L (.loop [0,3] FX) _=q;obtain ⟨ex,st,rfl,tm,ct,rfl,h2⟩:=bD hq (key s.length) ⟨0,by simp only [go_sem,ya,aw]<;>rfl,by omega,by simp⟩
  rcases h2 with ⟨rfl,h2⟩ | ⟨rfl,h2,h3⟩
  ·simp only [go_sem,h2]
  ·simp only [go_sem,aw,h2,h3]
 ·rintro k st ⟨i,rfl,hk,hs⟩;by_cases hi:i<s.length
  ·rw [al7 hi] at hs;by_cases h7:s[i]=47
   ·right
    rw [yA h7] at hs;simp only [go_sem,ya,FX,show (i:Int)<s.length by omega,rM hi,show ((s[i]:Nat):Int)=47 by omega];refine ⟨_,_,rfl,by simp,_,_,rfl,.inl ⟨rfl,?_⟩⟩;simp only [go_sem];rw [<-hs];rfl
   ·left
    rw [yo h7] at hs;simp only [go_sem,ya,FX,show (i:Int)<s.length by omega,rM hi,show ¬((s[i]:Nat):Int)=47 by omega];refine ⟨_,k-1,rfl,by omega,i+1,?_,by omega,by omega⟩;rw [wrap64 (by omega) (by omega)];simp only [go_sem,ya,aw]<;>rfl
  ·right
   simp only [go_sem,ya,FX,show ¬(i:Int)<s.length by omega];refine ⟨_,_,rfl,by simp,_,_,rfl,.inr ⟨rfl,by simp only [go_sem,ya],?_⟩⟩;rw [xe (by omega)] at hs;simp only [bY] at hs;omega
def Lt (h:Has P L 290 GN) {s:List Nat} {v:Nat} (hl:s.length<=18) (hv:cV s 0=some v):aj P L 290 [.str s] (aa v):=by
 have key:=fk (P:=P) (L:=L) (live:=[0,3,4]) (a:=Kb)
  (I:=fun k st=>∃i a:Nat,st=⟨[(0,.str s),(3,aa a),(4,aa i)],[],0,0⟩/\i+k=s.length/\a<10^i/\cV (s.drop i) a=some v)
  (Q:=fun ex st=>∃tm ct,st=⟨tm,[],ct,0⟩/\ex= .exit 0/\af tm 3=aa v) ?_
 ·unfold aj;rw [aI h];simp only [go_sem,GN];generalize hq:D P L (.loop [0,3,4] Kb) _=q;obtain ⟨ex,st,rfl,tm,ct,rfl,rfl,h2⟩:=bD hq (key s.length) ⟨0,0,by simp only [go_sem,ya,aw]<;>rfl,by omega,by simp,hv⟩
  simp only [go_sem,aw,h2]
 ·rintro k st ⟨i,a,rfl,hk,ha,hs⟩;by_cases hi:i<s.length
  ·left
   obtain ⟨h1,h2,h3⟩:=aof hi hs;have hp:10^i<=10^17:=xh (by decide) (by omega);have hb:IntKind.wrap .i64 ((s[i]:Nat):Int)=((s[i]:Nat):Int):=wrap64 (by omega) (by omega)
   simp only [go_sem,ya,Kb,show (i:Int)<s.length by omega,rM hi,asw,hb,wrap64 (n:=10*(a:Int)) (by omega) (by omega),wrap64 (n:=10*(a:Int)+(s[i]:Nat)) (by omega) (by omega),wrap64 (n:=10*(a:Int)+(s[i]:Nat)-48) (by omega) (by omega)];refine ⟨_,k-1,rfl,by omega,i+1,10*a+(s[i]-48),?_,by omega,?_,h3⟩
   ·rw [wrap64 (by omega) (by omega),show 10*(a:Int)+(s[i]:Nat)-48=((10*a+(s[i]-48):Nat):Int) by omega];simp only [go_sem,ya,aw]<;>rfl
   ·rw [xi];omega
  ·right
   simp only [go_sem,ya,Kb,show ¬(i:Int)<s.length by omega];refine ⟨_,_,rfl,by simp,_,_,rfl,rfl,?_⟩;rw [xe (by omega)] at hs;simp only [cV,ye] at hs;subst hs;simp only [go_sem,ya]
def OA (a:Int):(if 0-a>a then 0-a else a)=(a.natAbs:Int):=by omega
def Oa (a b:Int):a.tdiv (vv a b:Nat)=dC a b:=yaj (tG a b)
def Ob (a b:Int):b.tdiv (vv a b:Nat)=dK a b:=yaj (tz a b)
def oT (n:Int):(if n<0 then [45] else [])++aD n.natAbs=aY n:=by
 split
 ·rename_i h;rw [nV h];rfl
 ·rename_i h;obtain ⟨m,rfl⟩:∃m:Nat,n=m:=⟨n.toNat,by omega⟩;rfl
def aqo {n:Int} (h:n.natAbs<18446744073709551616):(aY n).length<=21:=by
 rw [<-oT]
 have:=NF h
 grind
def asx {a b:Int} (hb:0<b):qS a b=(if 1<dK a b then (aY (dC a b)++[47])++aD (dK a b).natAbs else aY (dC a b)):=by
 have h:=Jj (a:=a) hb;unfold qS;by_cases h1:dK a b=1
 ·grind
 ·rw [yo h1,yA (by omega)];obtain ⟨m,hm⟩:∃m:Nat,dK a b=m:=⟨(dK a b).toNat,by omega⟩;rw [hm];rfl
def ay2 (h:Has P L 277 Ee) (V2:Has P L 291 Lk) (rU:Has P L 292 AN) {a b:Int} (ha: -4000000000000000000<=a/\a<=4000000000000000000) (hb:0<b/\b<=4000000000000000000):
  aj P L 277 [aa a,aa b] (.str (qS a b)):=by
 have hn:=abn a b;have hd:=abo a b;have hp:=Jj (a:=a) hb.1;have e1:=ay1 V2 (a:=a.natAbs) (b:=b.natAbs) (by omega) (by omega);have e2:=V1 rU (n:=(dC a b).natAbs) (by omega);have e3:=V1 rU (n:=(dK a b).natAbs) (by omega);have hg:=Oz (a:=a) hb.1;rw [show ((b.natAbs:Nat):Int)=b by omega,show wW a.natAbs b.natAbs=vv a b from rfl] at e1;rw [show (((dK a b).natAbs:Nat):Int)=dK a b by omega] at e3;have mP:=aqo (n:=dC a b) (by omega);have pJ:=NF (n:=(dC a b).natAbs) (by omega);have hl3:=NF (n:=(dK a b).natAbs) (by omega);have hT:=asx (a:=a) hb.1;have hS:=oT (dC a b);unfold aj at e1 e2 e3 ⊢;rw [aI h];by_cases h0:dC a b<0
 ·rw [yA h0] at hS;by_cases h1:1<dK a b
  ·rw [yA h1] at hT
   simp only [go_sem,ya,Ee,show ¬a< -4000000000000000000 by omega,show ¬4000000000000000000<a by omega,show ¬b< -4000000000000000000 by omega,show ¬4000000000000000000<b by omega,show ¬b<0 by omega,wrap64 (n:=0-a) (by omega) (by omega),Kk,Ji,OA,e1,hZ _ _ _ (show ((vv a b:Nat):Int)≠0 by omega),Oa,Ob,wrap64 (n:=dC a b) (by omega) (by omega),wrap64 (n:=dK a b) (by omega) (by omega),h0,wrap64 (n:=0-dC a b) (by omega) (by omega),e2,ia (a:=[45]) (b:=aD (dC a b).natAbs) (by simp;omega),hS,h1,ia (a:=aY (dC a b)) (b:=[47]) (by simp;omega),e3,ia (a:=aY (dC a b)++[47]) (b:=aD (dK a b).natAbs) (by simp;omega),hT]
  ·rw [yo h1] at hT
   simp only [go_sem,ya,Ee,show ¬a< -4000000000000000000 by omega,show ¬4000000000000000000<a by omega,show ¬b< -4000000000000000000 by omega,show ¬4000000000000000000<b by omega,show ¬b<0 by omega,wrap64 (n:=0-a) (by omega) (by omega),Kk,Ji,OA,e1,hZ _ _ _ (show ((vv a b:Nat):Int)≠0 by omega),Oa,Ob,wrap64 (n:=dC a b) (by omega) (by omega),wrap64 (n:=dK a b) (by omega) (by omega),h0,wrap64 (n:=0-dC a b) (by omega) (by omega),e2,ia (a:=[45]) (b:=aD (dC a b).natAbs) (by simp;omega),hS,h1,hT]
 ·rw [yo h0] at hS;by_cases h1:1<dK a b
  ·rw [yA h1] at hT
   simp only [go_sem,ya,Ee,show ¬a< -4000000000000000000 by omega,show ¬4000000000000000000<a by omega,show ¬b< -4000000000000000000 by omega,show ¬4000000000000000000<b by omega,show ¬b<0 by omega,wrap64 (n:=0-a) (by omega) (by omega),Kk,Ji,OA,e1,hZ _ _ _ (show ((vv a b:Nat):Int)≠0 by omega),Oa,Ob,wrap64 (n:=dC a b) (by omega) (by omega),wrap64 (n:=dK a b) (by omega) (by omega),h0,wrap64 (n:=0-dC a b) (by omega) (by omega),e2,ia (a:=[]) (b:=aD (dC a b).natAbs) (by simp;omega),hS,h1,ia (a:=aY (dC a b)) (b:=[47]) (by simp;omega),e3,ia (a:=aY (dC a b)++[47]) (b:=aD (dK a b).natAbs) (by simp;omega),hT]
  ·rw [yo h1] at hT
   simp only [go_sem,ya,Ee,show ¬a< -4000000000000000000 by omega,show ¬4000000000000000000<a by omega,show ¬b< -4000000000000000000 by omega,show ¬4000000000000000000<b by omega,show ¬b<0 by omega,wrap64 (n:=0-a) (by omega) (by omega),Kk,Ji,OA,e1,hZ _ _ _ (show ((vv a b:Nat):Int)≠0 by omega),Oa,Ob,wrap64 (n:=dC a b) (by omega) (by omega),wrap64 (n:=dK a b) (by omega) (by omega),h0,wrap64 (n:=0-dC a b) (by omega) (by omega),e2,ia (a:=[]) (b:=aD (dC a b).natAbs) (by simp;omega),hS,h1,hT]
end
end VE
