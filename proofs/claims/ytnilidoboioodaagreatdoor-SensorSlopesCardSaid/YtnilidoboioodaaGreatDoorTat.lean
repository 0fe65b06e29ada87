import Derived.ChangeSlices
import Derived.ChangeReads
import Derived.ChangeSame
import Derived.OpenShut
import Derived.Lib.AtoiErrMem
import Derived.Laws.Externs
import Derived.Attr
import Derived.Test.YtnilidoboioodaaGreatDoorTah
import Derived.Test.YtnilidoboioodaaGreatDoorTaf
import Derived.Test.YtnilidoboioodaaGreatDoorTaj
import Derived.Test.YtnilidoboioodaaGreatDoorTas
import Derived.Test.YtnilidoboioodaaGreatDoorTae
import Derived.Test.YtnilidoboioodaaGreatDoorTai
set_option linter.all false
set_option maxRecDepth 100000
open Array renaming getElem?_eq_some_iff→xg
open Bool renaming and_eq_true→yf,true_and→wB
open Go renaming Addr→vM,ChangeSpec→yaV,DataW→xr,Field→vd,IntKind→yV,MemPlace→xR,Program→yK,TypeId→yq,Value→yg,World→yh
open List renaming all_cons→uB,append_nil→wD,cons_append→xd,drop_drop→vh,drop_eq_getElem_cons→yP,drop_eq_nil_of_le→xa,eq_nil_of_length_eq_zero→yA,flatMap_cons→tM,getD_cons_succ→tC,getD_eq_getElem?_getD→y7,getElem?_cons_zero→wW,length→yaW,length_append→yU,length_cons→yH,length_map→xc,length_nil→yM,length_singleton→th,length_take→yQ,mapM_cons→vA,mapM_nil→uS,map_cons→yW,mem_append_left→vW,mem_append_right→wX,mem_flatMap→vL,range→wL,range'→xP,range'_succ→vt,range'_zero→tU,range_eq_range'→tp,replicate→yC,replicate_succ→wO,set_cons_succ→tG,take_append_drop→xI,take_of_length_le→yD,take_succ_eq_append_getElem→xB
open Nat renaming add_mul→xZ,add_sub_cancel→uM,add_zero→yX,beq→ym,beq_refl→wI,ble_eq_true_of_le→yu,blt→yF,eq_of_beq_eq_true→yi,eq_zero_or_pos→xj,le_div_iff_mul_le→tu,le_max_left→vn,le_max_right→wZ,le_of_lt→ug,le_refl→yv,lt_of_le_of_lt→xU,lt_of_mul_lt_mul_right→uO,min_eq_left→xO,mul_add→xt,mul_assoc→xf,mul_comm→xv,mul_le_mul_left→yO,mul_le_mul_right→yS,mul_pos→yaS,mul_zero→xz,pow_le_pow_right→xA,pow_succ→y9,zero_add→yj
open Option renaming bind_eq_bind→wR,bind_some→xN,map_some→wv,pure_def→wh
open Option.some renaming injEq→yb
open Prod.mk renaming injEq→yk
namespace VE
open Go (IntKind)
section
open Go
section
variable (P:yK)
def Bt (self:yq->Bool):List vd->Nat->Nat->Bool
 | [],o,n=>ym o n
 | f::r,o,n=>ym f.offset o&&(self f.type&&Bt self r (o+P.cellsOf f.type) n)
def flat:Nat->yq->Bool
 | 0,_=>false
 | n+1,t=>
  match P.underlying t with
  | some .bool | some (.int _) | some (.float _) | some .string=>ym (P.cellsOf t) 1
  | some (.slice e)=>ym (P.cellsOf t) 1&&(yF 0 (P.cellsOf e)&&flat n e)
  | some (.struct fs)=>Bt P (fun u=>flat n u) fs.toList 0 (P.cellsOf t)
  | some (.array k e)=>ym (P.cellsOf t) (k*P.cellsOf e)&&flat n e
  | _=>false
def cz {H:Type}:Nat->yq->xr H->List AV
 | 0,_,_=>[]
 | n+1,t,d=>
  match P.underlying t,d with
  | some .bool,.lit (.bool b)=>[.bool b]
  | some (.int k),.lit (.int _ m)=>[.int k m]
  | some (.float k),.lit (.float _ b)=>[.aD k b]
  | some .string,.lit (.string s)=>[.str (s.map UInt8.toNat)]
  | some (.slice _),.nil=>[.af]
  | some (.slice e),.slice ix spare=>[.aq spare.isEmpty ix.length (ix.flatMap fun x=>cz n e x)]
  | some (.struct fs),.agg parts=>(fs.toList.zip parts).flatMap fun x=>cz n x.1.type x.2
  | some (.array _ e),.agg parts=>parts.flatMap fun x=>cz n e x
  | _,_=>[]
end
section
variable {ab:Nat->Nat} {m:Mp} {S:Nat->Prop} {w:yh}
def Si:∀{a b:List AV} {cT o:Nat},bF ab m S w a cT o->bF ab m S w b cT (o+a.length)->bF ab m S w (a++b) cT o
 | [],b,cT,o,_,h=>by simpa using h
 | x::a,b,cT,o,h1,h2=>by
  exact ⟨h1.1,Si h1.2 (by rw [yH] at h2;rw [show o+1+a.length=o+(a.length+1) by omega];exact h2)⟩
def HL:∀{a b:List AV},aC a=true->aC b=true->aC (a++b)=true
 | [],_,_,h=>h
 | x::a,b,h1,h2=>by
  simp only [aC,xd,yf] at h1 ⊢;exact ⟨h1.1,HL h1.2 h2⟩
def Sj:∀{a:List AV} {us:List yg},au ab m S w a us->a.length=us.length
 | [],us,h=>by simp only [au] at h;subst h;rfl
 | x::a,us,h=>by
  obtain ⟨u,r,rfl,_,h2⟩:=h;simp [Sj h2]
end
section
variable {H:Type} {enc:yq×yg->H} {P:yK} {w:yh} {held:Bool} {ab:Nat->Nat} {m:Mp} {S:Nat->Prop}
def Uc {a:vM} {i:Nat} {u:yg} (h:w.cell? (a.add i)=some u):w.cell? ⟨a.block,a.off+i,none⟩=some u/\(i=0->a.spot=none):=by
 by_cases hi:i=0
 ·subst hi;have e:a.add 0=a:=by simp [Addr.add]
  rw [e] at h;have hs:a.spot=none:=by
   cases hq:a.spot with
   | none=>rfl
   | some k=>
    unfold World.cell? at h
    split at h
    ·simp [hq] at h
    all_goals simp_all
  obtain ⟨b,o,sp⟩:=a;simp only at hs;subst hs;exact ⟨by simpa using h,fun _=>rfl⟩
 ·have e:a.add i=⟨a.block,a.off+i,none⟩:=by simp [Addr.add,hi]
  rw [e] at h;exact ⟨h,fun h=>(hi h).elim⟩
def ab9 (a:vM) (i:Nat):(a.add i).block=a.block:=by unfold Addr.add;split<;>rfl
def af2 (a:vM) (i:Nat):(a.add i).off=a.off+i:=by unfold Addr.add;split<;>simp_all
def HZ {α β:Type} {f:α->Option β}:∀{l:List α} {r:List β},l.mapM f=some r->r.length=l.length
 | [],r,h=>by simp only [uS,wh,yb] at h;subst h;rfl
 | x::l,r,h=>by
  rw [vA] at h
  cases h1:f x with
  | none=>simp [h1] at h
  | some y=>
   cases h2:l.mapM f with
   | none=>simp [h1,h2] at h
   | some ys=>
    simp only [h1,h2,xN,wR,wh,yb] at h;subst h;simp [HZ h2]
def aeb {c:AV} {l:List AV} {b o:Nat} (h:bF ab m S w (c::l) b o):b<w.heap.size:=by
 obtain ⟨⟨u,h1,_⟩,_⟩:=h;unfold World.cell? at h1
 cases hq:w.heap[b]? with
 | none=>simp [hq] at h1
 | some o=>exact (xg.1 hq).1
def LQ {e:yq} {bc sz:Nat} {f:xr H->List AV} {a:vM} (dM:0<sz)
  (IH:∀(cs:List yg) (d:xr H) (ps:List xR),DataW.trod enc P w 0 (fun _=>true) held bc e cs=some (d,ps)->au ab m S w (f d) cs/\aC (f d)=true/\cs.length=sz):
  ∀(k j:Nat) (xs:List (xr H×List xR)),(xP j k).mapM (fun i=>(w.cells? 0 (a.add (i*sz)) sz).bind (DataW.trod enc P w 0 (fun _=>true) held bc e))=some xs->
   bF ab m S w ((xs.map (·.1)).flatMap f) a.block (a.off+j*sz)/\aC ((xs.map (·.1)).flatMap f)=true/\((xs.map (·.1)).flatMap f).length=k*sz/\xs.length=k/\(0<k->a.spot=none\/0<j)
 | 0,j,xs,h=>by
  simp only [tU,uS,wh,yb] at h;subst h;simp [bF,aC]
 | k+1,j,xs,h=>by
  rw [vt,vA] at h
  cases h1:(w.cells? 0 (a.add (j*sz)) sz) with
  | none=>simp [h1] at h
  | some us=>
   cases h2:DataW.trod enc P w 0 (fun _=>true) held bc e us with
   | none=>simp [h1,h2] at h
   | some x=>
    cases h3:(xP (j+1) k).mapM (fun i=>(w.cells? 0 (a.add (i*sz)) sz).bind (DataW.trod enc P w 0 (fun _=>true) held bc e)) with
    | none=>simp [h1,h2,h3] at h
    | some ys=>
     simp only [h1,h2,h3,xN,wR,wh,yb] at h;subst h;obtain ⟨d,ps⟩:=x;obtain ⟨g1,g2,g3⟩:=IH us d ps h2;obtain ⟨k1,k2,k3,k4,_⟩:=LQ dM IH k (j+1) ys h3;obtain ⟨_,c2,c3⟩:=World.cells?_some h1;have hl:(f d).length=sz:=by rw [Sj g1,g3]
     have hc:∀(i:Nat) (u:yg),us[i]? =some u->w.cell? ⟨a.block,a.off+j*sz+i,none⟩=some u:=by
      intro i u hi;have kV:i<sz:=by grind
      have h:=c3 i kV;rw [hi] at h
      have:=(Uc h).1
      rwa [ab9,af2] at this
     refine ⟨?_,?_,?_,by simp [k4],?_⟩
     ·simp only [yW,tM];refine Si (BA _ us _ g1 hc) ?_
      grind
     ·simp only [yW,tM];exact HL g2 k2
     ·grind
     ·intro _;rcases xj j with hj | hj
      ·left
       have h:=c3 0 dM;have hu:us[0]? =some us[0]:=by simp_all
       rw [hu] at h
       have:=(Uc h).2 rfl
       subst hj;simpa [Addr.add] using this
      ·grind
def Ro {bc N:Nat} {n:Nat} {cs:List yg} (hN:cs.length=N)
  (IH:∀(t:yq) (cs:List yg) (d:xr H) (ps:List xR),flat P n t=true->DataW.trod enc P w 0 (fun _=>true) held bc t cs=some (d,ps)->au ab m S w (cz P n t d) cs/\aC (cz P n t d)=true/\cs.length=P.cellsOf t):
  ∀(r:List vd) (o:Nat) (xs:List (xr H×List xR)),Bt P (fun u=>flat P n u) r o N=true->r.mapM (fun f=>DataW.trod enc P w 0 (fun _=>true) held bc f.type ((cs.drop f.offset).take (P.cellsOf f.type)))=some xs->
   au ab m S w ((r.zip (xs.map (·.1))).flatMap fun x=>cz P n x.1.type x.2) (cs.drop o)/\aC ((r.zip (xs.map (·.1))).flatMap fun x=>cz P n x.1.type x.2)=true
 | [],o,xs,hf,h=>by
  have:=yi hf
  rw [xa (by omega)];simp [au,aC]
 | f::r,o,xs,hf,h=>by
  simp only [Bt,yf] at hf;obtain ⟨e1,e2,e3⟩:=hf;have e1:=yi e1;rw [vA] at h
  cases h2:DataW.trod enc P w 0 (fun _=>true) held bc f.type ((cs.drop f.offset).take (P.cellsOf f.type)) with
  | none=>simp [h2] at h
  | some x=>
   cases h3:r.mapM (fun f=>DataW.trod enc P w 0 (fun _=>true) held bc f.type ((cs.drop f.offset).take (P.cellsOf f.type))) with
   | none=>simp [h2,h3] at h
   | some ys=>
    simp only [h2,h3,xN,wR,wh,yb] at h;subst h;obtain ⟨d,ps⟩:=x;obtain ⟨g1,g2,g3⟩:=IH f.type _ d ps e2 h2;obtain ⟨k1,k2⟩:=Ro hN IH r _ ys e3 h3;rw [e1] at g1;have e:cs.drop o=(cs.drop o).take (P.cellsOf f.type)++cs.drop (o+P.cellsOf f.type):=by rw [<-vh];exact (xI _ _).symm
    rw [e];exact ⟨jo g1 k1,HL g2 k2⟩
def Ud {bc sz:Nat} {e:yq} {f:xr H->List AV} {cs:List yg}
  (IH:∀(cs:List yg) (d:xr H) (ps:List xR),DataW.trod enc P w 0 (fun _=>true) held bc e cs=some (d,ps)->au ab m S w (f d) cs/\aC (f d)=true/\cs.length=sz):
  ∀(k j:Nat) (xs:List (xr H×List xR)),(xP j k).mapM (fun i=>DataW.trod enc P w 0 (fun _=>true) held bc e ((cs.drop (i*sz)).take sz))=some xs->cs.length=(j+k)*sz->
   au ab m S w ((xs.map (·.1)).flatMap f) (cs.drop (j*sz))/\aC ((xs.map (·.1)).flatMap f)=true
 | 0,j,xs,h,hl=>by
  simp only [tU,uS,wh,yb] at h;subst h;rw [xa (by rw [hl];simp)]
  simp [au,aC]
 | k+1,j,xs,h,hl=>by
  rw [vt,vA] at h
  cases h2:DataW.trod enc P w 0 (fun _=>true) held bc e ((cs.drop (j*sz)).take sz) with
  | none=>simp [h2] at h
  | some x=>
   cases h3:(xP (j+1) k).mapM (fun i=>DataW.trod enc P w 0 (fun _=>true) held bc e ((cs.drop (i*sz)).take sz)) with
   | none=>simp [h2,h3] at h
   | some ys=>
    simp only [h2,h3,xN,wR,wh,yb] at h;subst h;obtain ⟨d,ps⟩:=x;obtain ⟨g1,g2,g3⟩:=IH _ d ps h2;obtain ⟨k1,k2⟩:=Ud IH k (j+1) ys h3 (by rw [hl];congr 1;omega)
    have e:cs.drop (j*sz)=(cs.drop (j*sz)).take sz++cs.drop ((j+1)*sz):=by rw [xZ,Nat.one_mul,<-vh];exact (xI _ _).symm
    rw [e];exact ⟨jo g1 k1,HL g2 k2⟩
def S6 (hS:∀b,b<w.heap.size->S b):∀(n bc:Nat) (t:yq) (cs:List yg) (d:xr H) (ps:List xR),flat P n t=true->DataW.trod enc P w 0 (fun _=>true) held bc t cs=some (d,ps)->
  au ab m S w (cz P n t d) cs/\aC (cz P n t d)=true/\cs.length=P.cellsOf t
 | 0,bc,t,cs,d,ps,hf,h=>by simp [flat] at hf
 | n+1,0,t,cs,d,ps,hf,h=>by simp [DataW.trod] at h
 | n+1,bc+1,t,cs,d,ps,hf,h=>by
  have IH:=S6 hS n bc;unfold DataW.trod at h;simp only [flat] at hf
  split at h
  ·rename_i hu;simp only [hu] at hf;simp only [yb,yk] at h;obtain ⟨rfl,rfl⟩:=h;simp only [cz,hu];exact ⟨by simp [au,ae],by simp [aC,aX],by rw [yi hf];rfl⟩
  ·rename_i hu;simp only [hu] at hf
   split at h
   ·rename_i hk;simp only [yb,yk] at h;obtain ⟨rfl,rfl⟩:=h;simp only [cz,hu];refine ⟨?_,by simp [aC,aX],by rw [yi hf];rfl⟩
    rw [hk.1];simp [au,ae]
   ·cases h
  ·rename_i hu;simp only [hu] at hf
   split at h
   ·rename_i hk;simp only [yb,yk] at h;obtain ⟨rfl,rfl⟩:=h;simp only [cz,hu];refine ⟨?_,by simp [aC,aX],by rw [yi hf];rfl⟩
    rw [hk.1];simp [au,ae]
   ·cases h
  ·rename_i hu;simp only [hu] at hf
   split at h
   ·simp only [yb,yk] at h;obtain ⟨rfl,rfl⟩:=h;simp only [cz,hu];refine ⟨?_,by simp [aC,aX],by rw [yi hf];rfl⟩
    simp only [au,ae];exact ⟨_,_,rfl,⟨_,rfl,rfl⟩,rfl⟩
   ·cases h
  ·rename_i hu;simp [hu] at hf
  ·rename_i hu;simp [hu] at hf
  ·rename_i hu;simp only [hu,yf] at hf;simp only [yb,yk] at h;obtain ⟨rfl,rfl⟩:=h;simp only [cz,hu];exact ⟨by simp [au,ae],by simp [aC,aX],by rw [yi hf.1];rfl⟩
  ·rename_i e a len cap hu;simp only [hu,yf] at hf;obtain ⟨f1,f2,f3⟩:=hf;have dM:=my.1 f2;simp only at h
   split at h
   case isFalse=>cases h
   rename_i hc;simp only [xm] at h
   cases h1:(wL len).mapM fun i=>(w.cells? 0 (a.add (i*P.cellsOf e)) (P.cellsOf e)).bind (DataW.trod enc P w 0 (fun _=>true) held bc e) with
   | none=>rw [h1] at h;simp at h
   | some ix=>
    cases h2:(wL (cap-len)).mapM fun j=>(w.cells? 0 (a.add ((len+j)*P.cellsOf e)) (P.cellsOf e)).bind (DataW.trod enc P w 0 (fun _=>true) held bc e) with
    | none=>rw [h1] at h;simp [h2] at h
    | some rest=>
     rw [h1] at h;simp only [xN,h2,wv,yb,yk] at h;obtain ⟨rfl,rfl⟩:=h;have Y6:=fun cs d ps h=>IH e cs d ps f3 h
     rw [tp] at h1 h2;obtain ⟨k1,k2,k3,k4,k5⟩:=LQ (ab:=ab) (m:=m) (S:=S) dM Y6 len 0 ix h1;have hrl:rest.length=cap-len:=by rw [HZ h2];simp
     have gR:cap≠0->a.spot=none:=by
      intro N6;rcases xj len with h0 | h0
      ·subst h0;simp only [yj,Nat.sub_zero] at h2;obtain ⟨_,_,_,_,q5⟩:=LQ (ab:=ab) (m:=m) (S:=S) dM Y6 cap 0 rest h2;exact (q5 (by omega)).resolve_right (by omega)
      ·exact (k5 h0).resolve_right (by omega)
     simp only [cz,hu,xc];refine ⟨?_,by simp [aC,aX],by rw [yi f1];rfl⟩
     simp only [au];refine ⟨_,_,rfl,?_,rfl⟩;simp only [ae];by_cases N6:cap=0
     ·subst N6;have iT:len=0:=by omega
      subst iT;have he:ix=[]:=yA k4;subst he;exact .inr ⟨a,rfl,rfl,rfl⟩
     ·obtain ⟨b,o,sp⟩:=a;have gR:=gR N6;simp only at gR;subst gR;refine .inl ⟨b,o,cap,by rw [k4],by omega,fun hx=>?_,?_,k2,by simpa using k1⟩
      ·have:rest.length=0:=by simpa using hx
       omega
      ·generalize hg:((ix.map (·.1)).flatMap fun x=>cz P n e x)=l at k1
       cases l with
       | nil=>exact .inl rfl
       | cons c l=>exact .inr (hS b (aeb k1))
  ·rename_i oY x1 GV fs hu;simp only [hu] at hf
   split at h
   case isFalse=>cases h
   rename_i hlen
   cases h1:fs.toList.mapM fun f=>DataW.trod enc P w 0 (fun _=>true) held bc f.type ((oY.drop f.offset).take (P.cellsOf f.type)) with
   | none=>rw [h1] at h;simp at h
   | some xs=>
    rw [h1] at h;simp only [wv,yb,yk] at h;obtain ⟨rfl,rfl⟩:=h;obtain ⟨k1,k2⟩:=Ro hlen (fun t cs d ps hf h=>IH t cs d ps hf h) fs.toList 0 xs hf h1;simp only [cz,hu];exact ⟨by simpa using k1,k2,hlen⟩
  ·rename_i oY x1 GV k e hu;simp only [hu,yf] at hf;obtain ⟨f1,f2⟩:=hf;have f1:=yi f1
   split at h
   case isFalse=>cases h
   rename_i hlen
   cases h1:(wL k).mapM fun i=>DataW.trod enc P w 0 (fun _=>true) held bc e ((oY.drop (i*P.cellsOf e)).take (P.cellsOf e)) with
   | none=>rw [h1] at h;simp at h
   | some xs=>
    rw [h1] at h;simp only [wv,yb,yk] at h;obtain ⟨rfl,rfl⟩:=h;rw [tp] at h1;obtain ⟨k1,k2⟩:=Ud (ab:=ab) (m:=m) (S:=S) (fun cs d ps h=>IH e cs d ps f2 h) k 0 xs h1 (by rw [hlen,f1];simp)
    simp only [cz,hu];exact ⟨by simpa using k1,k2,hlen⟩
  all_goals first
   | (cases h;done)
   | (simp_all;done)
def jA (P:yK) (n:Nat) (t:yq) (d:xr H):AV:=
 match P.underlying t with
 | some (.struct _) | some (.array _ _)=> .agg (cz P n t d)
 | _=>(cz P n t d).headD .undef
def af3 (hS:∀b,b<w.heap.size->S b) {n base:Nat} {t:yq} {v:yg} {d:xr H} {ps:List xR} (hf:flat P n t=true) (h:DataW.Trod enc P w 0 (fun _=>true) held t v d ps)
  (hv:Value.okWide P w .any base t v):ae ab m S w (jA P n t d) v/\aX (jA P n t d)=true:=by
 obtain ⟨bc,h⟩:=h;obtain ⟨h1,h2,h3⟩:=S6 (ab:=ab) (m:=m) hS n bc t _ d ps hf h;have one:v.cells=#[v]->(∀fs,P.underlying t≠some (.struct fs))->(∀k e,P.underlying t≠some (.array k e))->ae ab m S w (jA P n t d) v/\aX (jA P n t d)=true:=by
  intro hc CK hna;have e:jA P n t d=(cz P n t d).headD .undef:=by
   unfold jA
   grind
  rw [e];rw [hc] at h1;generalize cz P n t d=l at h1 h2
  cases l with
  | nil=>simp [au] at h1
  | cons x l=>
   simp only [au] at h1;simp only [aC,yf] at h2
   grind
 cases n with
 | zero=>simp [flat] at hf
 | succ n=>
  unfold Value.okWide at hv;simp only [flat] at hf
  cases hu:P.underlying t with
  | none=>simp [hu] at hf
  | some ty=>
   rw [hu] at hv hf;cases ty<;>simp only [Bool.false_eq_true] at hf hv
   case struct fs=>
    obtain ⟨cs,rfl,_,_⟩:=hv;have e:jA P (n+1) t d= .agg (cz P (n+1) t d):=by simp only [jA,hu]
    rw [e];exact ⟨by simp only [ae];exact ⟨cs,rfl,h1⟩,by simpa only [aX] using h2⟩
   case array k e=>
    obtain ⟨cs,rfl,_,_⟩:=hv;have e:jA P (n+1) t d= .agg (cz P (n+1) t d):=by simp only [jA,hu]
    rw [e];exact ⟨by simp only [ae];exact ⟨cs,rfl,h1⟩,by simpa only [aX] using h2⟩
   all_goals
    refine one ?_ (by simp [hu]) (by simp [hu])
    cases v with
    | agg cs=>exfalso;simp only [Cell.okWide,Cell.ok,hu] at hv
    | _=>rfl
def pT (P:yK) (n:Nat):List yq->List (xr H)->List AV
 | t::ts,d::ds=>jA P n t d::pT P n ts ds
 | _,_=>[]
def S7 (hS:∀b,b<w.heap.size->S b) {n base:Nat}:∀{ts:List yq} {vs:List yg} {ds:List (xr H)} {ps:List xR},ts.all (flat P n)=true->DataW.TrodAll enc P w 0 (fun _=>true) held ts vs ds ps->
  (∀(j:Nat) t v,ts[j]? =some t->vs[j]? =some v->Value.okWide P w .any base t v)->au ab m S w (pT P n ts ds) vs/\aC (pT P n ts ds)=true
 | [],[],[],_,_,_,_=>by simp [pT,au,aC]
 | t::ts,v::vs,d::ds,ps,hf,h,hv=>by
  simp only [uB,yf] at hf;obtain ⟨p,q,h1,h2,_⟩:=h;obtain ⟨a1,a2⟩:=af3 (ab:=ab) (m:=m) hS hf.1 h1 (hv 0 t v rfl rfl);obtain ⟨b1,b2⟩:=S7 hS hf.2 h2 (fun j t v h1 h2=>hv (j+1) t v h1 h2);simp only [pT,au,aC,yf]
  grind
 | [],_::_,_,_,_,h,_=>by simp [DataW.TrodAll] at h
 | [],[],_::_,_,_,h,_=>by simp [DataW.TrodAll] at h
 | _::_,[],_,_,_,h,_=>by simp [DataW.TrodAll] at h
 | _::_,_::_,[],_,_,h,_=>by simp [DataW.TrodAll] at h
end
end
section
open Go
section
variable {H:Type} {enc:yq×yg->H} {P:yK} {w w':yh} {held:Bool} {sp:Nat->Bool}
def aa2 (hs:∀b,b<w.heap.size->w'.heap[b]? =w.heap[b]?) {a:vM} {u:yg} (h:w.cell? a=some u):w'.cell? a=some u:=by
 unfold World.cell? at h ⊢
 grind
def aav (hs:∀b,b<w.heap.size->w'.heap[b]? =w.heap[b]?) {base:Nat} {a:vM} {n:Nat} {us:List yg} (h:w.cells? base a n=some us):w'.cells? base a n=some us:=by
 unfold World.cells? at h ⊢
 split at h
 ·rename_i hb;rw [yT hb];exact mapM_carry h (fun x y _ _ hx=>aa2 hs hx)
 ·cases h
def af4 {a:vM} {n:Nat} (h:0<n):MemPlace.cell a.block (a.off+0)∈MemPlace.row a n:=by
 unfold MemPlace.row
 simp_all
def Rr (hs:∀b,b<w.heap.size->w'.heap[b]? =w.heap[b]?):∀(n bc:Nat) (t:yq) (cs:List yg) (d:xr H) (ps:List xR),flat P n t=true->DataW.trod enc P w 0 (fun _=>true) held bc t cs=some (d,ps)->
  (∀p,p∈ps->sp p.block=true)->DataW.trod enc P w' 0 sp held bc t cs=some (d,ps)
 | 0,bc,t,cs,d,ps,hf,h,hp=>by simp [flat] at hf
 | n+1,0,t,cs,d,ps,hf,h,hp=>by simp [DataW.trod] at h
 | n+1,bc+1,t,cs,d,ps,hf,h,hp=>by
  have IH:=Rr hs n bc;have elem:∀{e:yq} {a:vM} {y:xr H×List xR},flat P n e=true->(w.cells? 0 a (P.cellsOf e)).bind (DataW.trod enc P w 0 (fun _=>true) held bc e)=some y->(∀p,p∈y.2->sp p.block=true)->
    (w'.cells? 0 a (P.cellsOf e)).bind (DataW.trod enc P w' 0 sp held bc e)=some y:=by
   intro e a y he h hq
   cases h1:w.cells? 0 a (P.cellsOf e) with
   | none=>simp [h1] at h
   | some us=>
    rw [h1] at h;rw [aav hs h1]
    grind
  unfold DataW.trod at h ⊢;simp only [flat] at hf
  split at h
  ·grind
  ·grind
  ·grind
  ·grind
  ·grind
  ·grind
  ·grind
  ·rename_i e a len cap hu;simp only [hu,yf] at hf;obtain ⟨f1,f2,f3⟩:=hf;have dM:=my.1 f2;simp only at h ⊢
   split at h
   case isFalse=>cases h
   rename_i hc;rw [yT hc];simp only [xm] at h
   cases h1:(wL len).mapM fun i=>(w.cells? 0 (a.add (i*P.cellsOf e)) (P.cellsOf e)).bind (DataW.trod enc P w 0 (fun _=>true) held bc e) with
   | none=>rw [h1] at h;simp at h
   | some ix=>
    cases h2:(wL (cap-len)).mapM fun j=>(w.cells? 0 (a.add ((len+j)*P.cellsOf e)) (P.cellsOf e)).bind (DataW.trod enc P w 0 (fun _=>true) held bc e) with
    | none=>rw [h1] at h;simp [h2] at h
    | some rest=>
     rw [h1] at h;simp only [xN,h2,wv,yb,yk] at h;obtain ⟨rfl,rfl⟩:=h;have k1:((wL len).mapM fun i=>(w'.cells? 0 (a.add (i*P.cellsOf e)) (P.cellsOf e)).bind (DataW.trod enc P w' 0 sp held bc e))=some ix:=
      mapM_carry h1 (fun x y _ hy hx=>elem f3 hx (fun p hq=>hp p (wX _ (vL.2 ⟨y,vW _ hy,hq⟩))))
     have k2:((wL (cap-len)).mapM fun j=>(w'.cells? 0 (a.add ((len+j)*P.cellsOf e)) (P.cellsOf e)).bind (DataW.trod enc P w' 0 sp held bc e))=some rest:=
      mapM_carry h2 (fun x y _ hy hx=>elem f3 hx (fun p hq=>hp p (wX _ (vL.2 ⟨y,wX _ hy,hq⟩))))
     have hr:(if sp a.block=true then (wL (cap-len)).mapM fun j=>(w'.cells? 0 (a.add ((len+j)*P.cellsOf e)) (P.cellsOf e)).bind (DataW.trod enc P w' 0 sp held bc e) else some [])=some rest:=by
      by_cases gR:sp a.block=true
      ·rw [yT gR];exact k2
      ·rw [yE gR];have h0:¬0<(ix.length+rest.length)*P.cellsOf e:=fun h0=>gR (hp _ (vW _ (af4 h0)))
       have hz:ix.length+rest.length=0:=by
        rcases xj (ix.length+rest.length) with h | h
        ·exact h
        ·exact (h0 (yaS h dM)).elim
       have:rest=[]:=yA (by omega)
       rw [this]
     rw [k1];simp only [xN];rw [hr];rfl
  ·rename_i oY x1 GV fs hu;simp only [hu] at hf
   split at h
   case isFalse=>cases h
   rename_i hlen;rw [yT hlen]
   cases h1:fs.toList.mapM fun f=>DataW.trod enc P w 0 (fun _=>true) held bc f.type ((oY.drop f.offset).take (P.cellsOf f.type)) with
   | none=>rw [h1] at h;simp at h
   | some xs=>
    rw [h1] at h;simp only [wv,yb,yk] at h;obtain ⟨rfl,rfl⟩:=h;have Kn:∀(r:List vd) (o:Nat),Bt P (fun u=>flat P n u) r o (P.cellsOf t)=true->∀f,f∈r->flat P n f.type=true:=by
     intro r
     induction r with
     | nil=>intro o _ f hm;cases hm
     | cons g r ih=>
      intro o hq f hm;simp only [Bt,yf] at hq;rcases List.mem_cons.1 hm with rfl | hm
      ·exact hq.2.1
      ·exact ih _ hq.2.2 f hm
    have k1:(fs.toList.mapM fun f=>DataW.trod enc P w' 0 sp held bc f.type ((oY.drop f.offset).take (P.cellsOf f.type)))=some xs:=
     mapM_carry h1 (fun f y hm hy hx=>IH _ _ y.1 y.2 (Kn _ _ hf f hm) hx (fun p hq=>hp p (vL.2 ⟨y,hy,hq⟩)))
    rw [k1];rfl
  ·rename_i oY x1 GV k e hu;simp only [hu,yf] at hf
   split at h
   case isFalse=>cases h
   rename_i hlen;rw [yT hlen]
   cases h1:(wL k).mapM fun i=>DataW.trod enc P w 0 (fun _=>true) held bc e ((oY.drop (i*P.cellsOf e)).take (P.cellsOf e)) with
   | none=>rw [h1] at h;simp at h
   | some xs=>
    rw [h1] at h;simp only [wv,yb,yk] at h;obtain ⟨rfl,rfl⟩:=h;have k1:((wL k).mapM fun i=>DataW.trod enc P w' 0 sp held bc e ((oY.drop (i*P.cellsOf e)).take (P.cellsOf e)))=some xs:=
     mapM_carry h1 (fun i y _ hy hx=>IH _ _ y.1 y.2 hf.2 hx (fun p hq=>hp p (vL.2 ⟨y,hy,hq⟩)))
    rw [k1];rfl
  all_goals first
   | (cases h;done)
   | (simp_all;done)
def Qt (hs:∀b,b<w.heap.size->w'.heap[b]? =w.heap[b]?) {n:Nat}:∀{ts:List yq} {vs:List yg} {ds:List (xr H)} {ps:List xR},ts.all (flat P n)=true->DataW.TrodAll enc P w 0 (fun _=>true) held ts vs ds ps->
  (∀p,p∈ps->sp p.block=true)->DataW.TrodAll enc P w' 0 sp held ts vs ds ps
 | [],[],[],ps,_,h,_=>by simpa only [DataW.TrodAll] using h
 | t::ts,v::vs,d::ds,ps,hf,h,hp=>by
  simp only [uB,yf] at hf;obtain ⟨p,q,⟨bc,h1⟩,h2,rfl⟩:=h;exact ⟨p,q,⟨bc,Rr hs n bc t _ d p hf.1 h1 (fun x hx=>hp x (vW _ hx))⟩,Qt hs hf.2 h2 (fun x hx=>hp x (wX _ hx)),rfl⟩
 | [],_::_,_,_,_,h,_=>by simp [DataW.TrodAll] at h
 | [],[],_::_,_,_,h,_=>by simp [DataW.TrodAll] at h
 | _::_,[],_,_,_,h,_=>by simp [DataW.TrodAll] at h
 | _::_,_::_,[],_,_,h,_=>by simp [DataW.TrodAll] at h
end
end
section
open Go Go.ChangeShapes Go.WideShapes
section
variable {H:Type} {enc:yq×yg->H} {P:yK} {W W':yh}
def aca (hc:Calm W W') (may:xR->Prop):W.keptBut W' may:=by
 refine ⟨hc.os,hc.output,fun i hi=>?_⟩;rw [hc.same i hi]
 cases hq:W.heap[i]? with
 | none=>rfl
 | some o=>cases o<;>simp
def aaw (hc:Calm W W') {b off:Nat} (hb:b<W.heap.size):W'.frozen? ⟨b,off,none⟩=W.frozen? ⟨b,off,none⟩:=by
 unfold World.frozen?;rw [hc.same b hb]
def aec {fn:Func} {s:yaV} {apart fresh handsOn again:Bool} {args:Array yg} {ds gs:List (xr H)} {before:List xR} {n:Nat} {tb:yq}
  (hW:DataW.Whole enc P fn.params.toList s.vars apart W args.toList ds gs before) (hv:s.vars=[]) (Jf:fn.params.toList.all (flat P n)=true) (hc:Calm W W')
  (jn:s.fn H (ds++gs)={results:=[.lit (.bool true)],args:=ds}) (oI:fn.resultTypes=#[tb]) (iX:P.underlying tb=some .bool):
  s.post enc P fn apart fresh handsOn again W args (.bool true) W':=by
 have aO:=hW.lt;have hW0:=hW;obtain ⟨p,q,hA,hV,hpq,hz,hn⟩:=hW;rw [hv] at hV;have hq:gs=[]/\q=[]:=by
  cases gs with
  | nil=>exact ⟨rfl,by simpa only [DataW.TrodVars] using hV⟩
  | cons g gs=>simp [DataW.TrodVars] at hV
 obtain ⟨rfl,rfl⟩:=hq;have hbp:before=p:=by simp_all
 subst hbp;have dF:∀sp:Nat->Bool,(∀p∈before,sp p.block=true)->DataW.TrodAll enc P W' 0 sp true fn.params.toList args.toList ds before:=fun sp h=>Qt hc.same Jf hA h
 have VR:∀(b:Nat) (sp:Nat->Bool) (hd:Bool),DataW.TrodAll enc P W' b sp hd fn.resultTypes.toList ((Value.bool true).resultList fn.resultTypes.size) [.lit (.bool true)] []:=by
  intro b sp hd;rw [oI];refine ⟨[],[],⟨1,?_⟩,rfl,rfl⟩;simp [DataW.trod,iX,Value.cells]
 have hold:∀p∈before,(fun b=>decide (b<W.heap.size)) p.block=true:=fun p hp=>by simpa using aO p hp
 have VS:∀sp:Nat->Bool,DataW.TrodVars enc P W' sp s.vars ([]:List (xr H)) []:=fun sp=>by rw [hv];rfl
 refine ⟨ds,[],before,[],before,[],hW0,by rw [jn];exact VR _ _ _,by rw [jn];exact dF _ hold,by rw [jn];exact VS _,aca hc _,fun _=>?_⟩
 refine ⟨?_,[.lit (.bool true)]++ds,[],[]++before++[],⟨[]++before,[],trodAll_append (dF _ (fun _ _=>rfl)) (VR _ _ _),VS _,rfl,?_,?_⟩,?_⟩
 ·intro j t r h1 h2;rw [oI] at h1 h2
  cases j with
  | zero=>
   simp only [List.getElem?_toArray,wW,yb] at h1;simp only [Value.resultList,List.size_toArray,yH,yM,xm,yj,wW,yb] at h2;subst h1;subst h2;simp [Value.okWide,iX,Cell.okWide,Cell.ok]
  | succ j=>simp at h1
 ·intro b off hp;have hp:MemPlace.cell b off∈before:=by grind
  rw [aaw hc (b:=b) (aO _ hp)];exact hz b off hp
 ·grind
 ·grind
def acb {O:bh} {n k:Nat} {fn:Func} {s:yaV} {apart fresh handsOn again:Bool} {base:Nat} {args:Array yg} {ds gs:List (xr H)} {before:List xR} {tb:yq}
  (hp:dG O n (pT O.P k fn.params.toList ds) (.bool true)) (zh:O.w0=W) (jn:O.P.funcs[O.ab n]? =some fn) (hb:fn.body.isSome=true) (ph:fn.name≠ "runtime.NumGoroutine")
  (aI:∀(j:Nat) t v,fn.params[j]? =some t->args[j]? =some v->Value.okWide O.P W .any base t v)
  (hW:DataW.Whole enc O.P fn.params.toList s.vars apart W args.toList ds gs before) (hv:s.vars=[]) (Jf:fn.params.toList.all (flat O.P k)=true)
  (hfs:s.fn H (ds++gs)={results:=[.lit (.bool true)],args:=ds}) (oI:fn.resultTypes=#[tb]) (iX:O.P.underlying tb=some .bool):
  Calls O.P (O.ab n) args W fun e W'=>∃v,e= .returned v/\s.post enc O.P fn apart fresh handsOn again W args v W':=by
 have hA:=hW;obtain ⟨p,q,hA,_⟩:=hA;obtain ⟨h1,h2⟩:=S7 (ab:=O.ab) (m:=dS) (S:=fun b=>b<W.heap.size) (fun b hb=>hb) Jf hA (fun j t v a b=>aI j t v (by simpa using a) (by simpa using b));have hi:=hp W (fun b=>b<W.heap.size) args ⟨fun b _=>by rw [zh],by rw [zh];exact yv _⟩ (fun b hb=>hb) h1 h2
 have key:∀e W',SL O W (fun b=>b<W.heap.size) (.bool true) e W'->∃v,e= .returned v/\s.post enc O.P fn apart fresh handsOn again W args v W':=by
  rintro e W' ⟨u,S',rfl,hc,_,_,_,hr⟩;obtain ⟨_,_,hu,_⟩:=hr;subst hu;exact ⟨_,rfl,aec hW hv Jf hc hfs oI iX⟩
 rcases hi with ⟨_,hi⟩ | ⟨u,w',hi,_⟩
 ·exact callsIn_wide.1 (hi.mono key)
 ·rw [Ij jn hb ph] at hi;cases hi
end
end
namespace J1
open Go Go.Proofs
noncomputable def O (W:yh):bh:=⟨Tryz.prog,VE.aG,qj kW.ab,VE.prog,Jc kW.bJ kW.hd,W⟩
def Sk {w:yh} {k:Nat} {os:Array Go.Obj}:Calm w (Go.Sort.grow (w.drewN k) os):=D9 (Lib.below_grow w.heap.size w (yv _) k os)
def S8 {W w:yh} (h:Lib.TabIs Tryz.prog W "internal/strconv.uint64pow10" .u64 Lib.pow10Tab) (hg:sd (O W) w):Lib.TabIs Tryz.prog w "internal/strconv.uint64pow10" .u64 Lib.pow10Tab:=by
 unfold Lib.TabIs World.var? at h ⊢
 cases hn:Tryz.prog.globalNamed "internal/strconv.uint64pow10" with
 | none=>rw [hn] at h;exact h
 | some g=>
  rw [hn] at h;simp only [xN] at h ⊢;have hb:g<W.heap.size:=by
   cases hq:W.heap[g]? with
   | none=>rw [hq] at h;cases h
   | some o=>exact (xg.1 hq).1
  rw [hg.1 g hb];exact h
def amv:∀args w,(callFunc 141 args).run Tryz.prog w= .ok (.enter 141 args) w:=enters_of Tryz.func141 (by kernel_rfl) rfl
def amw:∀args w,(callFunc 207 args).run Tryz.prog w= .ok (.enter 207 args) w:=enters_of Tryz.func207 (by kernel_rfl) rfl
def amx:∀args w,(callFunc 242 args).run Tryz.prog w= .ok (.enter 242 args) w:=enters_of Tryz.func242 (by kernel_rfl) rfl
def amy:∀args w,(callFunc 244 args).run Tryz.prog w= .ok (.enter 244 args) w:=enters_of Tryz.func244 (by kernel_rfl) rfl
def amz:∀args w,(callFunc 245 args).run Tryz.prog w= .ok (.enter 245 args) w:=enters_of Tryz.func245 (by kernel_rfl) rfl
def amA:∀args w,(callFunc 229 args).run Tryz.prog w= .ok (.enter 229 args) w:=enters_of Tryz.func229 (by kernel_rfl) rfl
def amB:∀args w,(callFunc 213 args).run Tryz.prog w= .ok (.enter 213 args) w:=enters_of Tryz.func213 (by kernel_rfl) rfl
def amC:∀args w,(callFunc 214 args).run Tryz.prog w= .ok (.enter 214 args) w:=enters_of Tryz.func214 (by kernel_rfl) rfl
def amD:∀args w,(callFunc 215 args).run Tryz.prog w= .ok (.enter 215 args) w:=enters_of Tryz.func215 (by kernel_rfl) rfl
def amE:∀args w,(callFunc 267 args).run Tryz.prog w= .ok (.enter 267 args) w:=enters_of Tryz.func267 (by kernel_rfl) rfl
def amF:∀args w,(callFunc 283 args).run Tryz.prog w= .ok (.enter 283 args) w:=enters_of Tryz.func283 (by kernel_rfl) rfl
def amG:∀args w,(callFunc 293 args).run Tryz.prog w= .ok (.enter 293 args) w:=enters_of Tryz.func293 (by kernel_rfl) rfl
def af5 (b:Nat) (w:yh):(callFunc 297 #[.float .f64 b]).run Tryz.prog w= .ok (.value (.int .u64 b)) w:=by
 rw [run_callFunc_extern Tryz.func297 (by kernel_rfl) (by kernel_rfl) (by kernel_rfl) (e:=Extern.MathFloatBits.float64bits) (by kernel_rfl)];rfl
def aax (b:Nat) (w:yh):(callFunc 296 #[.int .u64 b]).run Tryz.prog w= .ok (.value (.float .f64 b)) w:=by
 rw [run_callFunc_extern Tryz.func296 (by kernel_rfl) (by kernel_rfl) (by kernel_rfl) (e:=Extern.MathFloatBits.float64frombits) (by kernel_rfl)];rfl
def alg (W:yh) (n:Nat) (sp:List AV->Option AV):Prop:=∀aj r,sp aj=some r->dG (O W) n aj r
section
variable {W:yh} {m:Int} (hm:W.cell? ⟨4,0,none⟩=some (.int .i64 m)) (ht:Lib.TabIs Tryz.prog W "internal/strconv.uint64pow10" .u64 Lib.pow10Tab)
include hm ht
theorem aiL:WH.jm (alg W):=
 (Tr.iw (ad3 (O:=O W) (f:=215) (by rfl) amD (fun s z w hl h=>(Tryz.strconv_Atoi s z hl h w).mono fun _ _ ⟨h1,t,h2⟩=>⟨h1,h2▸D9 (Lib.bytesWorld_below _ _ _)⟩))
  (Tr.iw (aa0 (O:=O W) (f:=245) (by rfl) amz Tryz.strings_Repeat)
  (Tr.iw (ad2 (O:=O W) (f:=242) (by rfl) amx (fun z w h0 h1 hg=>(Tryz.strconv_Itoa z h0 h1 w (S8 ht hg)).mono fun _ _ ⟨h1,k,os,h2⟩=>⟨h1,h2▸Sk⟩))
  (Tr.iw (ZU (O:=O W) (f:=207) (by rfl) amw Tryz.strings_CutPrefix)
  (Tr.iw (afN (O:=O W) (f:=141) (by rfl) amv (a:=⟨4,0,none⟩) (m:=m) hm (fun s sep w hs hc=>Tryz.strings_Cut s sep m w hs hc))
  Tr.gI Tr.gI) Tr.gI) (Tr.iw (ZS (O:=O W) (f:=244) (by rfl) amy (fun z w hz hg=>(Tryz.ZJ z hz w (S8 ht hg)).mono fun _ _ ⟨h1,k,os,h2⟩=>⟨h1,h2▸Sk⟩))
  Tr.gI Tr.gI)) (Tr.iw (ZV (O:=O W) (f:=213) (by rfl) amB Tryz.strings_HasPrefix)
  (Tr.iw (ab2 (O:=O W) (f:=229) (by rfl) amA (fun x y w hx hy=>Tryz.bits_Mul64 x y hx hy w))
  Tr.gI Tr.gI) (Tr.iw (ZR (O:=O W) (f:=214) (by rfl) amC Tryz.strings_TrimPrefix)
  Tr.gI Tr.gI))) (Tr.iw (ab5 (O:=O W) (f:=279) (by rfl) (fun x y b w h=>Tryz.bits_Sub64 x y b h w))
  (Tr.iw (ad4 (O:=O W) (f:=283) (by rfl) amF (fun x w h0 h1=>Tryz.bits_LeadingZeros64 x w h0 h1))
  (Tr.iw (ad1 (O:=O W) (f:=267) (by rfl) amE (fun s cs w hs gO ha=>Tryz.Z8 s cs w hs gO ha))
  Tr.gI Tr.gI) (Tr.iw (ab4 (O:=O W) (f:=277) (by rfl) (fun x y c w h=>Tryz.bits_Add64 x y c h w))
  Tr.gI Tr.gI)) (Tr.iw (aak (O:=O W) (f:=297) (by rfl) af5)
  (Tr.iw (ab3 (O:=O W) (f:=293) (by rfl) amG (fun x w h0 h1=>Tryz.bits_Len64 x w h0 h1))
  Tr.gI Tr.gI) (Tr.iw (ZO (O:=O W) (f:=296) (by rfl) aax)
  Tr.gI Tr.gI))))
theorem af6:fw (O W) where
 hint n f g h:=Tr.zL (p:=fun f g=>qj kW.ab g=f) (Lu kW.ah1) h
 mixed:=by kernel_rfl
 prog n F h:=Tr.zL kW.af1 h
 aG n sp aj r h hs:=Tr.zL (aiL hm ht) h aj r hs
 Cc n sp hp ct aj v an aT h:=by cases h
end
end J1
def bW:List Int->Int
 | []=>0
 | a::r=>if a=0 then bW r else a
def Lj {l:List Int} {i:Nat} (h:i<l.length):bW (l.drop i)=if l[i]=0 then bW (l.drop (i+1)) else l[i]:=by
 rw [yP h,bW]
def kO (lo hi:Int):List Int->Bool
 | []=>false
 | a::r=>if a<lo\/hi<a then true else kO lo hi r
def VT (n:Nat) (lo hi:Int):List (List Int)->Int
 | []=>0
 | r::s=>if r.length≠n then 2 else if kO lo hi r=true then 3 else VT n lo hi s
def acd (s:List (List Int)):Int:=if s.length=0 then 12 else if 16<s.length then 5 else VT s.length (-1000) 1000 s
def S9 {lo hi:Int} {l:List Int} (h:kO lo hi l=false):∀i (dJ:i<l.length),lo<=l[i]/\l[i]<=hi:=by
 induction l with
 | nil=>intro i dJ;exact absurd dJ (Nat.not_lt_zero _)
 | cons a r ih=>
  simp only [kO] at h
  grind
def ace {lo hi:Int} {l:List Int} (h:kO lo hi l=false):∀i,kO lo hi (l.take i)=false:=by
 induction l with
 | nil=>intro i;simp [kO]
 | cons a r ih=>
  intro i;simp only [kO] at h
  split at h
  ·grind
  ·rename_i hc
   cases i with
   | zero=>simp [kO]
   | succ i=>simp only [List.take_succ_cons,kO,hc,y8,ih h i]
def dv:List Int->Nat
 | []=>0
 | a::r=>a.toNat+1000000000*dv r
def kC:∀(a b:List Int),dv (a++b)=dv a+1000000000^a.length*dv b
 | [],b=>by simp [dv]
 | x::a,b=>by
  simp only [xd,dv,kC a b,yH,y9,xt]
  grind
def mz {l:List Int} (i:Nat):dv (l.take (i+1))=dv (l.take i)+1000000000^i*(l.getD i 0).toNat:=by
 by_cases h:i<l.length
 ·rw [xB h,kC,yQ,xO (by omega)];simp [dv,y7,List.getElem?_eq_getElem h]
 ·rw [yD (by omega),yD (by omega)]
  grind
abbrev dg (l:List Int):Prop:=kO 0 999999999 l=false
def fK {a b:List Int}:dg (a++b)↔dg a/\dg b:=by
 induction a with
 | nil=>simp [dg,kO]
 | cons x a ih=>
  simp only [dg,xd,kO] at ih ⊢
  grind
def jx {x:Int}:dg [x]↔0<=x/\x<1000000000:=by
 simp only [dg,kO]
 grind
def fN {l:List Int} (h:dg l) (i:Nat):0<=l.getD i 0/\l.getD i 0<1000000000:=by
 by_cases hi:i<l.length
 ·have:=S9 h i hi
  grind
 ·grind
def zS {l:List Int} (h:dg l) (i:Nat):dg (l.take i):=ace h i
def iy:∀{l:List Int},dg l->dv l<1000000000^l.length
 | [],_=>by simp [dv]
 | x::l,h=>by
  have h':dg ([x]++l):=h;obtain ⟨h1,h2⟩:=fK.1 h';have h1:=jx.1 h1
  have:=iy h2
  simp only [dv,yH,y9];omega
def dn:List Int->List Int
 | []=>[]
 | a::r=>match dn r with | []=>if a=0 then [] else [a] | t::q=>a::t::q
def Eb:∀l:List Int,dn (l++[0])=dn l
 | []=>rfl
 | a::l=>by simp only [xd,dn,Eb l]
def HM {a:Int} (h:a≠0):∀l:List Int,dn (l++[a])=l++[a]
 | []=>by simp [dn,h]
 | b::l=>by
  simp only [xd,dn,HM h l]
  cases hq:l++[a] with
  | nil=>simp at hq
  | cons t q=>rfl
def pH:∀l:List Int,dv (dn l)=dv l
 | []=>rfl
 | a::l=>by
  have ih:=pH l;simp only [dn,dv]
  split
  ·rename_i h;rw [h] at ih
   split
   ·rename_i h0;subst h0;simp [dv,<-ih]
   ·simp [dv,<-ih]
  ·rename_i t q h;rw [h] at ih;simp only [dv] at ih ⊢;omega
def rF:∀{l:List Int},dg l->dg (dn l)
 | [],_=>rfl
 | a::l,h=>by
  have h':dg ([a]++l):=h;obtain ⟨h1,h2⟩:=fK.1 h';have ih:=rF h2;simp only [dn]
  split
  ·grind
  ·rename_i t q hq;rw [hq] at ih
   exact (fK (a:=[a]) (b:=t::q)).2 ⟨h1,ih⟩
def H0:∀l:List Int,(dn l).length<=l.length
 | []=>yv _
 | a::l=>by
  have ih:=H0 l;simp only [dn]
  grind
def snoc {α:Type} (l:List α):l=[]\/∃m a,l=m++[a]:=by
 rcases List.eq_nil_or_concat l with h | ⟨m,a,h⟩
 ·grind
 ·grind
def aay:∀(n:Nat) (l:List Int),l.length=n->dn (dn l)=dn l:=by
 intro n
 induction n with
 | zero=>intro l h;rw [yA h];rfl
 | succ n ih=>
  intro l h;rcases snoc l with rfl | ⟨m,a,rfl⟩
  ·rfl
  ·by_cases h0:a=0
   ·subst h0;rw [Eb]
    grind
   ·rw [HM h0,HM h0]
def aa3 (l:List Int):dn (dn l)=dn l:=aay _ l rfl
abbrev nz (l:List Int):Prop:=dn l=l
def BG (l:List Int):nz (dn l):=aa3 l
def Jg {l:List Int} (h:nz l) (hd:dg l) (h0:l≠[]):1000000000^(l.length-1)<=dv l:=by
 rcases snoc l with rfl | ⟨m,a,rfl⟩
 ·grind
 ·by_cases ha:a=0
  ·subst ha
   have:=H0 m
   have e:=congrArg yaW h;rw [Eb] at e
   grind
  ·rw [kC]
   have:=jx.1 (fK.1 hd).2
   simp only [dv,yU,th,uM,xz,yX];have h1:1<=a.toNat:=by omega
   have:=yO (1000000000^m.length) h1
   omega
def Ue {l:List Int} (h:nz l) (hd:dg l) (h0:dv l=0):l=[]:=by
 by_cases hl:l=[]
 ·grind
 ·have:=Jg h hd hl
  grind
def MW {a b:List Int} (ha:dg a) (hb:nz b) (bK:dg b) (h:a.length<b.length):dv a<dv b:=by
 have h1:=iy ha;have h2:=Jg hb bK (fun e=>by subst e;simp at h);have h3:1000000000^a.length<=1000000000^(b.length-1):=xA (by decide) (by omega);omega
def df (m n:Nat):Int:=if m<n then -1 else if n<m then 1 else 0
def UK {l:List Int} {i:Nat} (h:i<l.length):dv l=dv (l.take i)+1000000000^i*(l[i].toNat+1000000000*dv (l.drop (i+1))):=by
 have e:l=l.take i++l[i]::l.drop (i+1):=by simp_all
 have:dv l=dv (l.take i++l[i]::l.drop (i+1)):=congrArg dv e
 rw [this,kC,yQ,xO (by omega)];rfl
def Uf {a b:List Int} {i:Nat} (ha:dg a) (hb:dg b) (h1:i<a.length) (h2:i<b.length) (he:a.drop (i+1)=b.drop (i+1)) (h:a[i]<b[i]):dv a<dv b:=by
 rw [UK h1,UK h2,he];have hl:=iy (zS ha i);have g1:=S9 ha i h1;have h3:a[i].toNat+1000000000*dv (b.drop (i+1))+1<=b[i].toNat+1000000000*dv (b.drop (i+1)):=by omega
 have:=yO (1000000000^i) h3
 grind
def MX:∀{l:List Int} {j:Nat} {x:Int},j<l.length->dv (l.set j x)+1000000000^j*(l.getD j 0).toNat=dv l+1000000000^j*x.toNat
 | [],j,x,h=>by simp at h
 | a::l,0,x,_=>by simp [dv];omega
 | a::l,j+1,x,h=>by
  have ih:=MX (l:=l) (j:=j) (x:=x) (by simpa using h);simp only [tG,dv,tC,y9]
  grind
def IY {l:List Int} (h:dg l) {j:Nat} {x:Int} (hx:0<=x/\x<1000000000):dg (l.set j x):=by
 by_cases hj:j<l.length
 ·rw [List.set_eq_take_append_cons_drop,yT hj];have e:l=l.take (j+1)++l.drop (j+1):=(xI _ _).symm;have hd:dg (l.drop (j+1)):=by rw [e] at h;exact (fK.1 h).2
  exact fK.2 ⟨zS h j,(fK (a:=[x]) (b:=l.drop (j+1))).2 ⟨jx.2 hx,hd⟩⟩
 ·rw [List.set_eq_of_length_le (by omega)];exact h
def Ta {l:List Int} {j m:Nat} {x:Int} (h:m≠j):(l.set j x).getD m 0=l.getD m 0:=by grind
def aed {V0 V V' p q A X Y o c s:Nat} (hs:s=o+A*X+c) (a6:V'+p*q*o=V+p*q*(s%1000000000)) (hv:V+p*q*c=V0+p*(A*Y)):
  V'+p*(q*1000000000)*(s/1000000000)=V0+p*(A*(Y+q*X)):=by
 have e:=Nat.mod_add_div s 1000000000;have e2:p*q*s=p*q*(s%1000000000)+p*(q*1000000000)*(s/1000000000):=by
  conv=>lhs;rw [<-e]
  rw [xt,<-xf (p*q),<-xf p q]
 have e3:p*q*s=p*q*o+p*q*(A*X)+p*q*c:=by rw [hs,xt,xt]
 have e4:p*(A*(Y+q*X))=p*(A*Y)+p*q*(A*X):=by
  rw [xt,xt,xf p q,<-xf A q X,xv A q,xf q A X]
 omega
def Tb (n:Nat):dv (yC n 0)=0:=by
 induction n with
 | zero=>rfl
 | succ n ih=>simp [wO,dv,ih]
def Tc (n:Nat):dg (yC n 0):=by
 induction n with
 | zero=>rfl
 | succ n ih=>exact (fK (a:=[0]) (b:=yC n 0)).2 ⟨by decide,ih⟩
def bv (b:Nat):List Nat->Nat
 | []=>0
 | a::r=>a+b*bv b r
def lo (b:Nat) (l:List Nat):Prop:=∀x,x∈l->x<b
section
variable {b:Nat}
def rX (a:Nat):bv b [a]=a:=by simp [bv]
def n9:∀(l m:List Nat),bv b (l++m)=bv b l+b^l.length*bv b m
 | [],m=>by simp [bv]
 | x::l,m=>by
  simp only [xd,bv,n9 l m,yH,y9,xt]
  grind
def gd {l:List Nat} {i:Nat} (h:i<l.length):l[i]=l.getD i 0:=by simp_all
def MY {l:List Nat} {i:Nat} (h:l.length<=i):l.getD i 0=0:=by simp_all
def gZ {l:List Nat} (i:Nat):bv b (l.take (i+1))=bv b (l.take i)+b^i*l.getD i 0:=by
 by_cases h:i<l.length
 ·rw [xB h,n9,yQ,xO (by omega),rX,gd h]
 ·rw [yD (by omega),yD (by omega),MY (by omega),xz,yX]
def IZ:lo b []:=fun _ h=>by simp at h
def H4 {l m:List Nat}:lo b (l++m)↔lo b l/\lo b m:=by
 constructor
 ·intro h;exact ⟨fun x hx=>h x (by simp [hx]),fun x hx=>h x (by simp [hx])⟩
 ·rintro ⟨h1,h2⟩ x hx;rcases List.mem_append.1 hx with h | h
  ·exact h1 x h
  ·exact h2 x h
def BX {x:Nat}:lo b [x]↔x<b:=by simp [lo]
def fy (hb:0<b) {l:List Nat} (h:lo b l) (i:Nat):l.getD i 0<b:=by
 by_cases hi:i<l.length
 ·rw [<-gd hi];exact h _ (List.getElem_mem hi)
 ·grind
def rN {l:List Nat} (h:lo b l) (i:Nat):lo b (l.take i):=fun x hx=>h x (List.mem_of_mem_take hx)
def Ug {l:List Nat} (h:lo b l) (i:Nat):lo b (l.drop i):=fun x hx=>h x (List.mem_of_mem_drop hx)
def jW {l:List Nat} (h:lo b l) {i x:Nat} (hx:x<b):lo b (l.set i x):=fun y hy=>by
 rcases List.mem_or_eq_of_mem_set hy with h1 | h1
 ·exact h y h1
 ·omega
def BY (hb:0<b) (n:Nat):lo b (yC n 0):=fun x hx=>by
 grind
def BZ (n:Nat):bv b (yC n 0)=0:=by
 induction n with
 | zero=>rfl
 | succ n ih=>simp [wO,bv,ih]
def zT (n m:Nat):(yC n (0:Nat)).getD m 0=0:=by grind
def jZ:∀{l:List Nat},lo b l->bv b l<b^l.length
 | [],_=>by simp [bv]
 | x::l,h=>by
  have h1:=h x (by simp);have h2:=jZ (l:=l) (fun y hy=>h y (by simp [hy]));simp only [bv,yH,y9,xv _ b]
  have:=yO b (show bv b l+1<=b^l.length from h2)
  grind
def lG:∀{l:List Nat} {i x:Nat},i<l.length->bv b (l.set i x)+b^i*l.getD i 0=bv b l+b^i*x
 | [],i,x,h=>by simp at h
 | a::l,0,x,_=>by simp [bv];omega
 | a::l,i+1,x,h=>by
  have ih:=lG (l:=l) (i:=i) (x:=x) (by simpa using h)
  have:=congrArg (fun t=>b*t) ih
  simp only [xt] at this;simp only [tG,bv,tC,y9,xv _ b,xf] at this ⊢;omega
def mA {l:List Nat} {i m x:Nat} (h:i≠m):(l.set i x).getD m 0=l.getD m 0:=by simp_all
def aa4 {l:List Nat} {i x:Nat} (h:i<l.length):(l.set i x).getD i 0=x:=by simp_all
def Er (l:List Nat) (i:Nat) (h:i<=l.length):bv b l=bv b (l.take i)+b^i*bv b (l.drop i):=by
 have:=n9 (b:=b) (l.take i) (l.drop i)
 simp_all
def dt:List Nat->List Nat
 | []=>[]
 | a::r=>match dt r with | []=>if a=0 then [] else [a] | t::q=>a::t::q
def HN:∀l:List Nat,dt (l++[0])=dt l
 | []=>rfl
 | a::l=>by simp only [xd,dt,HN l]
def Bu {a:Nat} (h:a≠0):∀l:List Nat,dt (l++[a])=l++[a]
 | []=>by simp [dt,h]
 | b::l=>by
  simp only [xd,dt,Bu h l]
  cases hq:l++[a] with
  | nil=>simp at hq
  | cons t q=>rfl
abbrev fo (l:List Nat):Prop:=dt l=l
def aa5:∀(n:Nat) (l:List Nat),l.length=n->∃i,i<=n/\dt l=l.take i/\fo (l.take i)/\bv b (l.take i)=bv b l:=by
 intro n
 induction n with
 | zero=>intro l h;rw [yA h];exact ⟨0,yv _,rfl,rfl,rfl⟩
 | succ n ih=>
  intro l h;rcases snoc l with rfl | ⟨m,a,rfl⟩
  ·grind
  ·have hm:m.length=n:=by simp_all
   by_cases h0:a=0
   ·subst h0;obtain ⟨i,h1,h2,h3,h4⟩:=ih m hm;have e:(m++[0]).take i=m.take i:=by grind
    refine ⟨i,by omega,by rw [HN,h2,e],by rw [e];exact h3,?_⟩
    rw [e,h4,n9];simp [bv]
   ·have e:(m++[a]).take (n+1)=m++[a]:=yD (by simp [hm]);exact ⟨n+1,yv _,by rw [e,Bu h0],by rw [e];exact Bu h0 m,by rw [e]⟩
def H5 (l:List Nat):∃i,i<=l.length/\dt l=l.take i/\fo (dt l)/\bv b (dt l)=bv b l:=by
 obtain ⟨i,h1,h2,h3,h4⟩:=aa5 (b:=b) l.length l rfl
 grind
def rG (l:List Nat):bv b (dt l)=bv b l:=by
 obtain ⟨_,_,_,_,h⟩:=H5 (b:=b) l;exact h
def rH (l:List Nat):fo (dt l):=by
 obtain ⟨_,_,_,h,_⟩:=H5 (b:=2) l;exact h
def rI {l:List Nat} (h:lo b l):lo b (dt l):=by
 obtain ⟨i,_,h2,_⟩:=H5 (b:=b) l;rw [h2];exact rN h i
def acf (l:List Nat):(dt l).length<=l.length:=by
 obtain ⟨i,_,h2,_⟩:=H5 (b:=2) l
 grind
def Ik {l:List Nat} (h:fo l) (h0:l≠[]):l.getD (l.length-1) 0≠0:=by
 rcases snoc l with rfl | ⟨m,a,rfl⟩
 ·grind
 ·intro ha
  have:a=0:=by
   grind
  subst this;have e:=congrArg yaW h;rw [HN] at e
  have:=acf m
  grind
def MZ (hb:0<b) {l:List Nat} (h:fo l) (h0:l≠[]):b^(l.length-1)<=bv b l:=by
 rcases snoc l with rfl | ⟨m,a,rfl⟩
 ·grind
 ·have ha:=Ik h h0;simp [y7] at ha;rw [n9,rX];simp only [yU,th,uM]
  have:=yO (b^m.length) (show 1<=a by omega)
  omega
def IE (hb:1<b) {l m:List Nat} (hl:lo b l) (hm:fo m) (h:l.length<m.length):bv b l<bv b m:=by
 have h1:=jZ hl;have h2:=MZ (b:=b) (by omega) hm (fun e=>by subst e;simp at h);have h3:b^l.length<=b^(m.length-1):=xA (by omega) (by omega);omega
def Uh {l m:List Nat} (hl:lo b l) {i:Nat} (h1:i<l.length) (h2:i<m.length) (he:l.drop (i+1)=m.drop (i+1)) (h:l.getD i 0<m.getD i 0):bv b l<bv b m:=by
 rw [Er l (i+1) (by omega),Er m (i+1) (by omega),he,gZ,gZ]
 have:=jZ (rN hl i)
 have:=yO (b^i) (show l.getD i 0+1<=m.getD i 0 from h)
 grind
def acg (hb:1<b) {l:List Nat} {k:Nat} (h:fo l) (hk:bv b l<b^k):l.length<=k:=by
 by_cases h0:l=[]
 ·grind
 ·have h1:=MZ (b:=b) (by omega) h h0;have h2:b^(l.length-1)<b^k:=xU h1 hk
  have:=(Nat.pow_lt_pow_iff_right hb).1 h2
  omega
def Ru {V v1 v2 vr U u0 u1 u2 ur p t r:Nat} (hV:V=(v1*b+v2)*p+vr) (hU:U=((u0*b+u1)*b+u2)*p+ur) (hur:ur<p)
  (ht:t*v1+r=u0*b+u1) (h:r*b+u2<t*v2):U/V<=t-1:=by
 have h1:U<t*V:=by
  have e:t*((v1*b+v2)*p)=((t*v1)*b+t*v2)*p:=by
   grind
  have h2:((u0*b+u1)*b+u2)+1<=(t*v1)*b+t*v2:=by rw [<-ht,xZ];omega
  have h3:=yS p h2;rw [hV,hU,xt,e]
  grind
 have nW:0<V:=by
  grind
 have:=(Nat.div_lt_iff_lt_mul nW).2 h1
 omega
def Sl {V v1 v2 vr U u0 u1 u2 ur p t r:Nat} (hb:0<b) (hV:V=(v1*b+v2)*p+vr) (GW:vr<p) (hU:U=((u0*b+u1)*b+u2)*p+ur) (dT:0<v1) (cZ:v2<b) (iX:t<b)
  (ht:t*v1+r=u0*b+u1) (h:b<=r\/t*v2<=r*b+u2):t<=U/V+1:=by
 have h2:t*v2<=r*b+u2:=by
  rcases h with h | h
  ·have:=Nat.mul_le_mul (ug iX) (ug cZ)
   have:=yS b h
   omega
  ·exact h
 have h3:t*(v1*b+v2)<=(u0*b+u1)*b+u2:=by
  rw [xt,<-xf,<-ht,xZ];omega
 have hp:0<p:=by omega
 have arx:b<=v1*b:=Nat.le_mul_of_pos_left b dT;have nW:0<V:=by
  have:=yaS (show 0<v1*b+v2 by omega) hp
  omega
 rcases xj t with h0 | h0
 ·grind
 ·obtain ⟨s,rfl⟩:∃s,t=s+1:=⟨t-1,by omega⟩;have h4:s*V<=U:=by
   have h5:V<=(v1*b+v2+1)*p:=by grind
   have h6:=yO s h5;have h7:s*(v1*b+v2+1)<=(s+1)*(v1*b+v2):=by
    grind
   have h8:=yS p (Nat.le_trans h7 h3)
   grind
  exact Nat.succ_le_succ ((tu nW).2 h4)
def Lk {V v1 v2 vr U u0 u1 u2 ur p:Nat} (hV:V=(v1*b+v2)*p+vr) (hU:U=((u0*b+u1)*b+u2)*p+ur) (hur:ur<p) (qY:u2<b) (dT:0<v1):U/V<=(u0*b+u1)/v1:=by
 by_cases nW:V=0
 ·grind
 ·refine (tu dT).2 ?_;have h1:=Nat.div_mul_le_self U V;generalize U/V=q at h1 ⊢;have h2:q*v1*(b*p)<=q*V:=by
   rw [hV,xf]
   grind
  have h3:U<(u0*b+u1+1)*(b*p):=by
   have:(u0*b+u1)*b+u2+1<=(u0*b+u1+1)*b:=by grind
   have:=yS p this
   grind
  have h4:q*v1*(b*p)<(u0*b+u1+1)*(b*p):=by omega
  have:=uO h4
  omega
def Sm {V v1 v2 vr U u0 u1 u2 ur p:Nat} (hV:V=(v1*b+v2)*p+vr) (hU:U=((u0*b+u1)*b+u2)*p+ur) (GW:vr<p) (cZ:v2<b) (h:U<b*V):u0<=v1:=by
 refine Nat.le_of_lt_succ ?_;have h1:V<(v1+1)*(b*p):=by
  have:v1*b+v2+1<=(v1+1)*b:=by grind
  have:=yS p this
  grind
 have h2:u0*(b*(b*p))<=U:=by
  grind
 have h3:=yO b (ug h1);have e:b*((v1+1)*(b*p))=(v1+1)*(b*(b*p)):=by grind
 rw [e] at h3;have h4:u0*(b*(b*p))<(v1+1)*(b*(b*p)):=xU h2 (Nat.lt_of_lt_of_le h h3);exact uO h4
end
section
variable {P:aR} {L:Lib} {f:bZ} {F:Nat->bZ}
def zi (f:bZ) (F:Nat->bZ):Prop:=∀c s r,f c s=some r->∃n,F n c s=some r
def Mon (F:Nat->bZ):Prop:=∀n m,n<=m->Le (F n) (F m)
def Hv (h:zi f F) (n:Nat) (aj:List AV) (r:AV) (hr:bA P L f n aj=some r):∃k,bA P L (F k) n aj=some r:=by
 unfold bA at hr ⊢
 cases hL:L.pure n with
 | some sp=>exact ⟨0,by simpa only [hL] using hr⟩
 | none=>
  simp only [hL] at hr ⊢
  cases hP:P n with
  | none=>simp [hP] at hr
  | some G=>
   simp only [hP] at hr ⊢
   cases hf:f G.body ⟨eE 0 aj,[],0,0⟩ with
   | none=>simp [hf] at hr
   | some q=>
    obtain ⟨k,hk⟩:=h _ _ _ hf
    grind
def Lv (h:zi f F) (hp:Hp) (ct:Nat) (n:Nat) (aj:List AV) (r:AV×Hp×Nat) (hr:gD P L f hp ct n aj=some r):∃k,gD P L (F k) hp ct n aj=some r:=by
 unfold gD at hr ⊢
 cases hL:L.heap n with
 | some sp=>exact ⟨0,by simpa only [hL] using hr⟩
 | none=>
  simp only [hL] at hr ⊢
  cases hP:P n with
  | none=>simp [hP] at hr
  | some G=>
   simp only [hP] at hr ⊢
   cases hf:f G.body ⟨eE 0 aj,hp,ct,ct⟩ with
   | none=>simp [hf] at hr
   | some q=>
    obtain ⟨k,hk⟩:=h _ _ _ hf
    grind
def QS (h:zi f F) (hm:Mon F) (hp:Hp) (ct:Nat) (l:Nat) (xs:List AV) (r:AV×Hp×Nat) (hr:lA f hp ct l xs=some r):∃k,lA (F k) hp ct l xs=some r:=by
 have key:∃k,∀g,Le (F k) g->lA g hp ct l xs=some r:=by
  unfold lA at hr
  cases hl:ap hp l with
  | none=>simp [hl] at hr
  | some o=>
   split at hr
   ·rename_i tm ps cf body pe iE
    cases hb:oe tm ps xs with
    | none=>simp [hb] at hr
    | some bS=>
     simp only [hb] at hr
     cases h1:f cf ⟨bS,hp,ct,ct⟩ with
     | none=>simp [h1] at hr
     | some q=>
      obtain ⟨k1,kU⟩:=h _ _ _ h1
      split at hr
      ·rename_i s1 amt
       split at hr
       ·rename_i iA AT AU Ao qK amu
        cases h2:f body ⟨s1.tm,a6 s1.hp l (.lp iA AT AU Ao 1 qK),s1.ct,s1.ct⟩ with
        | none=>simp [h2] at hr
        | some q2=>
         obtain ⟨k2,qR⟩:=h _ _ _ h2;refine ⟨max k1 k2,fun g hg=>?_⟩;have e1:=hg _ _ _ (hm k1 _ (vn k1 k2) _ _ _ kU);have e2:=hg _ _ _ (hm k2 _ (wZ k1 k2) _ _ _ qR);unfold lA
         grind
       ·simp at hr
      ·simp at hr
   ·simp at hr
 obtain ⟨k,hk⟩:=key;exact ⟨k,hk _ (fun _ _ _ h=>h)⟩
def Rv (h:zi f F) (hm:Mon F) (hp:Hp) (ct:Nat) (m:Md) (fv:AV) (xs:List AV) (r:AV×Hp×Nat) (hr:dO P L f hp ct m fv xs=some r):∃k,dO P L (F k) hp ct m fv xs=some r:=by
 unfold dO at hr ⊢
 split at hr
 ·rename_i n first cap
  cases m with
  | pure=>
   cases hz:cm deep hp (first++(xs++cap)) with
   | none=>simp [hz] at hr
   | some q=>
    simp only [hz] at hr ⊢
    cases hc:bA P L f n q.1 with
    | none=>simp [hc] at hr
    | some u=>
     obtain ⟨k,hk⟩:=Hv h n q.1 u hc
     grind
  | own=>
   cases hz:cm deep hp (first++(xs++cap)) with
   | none=>simp [hz] at hr
   | some q=>
    simp only [hz] at hr ⊢
    cases hc:bA P L f n q.1 with
    | none=>simp [hc] at hr
    | some u=>
     obtain ⟨k,hk⟩:=Hv h n q.1 u hc
     grind
  | heap=>exact Lv h _ _ _ _ _ hr
  | dyn=>
   cases hz:aC (first++(xs++cap)) with
   | true=>
    simp only [hz,yp] at hr ⊢
    cases hc:bA P L f n (first++(xs++cap)) with
    | none=>simp [hc] at hr
    | some u=>
     obtain ⟨k,hk⟩:=Hv h n _ u hc
     grind
   | false=>
    simp only [hz,yI] at hr ⊢;exact Lv h _ _ _ _ _ hr
 ·split at hr
  ·exact QS h hm _ _ _ _ _ hr
  ·exact QS h hm _ _ _ _ _ hr
  ·simp at hr
 ·simp at hr
def aee (h:zi f F) (hm:Mon F) (tm:Env) (hp:Hp) (ct:Nat) (o:Op) (r:AV×Hp×Nat) (hr:aW P L f tm hp ct o=some r):∃k,aW P L (F k) tm hp ct o=some r:=by
 unfold aW at hr ⊢
 split at hr
 ·exact Rv h hm _ _ _ _ _ _ hr
 ·rename_i rs fv xs
  cases hc:dO P L f hp ct .dyn (ao tm fv) (cX tm xs) with
  | none=>simp [hc] at hr
  | some q=>
   obtain ⟨k,hk⟩:=Rv h hm _ _ _ _ _ _ hc
   grind
 all_goals exact ⟨0,by simpa only using hr⟩
def LR (h:zi f F) (hm:Mon F):∀(ops:List aM) (s s':St),cI P L f ops s=some s'->∃k,cI P L (F k) ops s=some s'
 | [],s,s',hr=>⟨0,by simpa only [cI] using hr⟩
 | ⟨d,gd,o⟩::r,s,s',hr=>by
  simp only [cI] at hr ⊢
  split at hr
  ·rename_i hw
   cases ho:aW P L f s.tm s.hp s.ct o with
   | none=>simp [ho] at hr
   | some q=>
    obtain ⟨k1,kU⟩:=aee h hm _ _ _ _ _ ho;simp only [ho] at hr;obtain ⟨k2,qR⟩:=LR h hm r _ _ hr;refine ⟨max k1 k2,?_⟩;rw [Se (hm k1 _ (vn k1 k2)) _ _ _ _ _ kU];exact HI (hm k2 _ (wZ k1 k2)) r _ _ qR
  ·rename_i hw;exact LR h hm r _ _ hr
  ·simp at hr
def zK (h:zi f F) (hm:Mon F):∀(c:VC) (s:St) (r:Ex×St),bk P L f c s=some r->∃k,bk P L (F k) c s=some r
 | .skip,s,r,hr=>⟨0,by simpa only [bk] using hr⟩
 | .jM ops,s,r,hr=>by
  simp only [bk] at hr ⊢
  cases ho:cI P L f ops s with
  | none=>simp [ho] at hr
  | some s'=>
   obtain ⟨k,hk⟩:=LR h hm _ _ _ ho
   grind
 | .seq a b,s,r,hr=>by
  simp only [bk] at hr ⊢
  cases ha:bk P L f a s with
  | none=>simp [ha] at hr
  | some q=>
   obtain ⟨k1,kU⟩:=zK h hm a s q ha;obtain ⟨ex,s1⟩:=q
   cases ex with
   | normal=>
    simp only [ha] at hr;obtain ⟨k2,qR⟩:=zK h hm b s1 r hr;refine ⟨max k1 k2,?_⟩;rw [nm (hm k1 _ (vn k1 k2)) a s _ kU];exact nm (hm k2 _ (wZ k1 k2)) b s1 r qR
   | ret=>exact ⟨k1,by rw [kU];simpa only [ha] using hr⟩
   | exit id=>exact ⟨k1,by rw [kU];simpa only [ha] using hr⟩
 | .cond x a b,s,r,hr=>by
  simp only [bk] at hr ⊢
  split at hr
  ·rename_i t ht
   cases t with
   | true=>simp only [yp] at hr ⊢;exact zK h hm a s r hr
   | false=>simp only [yI] at hr ⊢;exact zK h hm b s r hr
  ·simp at hr
 | .cT id a,s,r,hr=>by
  simp only [bk] at hr ⊢
  cases ha:bk P L f a s with
  | none=>simp [ha] at hr
  | some q=>
   obtain ⟨k,hk⟩:=zK h hm a s q ha
   grind
 | .kp live,s,r,hr=>⟨0,by simpa only [bk] using hr⟩
 | .fz ts,s,r,hr=>⟨0,by simpa only [bk] using hr⟩
 | .loop live a,s,r,hr=>by
  simp only [bk] at hr ⊢
  cases ha:bk P L f a (aV live s) with
  | none=>simp [ha] at hr
  | some q=>
   obtain ⟨k1,kU⟩:=zK h hm a _ q ha;obtain ⟨ex,s1⟩:=q
   cases ex with
   | normal=>
    simp only [ha] at hr;obtain ⟨k2,qR⟩:=h _ _ _ hr;refine ⟨max k1 k2,?_⟩;rw [nm (hm k1 _ (vn k1 k2)) a _ _ kU];exact hm k2 _ (wZ k1 k2) _ _ _ qR
   | ret=>exact ⟨k1,by rw [kU];simpa only [ha] using hr⟩
   | exit id=>exact ⟨k1,by rw [kU];simpa only [ha] using hr⟩
 | .rf fv ps cf body,s,r,hr=>by
  simp only [bk] at hr ⊢
  split at hr
  ·rename_i n first cap hx
   split at hr
   ·grind
   ·rename_i hL
    cases hc:gD P L f ((s.ct,.lp s.tm ps cf body 0 .none)::s.hp) (s.ct+1) n (first++(.fn (.y s.ct) [] []::cap)) with
    | none=>simp [hc] at hr
    | some q=>
     obtain ⟨k,hk⟩:=Lv h _ _ _ _ _ hc
     grind
  ·simp at hr
 | .exit id,s,r,hr=>⟨0,by simpa only [bk] using hr⟩
 | .ret,s,r,hr=>⟨0,by simpa only [bk] using hr⟩
end
section
variable (P:aR) (L:Lib)
noncomputable def D:bZ:=fun c s=>@dite _ (∃r n,ev P L n c s=some r) (Classical.propDecidable _) (fun h=>some h.choose) (fun _=>none)
variable {P L}
def WJ {c:VC} {s:St} {r:Ex×St} {n:Nat} (h:ev P L n c s=some r):D P L c s=some r:=by
 have hx:∃r n,ev P L n c s=some r:=⟨r,n,h⟩;unfold D;obtain ⟨m,hm⟩:=hx.choose_spec;have e1:=Mz P L (vn n m) _ _ _ h;have e2:=Mz P L (wZ n m) _ _ _ hm
 grind
def N7 {c:VC} {s:St} {r:Ex×St} (h:D P L c s=some r):∃n,ev P L n c s=some r:=by
 unfold D at h;by_cases hx:∃r n,ev P L n c s=some r
 ·grind
 ·grind
def amH (n:Nat):Le (ev P L n) (D P L):=fun _ _ _ h=>WJ h
def VU:zi (D P L) (ev P L):=fun _ _ _ h=>N7 h
def aiM:Mon (ev P L):=fun _ _ h=>Mz P L h
def jJ (c:VC) (s:St):D P L c s=bk P L (D P L) c s:=by
 cases h:D P L c s with
 | some r=>
  obtain ⟨n,hn⟩:=N7 h
  cases n with
  | zero=>rw [EC] at hn;cases hn
  | succ n=>rw [ID] at hn;exact (nm (amH n) c s r hn).symm
 | none=>
  cases hs:bk P L (D P L) c s with
  | none=>rfl
  | some r=>
   obtain ⟨n,hn⟩:=zK VU aiM c s r hs;rw [<-ID] at hn;rw [WJ hn] at h;cases h
def UL {f:Nat} {aj:List AV} {r:AV} (h:bA P L (D P L) f aj=some r):∃n,OU P L n f aj=some r:=Hv VU f aj r h
end
section
open Go (IntKind BinOp UnOp)
section
variable {P:aR} {L:Lib}
structure Has (P:aR) (L:Lib) (n:Nat) (F:aF):Prop where
 pure:L.pure n=none
 heap:L.heap n=none
 code:P n=some F
noncomputable def mJ (P:aR) (L:Lib) (r:Option (Ex×St)) (b:VC):Option (Ex×St):=match r with | some (.normal,s)=>D P L b s | r=>r
def pW (id:Nat) (r:Option (Ex×St)):Option (Ex×St):=match r with | some (.exit j,s)=>bif ym j id then some (.normal,s) else some (.exit j,s) | r=>r
noncomputable def Fv (P:aR) (L:Lib) (live:List Nat) (a:VC) (r:Option (Ex×St)):Option (Ex×St):=match r with | some (.normal,s)=>D P L (.loop live a) s | r=>r
def norm (r:Option St):Option (Ex×St):=match r with | some s=>some (.normal,s) | none=>none
noncomputable def Jh (P:aR) (L:Lib) (v:AV) (a b:VC) (s:St):Option (Ex×St):=match v with | .bool t=>bif t then D P L a s else D P L b s | _=>none
def aiN (s:St):D P L .skip s=some (.normal,s):=by rw [jJ];rfl
def aiO (id:Nat) (s:St):D P L (.exit id) s=some (.exit id,s):=by rw [jJ];rfl
def alh (s:St):D P L .ret s=some (.ret,s):=by rw [jJ];rfl
def WK (live:List Nat) (s:St):D P L (.kp live) s=some (.normal,aV live s):=by rw [jJ];rfl
def amI (ts:List Nat) (s:St):D P L (.fz ts) s=norm (mG ts s):=by rw [jJ];rfl
def ali (ops:List aM) (s:St):D P L (.jM ops) s=norm (cI P L (D P L) ops s):=by rw [jJ];rfl
def j0 (a b:VC) (s:St):D P L (.seq a b) s=mJ P L (D P L a s) b:=by
 rw [jJ,jJ a];simp only [bk,mJ]
 cases bk P L (D P L) a s with
 | none=>rfl
 | some q=>
  obtain ⟨e,s1⟩:=q
  cases e with
  | normal=>exact (jJ b s1).symm
  | ret=>rfl
  | exit id=>rfl
def aiP (x:X) (a b:VC) (s:St):D P L (.cond x a b) s=Jh P L (ao s.tm x) a b s:=by
 rw [jJ];simp only [bk,Jh]
 cases ao s.tm x with
 | bool t=>
  cases t with
  | true=>exact (jJ a s).symm
  | false=>exact (jJ b s).symm
 | _=>rfl
def alj (id:Nat) (a:VC) (s:St):D P L (.cT id a) s=pW id (D P L a s):=by
 rw [jJ,jJ a];simp only [bk,pW]
 cases bk P L (D P L) a s with
 | none=>rfl
 | some q=>obtain ⟨e,s1⟩:=q;cases e<;>rfl
def I0 (live:List Nat) (a:VC) (s:St):D P L (.loop live a) s=Fv P L live a (D P L a (aV live s)):=by
 rw [jJ,jJ a];simp only [bk,Fv]
 cases bk P L (D P L) a (aV live s) with
 | none=>rfl
 | some q=>obtain ⟨e,s1⟩:=q;cases e<;>rfl
def fL (s:St) (b:VC):mJ P L (some (.normal,s)) b=D P L b s:=rfl
def af7 (s:St) (b:VC):mJ P L (some (.ret,s)) b=some (.ret,s):=rfl
def af8 (id:Nat) (s:St) (b:VC):mJ P L (some (.exit id,s)) b=some (.exit id,s):=rfl
def Ui (live:List Nat) (a:VC) (s:St):Fv P L live a (some (.normal,s))=D P L (.loop live a) s:=rfl
def af9 (live:List Nat) (a:VC) (s:St):Fv P L live a (some (.ret,s))=some (.ret,s):=rfl
def aga (live:List Nat) (a:VC) (id:Nat) (s:St):Fv P L live a (some (.exit id,s))=some (.exit id,s):=rfl
def agb (id:Nat) (s:St):pW id (some (.normal,s))=some (.normal,s):=rfl
def agc (id:Nat) (s:St):pW id (some (.ret,s))=some (.ret,s):=rfl
def Uj (id:Nat) (s:St):pW id (some (.exit id,s))=some (.normal,s):=by simp only [pW,wI,yp]
def agd {id j:Nat} (s:St) (h:j≠id):pW id (some (.exit j,s))=some (.exit j,s):=by
 have:ym j id=false:=by
  cases hq:ym j id with
  | false=>rfl
  | true=>exact absurd (yi hq) h
 simp only [pW,this,yI]
def aiQ (s:St):norm (some s)=some (.normal,s):=rfl
def aiR:norm none=none:=rfl
def age (a b:VC) (s:St):Jh P L (.bool true) a b s=D P L a s:=rfl
def agf (a b:VC) (s:St):Jh P L (.bool false) a b s=D P L b s:=rfl
noncomputable def Ns (P:aR) (L:Lib) (d:Option Nat) (r:List aM) (tm:Env) (base:Nat) (q:fj):Option St:=
 match q with | some (v,hp,ct)=>cI P L (D P L) r ⟨put d v tm,hp,ct,base⟩ | none=>none
noncomputable def Af (P:aR) (L:Lib) (v:AV) (b:Bool) (d:Option Nat) (o:Op) (r:List aM) (s:St):Option St:=
 match v with
 | .bool c=>bif c==b then cI P L (D P L) (⟨d,none,o⟩::r) s else cI P L (D P L) r ⟨put d (.av []) s.tm,s.hp,s.ct,s.base⟩
 | .av []=>cI P L (D P L) r ⟨put d (.av []) s.tm,s.hp,s.ct,s.base⟩
 | _=>none
def agh (s:St):cI P L (D P L) [] s=some s:=rfl
def aef (d:Option Nat) (o:Op) (r:List aM) (tm:Env) (hp:Hp) (ct base:Nat):
  cI P L (D P L) (⟨d,none,o⟩::r) ⟨tm,hp,ct,base⟩=Ns P L d r tm base (aW P L (D P L) tm hp ct o):=by
 simp only [cI,Ns]
 grind
def ach (d:Option Nat) (t:Nat) (b:Bool) (o:Op) (r:List aM) (tm:Env) (hp:Hp) (ct base:Nat):
  cI P L (D P L) (⟨d,some (t,b),o⟩::r) ⟨tm,hp,ct,base⟩=Af P L (ah tm t) b d o r ⟨tm,hp,ct,base⟩:=by
 simp only [cI,Af]
 cases ah tm t with
 | bool c=>
  simp only
  cases hc:(c==b) with
  | true=>simp only [yp]
  | false=>simp only [yI]
 | av vs=>cases vs<;>rfl
 | _=>rfl
def agi (d:Option Nat) (r:List aM) (tm:Env) (base:Nat) (v:AV) (hp:Hp) (ct:Nat):Ns P L d r tm base (some (v,hp,ct))=cI P L (D P L) r ⟨put d v tm,hp,ct,base⟩:=rfl
def alk (i:Nat) (v:AV) (tm:Env):put (some i) v tm=(i,v)::tm:=rfl
def alm (v:AV) (tm:Env):put none v tm=tm:=rfl
def aeg (d:Option Nat) (o:Op) (r:List aM) (s:St):Af P L (.bool true) true d o r s=cI P L (D P L) (⟨d,none,o⟩::r) s:=rfl
def aeh (d:Option Nat) (o:Op) (r:List aM) (s:St):Af P L (.bool false) false d o r s=cI P L (D P L) (⟨d,none,o⟩::r) s:=rfl
def aei (d:Option Nat) (o:Op) (r:List aM) (tm:Env) (hp:Hp) (ct base:Nat):Af P L (.bool true) false d o r ⟨tm,hp,ct,base⟩=cI P L (D P L) r ⟨put d (.av []) tm,hp,ct,base⟩:=rfl
def aej (d:Option Nat) (o:Op) (r:List aM) (tm:Env) (hp:Hp) (ct base:Nat):Af P L (.bool false) true d o r ⟨tm,hp,ct,base⟩=cI P L (D P L) r ⟨put d (.av []) tm,hp,ct,base⟩:=rfl
def agj (b:Bool) (d:Option Nat) (o:Op) (r:List aM) (tm:Env) (hp:Hp) (ct base:Nat):Af P L (.av []) b d o r ⟨tm,hp,ct,base⟩=cI P L (D P L) r ⟨put d (.av []) tm,hp,ct,base⟩:=rfl
def fM {j i:Nat} (h:j≠i):ym j i=false:=by
 cases hq:ym j i with
 | false=>rfl
 | true=>exact absurd (yi hq) h
def aiS (tm:Env) (i:Nat):ao tm (.t i)=ah tm i:=rfl
def aiT (tm:Env) (v:AV):ao tm (.c v)=v:=rfl
def aci (tm:Env):cX tm []=[]:=rfl
def aa6 (tm:Env) (x:X) (r:List X):cX tm (x::r)=ao tm x::cX tm r:=rfl
def aek (i:Nat) (v:AV) (r:Env):ah ((i,v)::r) i=v:=by simp only [ah,wI,yp]
def acj {j i:Nat} (v:AV) (r:Env) (h:j≠i):ah ((j,v)::r) i=ah r i:=by simp only [ah,fM h,yI]
def zM (i:Nat) (o:Obj) (r:Hp):ap ((i,o)::r) i=some o:=by simp only [ap,wI,yp]
def ack {j i:Nat} (o:Obj) (r:Hp) (h:j≠i):ap ((j,o)::r) i=ap r i:=by simp only [ap,fM h,yI]
def ael (i:Nat) (o u:Obj) (r:Hp):a6 ((i,o)::r) i u=(i,u)::r:=by simp only [a6,wI,yp]
def acm {j i:Nat} (o u:Obj) (r:Hp) (h:j≠i):a6 ((j,o)::r) i u=(j,o)::a6 r i u:=by simp only [a6,fM h,yI]
def aem (i:Nat):dc [] i=[]:=rfl
def aen (i:Nat) (o:Obj) (r:Hp):dc ((i,o)::r) i=dc r i:=by simp only [dc,wI,yp]
def acn {j i:Nat} (o:Obj) (r:Hp) (h:j≠i):dc ((j,o)::r) i=(j,o)::dc r i:=by simp only [dc,fM h,yI]
def rd (hp:Hp) (ct:Nat) (q:Option AV):fj:=match q with | some v=>some (v,hp,ct) | none=>none
def mk (hp:Hp) (ct:Nat) (q:Option (AV×Obj)):fj:=match q with | some (v,b)=>some (v,(ct,b)::hp,ct+1) | none=>none
def amJ (hp:Hp) (ct:Nat) (v:AV):rd hp ct (some v)=some (v,hp,ct):=rfl
def amK (hp:Hp) (ct:Nat) (v:AV) (b:Obj):mk hp ct (some (v,b))=some (v,(ct,b)::hp,ct+1):=rfl
def Nt (c a b:AV):Option AV:=match c with | .bool t=>some (bif t then a else b) | _=>none
def GX (k:Nat->Option AV) (n:Option Nat):Option AV:=match n with | some i=>k i | none=>none
def VV (r:Option (List AV)):Option AV:=match r with | some cs=>some (.agg cs) | none=>none
def F3 (ne:Bool) (r:Option Bool):Option AV:=match r with | some b=>some (.bool (ne !=b)) | none=>none
def amL:AV->Option AV
 | .ptr id o=>some (.ptr id o)
 | .bR cs=>some (.bR cs)
 | .fn f a b=>some (.fn f a b)
 | _=>none
def F5 (i:Nat):AV->Option AV | .av vs=>vs[i]? | _=>none
section
variable {f:bZ} {tm:Env} {hp:Hp} {ct:Nat}
def aiU (x:X):aW P L f tm hp ct (.nO x)=some (ao tm x,hp,ct):=rfl
def agk (c a b:X):aW P L f tm hp ct (.pick c a b)=rd hp ct (Nt (ao tm c) (ao tm a) (ao tm b)):=by
 rfl
def aeo (z:List AV) (ps:List (Nat×Nat×X)):aW P L f tm hp ct (.Aj z ps)=rd hp ct (VV (fill tm z ps)):=by
 rfl
def aln (sz:Nat) (ag:Bool) (x:X):aW P L f tm hp ct (.ld sz ag x)=rd hp ct (eM hp sz ag (ao tm x)):=rfl
def agl (x:X):aW P L f tm hp ct (.FB x)=rd hp ct (amL (ao tm x)):=by
 rfl
def aiV (op:BinOp) (x y:X):aW P L f tm hp ct (.bin op x y)=rd hp ct (binOp op (ao tm x) (ao tm y)):=rfl
def alo (ne:Bool) (k:Kj) (x y:X):aW P L f tm hp ct (.eq ne k x y)=rd hp ct (F3 ne (ib k (ao tm x) (ao tm y))):=by
 rfl
def alp (op:UnOp) (x:X):aW P L f tm hp ct (.un op x)=rd hp ct (unOp op (ao tm x)):=rfl
def alq (k:Conv) (x:X):aW P L f tm hp ct (.cv k x)=rd hp ct (kL k (ao tm x)):=rfl
def aiW (g:Fr) (a b:List X):aW P L f tm hp ct (.CF g a b)=some (.fn g (cX tm a) (cX tm b),hp,ct):=rfl
def aiX (k:Cut) (x:X) (lo hi:Option X):aW P L f tm hp ct (.mR k x lo hi)=rd hp ct (eB hp k (ao tm x) tm lo hi):=rfl
def aiY (k:Nat) (x:X):aW P L f tm hp ct (.off k x)=rd hp ct (Fg k (ao tm x)):=rfl
def aiZ (o sz:Nat) (ag:Bool) (x:X):aW P L f tm hp ct (.Gn o sz ag x)=rd hp ct (I7 o sz ag (ao tm x)):=rfl
def ai0 (sz:Nat) (x i:X):aW P L f tm hp ct (.bt sz x i)=rd hp ct (GX (fun j=>iv sz j (ao tm x)) (db (ao tm i))):=by
 rfl
def ai1 (n sz:Nat) (x i:X):aW P L f tm hp ct (.sQ n sz x i)=rd hp ct (GX (fun j=>r7 n sz j (ao tm x)) (db (ao tm i))):=by
 rfl
def ai2 (x i:X):aW P L f tm hp ct (.CG x i)=rd hp ct (GX (fun j=>kI j (ao tm x)) (db (ao tm i))):=by
 rfl
def ai3 (n sz:Nat) (ag:Bool) (x i:X):aW P L f tm hp ct (.CH n sz ag x i)=rd hp ct (GX (fun j=>I8 n sz ag j (ao tm x)) (db (ao tm i))):=by
 rfl
def ai4 (i:Nat) (x:X):aW P L f tm hp ct (.ext i x)=rd hp ct (F5 i (ao tm x)):=by
 rfl
def ai5 (k:Nat) (x:X):aW P L f tm hp ct (.len k x)=rd hp ct (gF hp k (ao tm x)):=rfl
def ai6 (sz:Nat) (x:X):aW P L f tm hp ct (.box sz x)=mk hp ct (ck tm hp ct (.box sz x)):=rfl
def agm (n sz:Nat) (z:List AV) (ps:List (Nat×Nat×X)):aW P L f tm hp ct (.fB n sz z ps)=mk hp ct (ck tm hp ct (.fB n sz z ps)):=rfl
def ai7 (sz by':Nat) (z:List AV) (l c:X):aW P L f tm hp ct (.lU sz by' z l c)=mk hp ct (ck tm hp ct (.lU sz by' z l c)):=rfl
def ai8:aW P L f tm hp ct .qJ=some (.map ct,(ct,.mp true [] [])::hp,ct+1):=rfl
def ai9 (x:X):aW P L f tm hp ct (.mT x)=mk hp ct (ck tm hp ct (.mT x)):=rfl
def alr (sz:Nat) (x v:X):aW P L f tm hp ct (.st sz x v)=bT tm hp ct (.st sz x v):=rfl
def aja (sz by':Nat) (s x:X):aW P L f tm hp ct (.cD sz by' s x)=bT tm hp ct (.cD sz by' s x):=rfl
def Ji (hp:Hp) (ct:Nat) (r:Option AV):fj:=match r with | some v=>some (shut v,hp,ct) | none=>none
def JU (hp:Hp) (ct:Nat) (r:Option AV):fj:=match r with | some v=>some (own hp ct v) | none=>none
def Nv (P:aR) (L:Lib) (f:bZ) (ct n:Nat) (q:Option (List AV×Hp)):fj:=match q with | some (aj,hp)=>Ji hp ct (bA P L f n aj) | none=>none
def Nw (P:aR) (L:Lib) (f:bZ) (ct n:Nat) (q:Option (List AV×Hp)):fj:=match q with | some (aj,hp)=>JU hp ct (bA P L f n aj) | none=>none
def Nx (P:aR) (L:Lib) (f:bZ) (hp:Hp) (ct:Nat) (fv:AV) (xs:List AV):fj:=dO P L f hp ct .pure fv xs
def Ny (P:aR) (L:Lib) (f:bZ) (hp:Hp) (ct:Nat) (fv:AV) (xs:List AV):fj:=dO P L f hp ct .own fv xs
def aep (g:X) (xs:List X):aW P L f tm hp ct (.call .pure g xs)=Nx P L f hp ct (ao tm g) (cX tm xs):=rfl
def aeq (g:X) (xs:List X):aW P L f tm hp ct (.call .own g xs)=Ny P L f hp ct (ao tm g) (cX tm xs):=rfl
def aer (g:X) (xs:List X):aW P L f tm hp ct (.call .heap g xs)=dO P L f hp ct .heap (ao tm g) (cX tm xs):=rfl
def agn (n:Nat) (first cap xs:List AV):Nx P L f hp ct (.fn (.f n) first cap) xs=Nv P L f ct n (cm deep hp (first++(xs++cap))):=by
 simp only [Nx,dO,Nv,Ji]
 cases cm deep hp (first++(xs++cap)) with
 | none=>rfl
 | some q=>cases bA P L f n q.1<;>rfl
def ago (n:Nat) (first cap xs:List AV):Ny P L f hp ct (.fn (.f n) first cap) xs=Nw P L f ct n (cm deep hp (first++(xs++cap))):=by
 simp only [Ny,dO,Nw,JU]
 cases cm deep hp (first++(xs++cap)) with
 | none=>rfl
 | some q=>cases bA P L f n q.1<;>rfl
def agp (n:Nat) (aj:List AV):Nv P L f ct n (some (aj,hp))=Ji hp ct (bA P L f n aj):=rfl
def agq (n:Nat) (aj:List AV):Nw P L f ct n (some (aj,hp))=JU hp ct (bA P L f n aj):=rfl
def agr (v:AV):Ji hp ct (some v)=some (shut v,hp,ct):=rfl
def ajb (v:AV):JU hp ct (some v)=some (own hp ct v):=rfl
def JV (hp:Hp) (r:Option AV):Option AV:=match r with | some v=>result hp v | none=>none
def fg (rs:List RV) (q:Option (Ex×St)):Option AV:=
 match q with
 | some (.normal,s) | some (.ret,s)=>JV s.hp (gA s rs)
 | _=>none
def aK {n:Nat} {F:aF} (h:Has P L n F) (aj:List AV):bA P L f n aj=fg F.eT (f F.body ⟨eE 0 aj,[],0,0⟩):=by
 simp only [bA,h.pure,h.code]
 cases hq:f F.body ⟨eE 0 aj,[],0,0⟩ with
 | none=>rfl
 | some q=>
  obtain ⟨e,s⟩:=q
  cases e with
  | normal=>rfl
  | ret=>rfl
  | exit id=>rfl
def ajc (rs:List RV) (s:St):fg rs (some (.normal,s))=JV s.hp (gA s rs):=rfl
def ajd (rs:List RV) (s:St):fg rs (some (.ret,s))=JV s.hp (gA s rs):=rfl
def aje (v:AV):JV hp (some v)=result hp v:=rfl
def N8 (r:RV) (s:St):gA s [r]=results1 s r:=by
 simp only [gA,jq];cases results1 s r<;>rfl
def WL (r:Option (List AV)):Option AV:=match r with | some vs=>some (.av vs) | none=>none
def amM (r q:RV) (l:List RV) (s:St):gA s (r::q::l)=WL (jq s (r::q::l)):=by
 simp only [gA,jq];cases results1 s r<;>cases results1 s q<;>cases jq s l<;>rfl
def VW (r:Option AV) (l:Option (List AV)):Option (List AV):=match r,l with | some v,some vs=>some (v::vs) | _,_=>none
def aes (s:St):jq s []=some []:=rfl
def aco (r:RV) (l:List RV) (s:St):jq s (r::l)=VW (results1 s r) (jq s l):=rfl
def ags (v:AV) (vs:List AV):VW (some v) (some vs)=some (v::vs):=rfl
def ajf (vs:List AV):WL (some vs)=some (.av vs):=rfl
def Nz (i:Nat) (s:St):results1 s (.t i)=some (ah s.tm i):=rfl
def als (a:AV):eE 0 [a]=[(0,a)]:=rfl
def alt (a b:AV):eE 0 [a,b]=[(0,a),(1,b)]:=rfl
def alu (a b c:AV):eE 0 [a,b,c]=[(0,a),(1,b),(2,c)]:=rfl
def alv (a b c d:AV):eE 0 [a,b,c,d]=[(0,a),(1,b),(2,c),(3,d)]:=rfl
def alw (a b c d e:AV):eE 0 [a,b,c,d,e]=[(0,a),(1,b),(2,c),(3,d),(4,e)]:=rfl
def aa7 (k:yV) (n:Int):result hp (.int k n)=some (.int k n):=rfl
def aaz (b:Bool):result hp (.bool b)=some (.bool b):=rfl
def aa8 (s:List Nat):result hp (.str s)=some (.str s):=rfl
def aaA:result hp .af=some .af:=rfl
def aa9 (e:Bool) (n:Nat) (cs:List AV):result hp (.aq e n cs)=some (.aq e n cs):=rfl
def shut_int (k:yV) (n:Int):shut (.int k n)= .int k n:=rfl
def shut_bool (b:Bool):shut (.bool b)= .bool b:=rfl
def aet (s:List Nat):shut (.str s)= .str s:=rfl
def acp:shut .af= .af:=rfl
def aeu (e:Bool) (n:Nat) (cs:List AV):shut (.aq e n cs)= .aq e n cs:=rfl
def aev (e:Bool) (sz n:Nat) (cs:List AV):shut (.cx e sz n cs)= .aq e n cs:=rfl
def bN (cs:List AV):shut (.agg cs)= .agg cs:=rfl
def agt (g:Fr) (a b:List AV):shut (.fn g a b)= .fn g a b:=rfl
def aew (vs:List AV):shut (.av vs)= .av (Ak vs):=rfl
def acq:Ak []=[]:=rfl
def aba (v:AV) (r:List AV):Ak (v::r)=bG v::Ak r:=rfl
def acr (k:yV) (n:Int):bG (.int k n)= .int k n:=rfl
def abb (b:Bool):bG (.bool b)= .bool b:=rfl
def acs (s:List Nat):bG (.str s)= .str s:=rfl
def abc:bG .af= .af:=rfl
def acu (e:Bool) (n:Nat) (cs:List AV):bG (.aq e n cs)= .aq e n cs:=rfl
def acv (e:Bool) (sz n:Nat) (cs:List AV):bG (.cx e sz n cs)= .aq e n cs:=rfl
def Ei (cs:List AV):bG (.agg cs)= .agg cs:=rfl
def N9 (n:Nat) (r:List AV) (q:Option (AV×Hp)):Option (List AV×Hp):=match q with | some (v,hp)=>(match cm n hp r with | some (vs,kR)=>some (v::vs,kR) | none=>none) | none=>none
def WM (v:AV) (q:Option (List AV×Hp)):Option (List AV×Hp):=match q with | some (vs,hp)=>some (v::vs,hp) | none=>none
def aex (n:Nat):cm (n+1) hp []=some ([],hp):=rfl
def acw (n:Nat) (v:AV) (r:List AV):cm (n+1) hp (v::r)=N9 n r (freeze n hp v):=by
 simp only [cm,N9];cases freeze n hp v<;>rfl
def ajg (n:Nat) (r:List AV) (v:AV):N9 n r (some (v,hp))=WM v (cm n hp r):=by
 rfl
def ajh (v:AV) (vs:List AV):WM v (some (vs,hp))=some (v::vs,hp):=rfl
def agu (n:Nat) (k:yV) (a:Int):freeze (n+1) hp (.int k a)=some (.int k a,hp):=rfl
def aey (n:Nat) (b:Bool):freeze (n+1) hp (.bool b)=some (.bool b,hp):=rfl
def agv (n:Nat) (s:List Nat):freeze (n+1) hp (.str s)=some (.str s,hp):=rfl
def aez (n:Nat):freeze (n+1) hp .af=some (.af,hp):=rfl
def agw (n:Nat) (e:Bool) (k:Nat) (cs:List AV):freeze (n+1) hp (.aq e k cs)=some (.aq e k cs,hp):=rfl
def aeA (n:Nat) (cs:List AV):freeze (n+1) hp (.bR cs)=some (.bR cs,hp):=rfl
end
end
section
variable {hp:Hp}
def aji (a b:AV):Nt (.bool true) a b=some a:=rfl
def ajj (a b:AV):Nt (.bool false) a b=some b:=rfl
def alx (k:Nat->Option AV) (n:Nat):GX k (some n)=k n:=rfl
def abd (k:yV) (n:Nat):db (.int k (n:Int))=some n:=rfl
def ajk (k:yV):db (.int k 0)=some 0:=rfl
def ajl (k:yV):db (.int k 1)=some 1:=rfl
def ajm (k:yV):db (.int k 2)=some 2:=rfl
def ajn (k:yV):db (.int k 3)=some 3:=rfl
def ajo (k:yV):db (.int k 4)=some 4:=rfl
def ajp (k:yV):db (.int k 5)=some 5:=rfl
def ajq (k:yV):db (.int k 6)=some 6:=rfl
def ajr (k:yV):db (.int k 7)=some 7:=rfl
def ajs (k:yV):db (.int k 8)=some 8:=rfl
def ajt (k:yV):db (.int k 9)=some 9:=rfl
def agx (cs:List AV):VV (some cs)=some (.agg cs):=rfl
def Uk (k:yV) (a b:Int):binOp .add (.int k a) (.int k b)=some (.int k (k.wrap (a+b))):=by simp [binOp,jy]
def IF (k:yV) (a b:Int):binOp .sub (.int k a) (.int k b)=some (.int k (k.wrap (a-b))):=by simp [binOp,jy]
def Ul (k:yV) (a b:Int):binOp .mul (.int k a) (.int k b)=some (.int k (k.wrap (a*b))):=by simp [binOp,jy]
def e9 (k:yV) (a b:Int) (h:b≠0):binOp .quo (.int k a) (.int k b)=some (.int k (k.wrap (a.tdiv b))):=by simp [binOp,jy,h]
def gC (k:yV) (a b:Int) (h:b≠0):binOp .rem (.int k a) (.int k b)=some (.int k (a.tmod b)):=by simp [binOp,jy,h]
def agy (k:yV) (a b:Int):binOp .eql (.int k a) (.int k b)=some (.bool (decide (a=b))):=by
 simp [binOp,jy,intCmp,BEq.beq]
def agz (k:yV) (a b:Int):binOp .neq (.int k a) (.int k b)=some (.bool (!decide (a=b))):=by
 simp [binOp,jy,intCmp,bne,BEq.beq]
def agA (k:yV) (a b:Int):binOp .lss (.int k a) (.int k b)=some (.bool (decide (a<b))):=by simp [binOp,jy,intCmp]
def agB (k:yV) (a b:Int):binOp .leq (.int k a) (.int k b)=some (.bool (decide (a<=b))):=by simp [binOp,jy,intCmp]
def agC (k:yV) (a b:Int):binOp .gtr (.int k a) (.int k b)=some (.bool (decide (b<a))):=by simp [binOp,jy,intCmp]
def agD (k:yV) (a b:Int):binOp .geq (.int k a) (.int k b)=some (.bool (decide (b<=a))):=by simp [binOp,jy,intCmp]
def aju (k:yV) (a:Int):unOp .neg (.int k a)=some (.int k (k.wrap (0-a))):=rfl
def ajv (b:Bool):unOp .not (.bool b)=some (.bool !b):=rfl
def aeB:gF hp 1 .af=some (.int .i64 0):=rfl
def agE (e:Bool) (n:Nat) (cs:List AV):gF hp 1 (.aq e n cs)=some (.int .i64 n):=rfl
def agF (id o n:Nat):gF hp 1 (.ay id o n)=some (.int .i64 n):=rfl
def agG (s:List Nat):gF hp 0 (.str s)=some (.int .i64 s.length):=rfl
def IG {sz i n:Nat} (e:Bool) (cs:List AV) (h:i<n):iv sz i (.aq e n cs)=some (.bR (cs.drop (i*sz))):=by
 have hb:yF i n=true:=yu h;simp only [iv]
 grind
def cK {sz i n:Nat} (id o:Nat) (h:i<n):iv sz i (.ay id o n)=some (.ptr id (o+i*sz)):=by
 have hb:yF i n=true:=yu h;simp only [iv]
 grind
def aeC (v:AV) (cs:List AV):eM hp 1 false (.bR (v::cs))=some v:=rfl
def KL (sz:Nat) (ag:Bool) (o:Nat) (q:Option Obj):Option AV:=match q with | some (.cells _ _ _ _ cs)=>fQ sz ag (cs.drop o) | _=>none
def ajw (sz:Nat) (ag:Bool) (id o:Nat):eM hp sz ag (.ptr id o)=KL sz ag o (ap hp id):=by
 rfl
def aly (sz:Nat) (ag:Bool) (o:Nat) (rw pu ex:Bool) (z:Nat) (cs:List AV):KL sz ag o (some (.cells rw pu ex z cs))=fQ sz ag (cs.drop o):=rfl
def alz (sz:Nat) (v:AV) (cs:List AV):fQ sz false (v::cs)=some v:=rfl
def amN (a:AV) (l:List AV):F5 0 (.av (a::l))=some a:=rfl
def ext1 (a b:AV) (l:List AV):F5 1 (.av (a::b::l))=some b:=rfl
def amO (a b c:AV) (l:List AV):F5 2 (.av (a::b::c::l))=some c:=rfl
def amP (a b c d:AV) (l:List AV):F5 3 (.av (a::b::c::d::l))=some d:=rfl
end
def pX:Env->Bool
 | []=>true
 | (_,v)::r=>aX v&&pX r
mutual
def aB:∀{v:AV},aX v=true->refs v=[]
 | .int _ _,_ | .bool _,_ | .aD _ _,_ | .c9 _ _ _,_ | .str _,_ | .jB,_ | .bR _,_ | .af,_ | .aq _ _ _,_ | .gK,_ | .iO,_ | .iP _ _,_ | .undef,_=>rfl
 | .ptr _ _,h | .ay _ _ _,h | .map _,h | .it _,h | .cx _ _ _ _,h=>by simp [aX] at h
 | .fn (.y _) _ _,h=>by simp [aX] at h
 | .fn (.f _) first cap,h=>by
  simp only [aX,yf] at h;simp only [refs,Ec h.1,Ec h.2,wD]
 | .agg cs,h=>by simp only [aX] at h;simp only [refs,Ec h]
 | .av cs,h=>by simp only [aX] at h;simp only [refs,Ec h]
def Ec:∀{vs:List AV},aC vs=true->hX vs=[]
 | [],_=>rfl
 | v::r,h=>by
  simp only [aC,yf] at h;simp only [hX,aB h.1,Ec h.2,wD]
end
mutual
def aE (f:Nat->Option Nat):∀{v:AV},aX v=true->bJ f v=v
 | .int _ _,_ | .bool _,_ | .aD _ _,_ | .c9 _ _ _,_ | .str _,_ | .jB,_ | .bR _,_ | .af,_ | .aq _ _ _,_ | .gK,_ | .iO,_ | .iP _ _,_ | .undef,_=>rfl
 | .ptr _ _,h | .ay _ _ _,h | .map _,h | .it _,h | .cx _ _ _ _,h=>by simp [aX] at h
 | .fn (.y _) _ _,h=>by simp [aX] at h
 | .fn (.f _) first cap,h=>by
  simp only [aX,yf] at h;simp only [bJ,Ej f h.1,Ej f h.2]
 | .agg cs,h=>by simp only [aX] at h;simp only [bJ,Ej f h]
 | .av cs,h=>by simp only [aX] at h;simp only [bJ,Ej f h]
def Ej (f:Nat->Option Nat):∀{vs:List AV},aC vs=true->eG f vs=vs
 | [],_=>rfl
 | v::r,h=>by
  simp only [aC,yf] at h;simp only [eG,aE f h.1,Ej f h.2]
end
def Rw:∀{tm:Env},pX tm=true->hZ tm=[]
 | [],_=>rfl
 | (i,v)::r,h=>by
  simp only [pX,yf] at h;simp only [hZ,aB h.1,Rw h.2,wD]
def Sn (f:Nat->Option Nat):∀{tm:Env},pX tm=true->jf f tm=tm
 | [],_=>rfl
 | (i,v)::r,h=>by
  simp only [pX,yf] at h;simp only [jf,aE f h.1,Sn f h.2]
def Lb {live:List Nat} {tm:Env} {ct:Nat} (h:pX (dd tm live)=true):aV live ⟨tm,[],ct,0⟩=⟨dd tm live,[],0,0⟩:=by
 simp only [aV,Rw h,gY,wD];simp only [reach,jb,jY,Sn _ h,yM,yX]
def aaB {tm:Env} {ct:Nat}:aV [] ⟨tm,[],ct,0⟩=⟨[],[],0,0⟩:=rfl
def Il {P:aR} {L:Lib} {live:List Nat} {a:VC} (I:Nat->St->Prop) (Q:Ex->St->Prop)
  (step:∀k s,I k s->(∃s' k',D P L a (aV live s)=some (.normal,s')/\k'<k/\I k' s')\/(∃ex s',D P L a (aV live s)=some (ex,s')/\ex≠.normal/\Q ex s')):
  ∀k s,I k s->∃ex s',D P L (.loop live a) s=some (ex,s')/\Q ex s':=by
 intro k
 induction k using Nat.strongRecOn with
 | _ k ih=>
  intro s hI;rw [I0];rcases step k s hI with ⟨s',k',h1,h2,h3⟩ | ⟨ex,s',h1,h2,h3⟩
  ·rw [h1,Ui];exact ih k' h2 s' h3
  ·rw [h1]
   cases ex with
   | normal=>exact absurd rfl h2
   | ret=>exact ⟨.ret,s',rfl,h3⟩
   | exit id=>exact ⟨.exit id,s',rfl,h3⟩
def gW {P:aR} {L:Lib} {live:List Nat} {a:VC} (I:Nat->St->Prop) (Q:Ex->St->Prop)
  (step:∀k s,I k s->(∃s' k',D P L a s=some (.normal,s')/\k'<k/\I k' (aV live s'))\/(∃ex s',D P L a s=some (ex,s')/\ex≠.normal/\Q ex s')):
  ∀k s,I k (aV live s)->∃ex s',D P L (.loop live a) s=some (ex,s')/\Q ex s':=
 Il (fun k s=>I k (aV live s)) Q (fun k s h=>step k _ h)
def eb {P:aR} {L:Lib} {live:List Nat} {a:VC} {I:Nat->St->Prop} {Q:Ex->St->Prop}
  (step:∀k s,I k s->(∃s' k',D P L a s=some (.normal,s')/\k'<k/\I k' (aV live s'))\/(∃ex s',D P L a s=some (ex,s')/\ex≠.normal/\Q ex s')):
  ∀k s s0,aV live s=s0->I k s0->∃ex s',D P L (.loop live a) s=some (ex,s')/\Q ex s':=fun k s s0 h hi=>gW I Q step k s (h▸hi)
def bP {P:aR} {L:Lib} {c:VC} {s:St} {q:Option (Ex×St)} {I:St->Prop} {Q:Ex->St->Prop} (hq:D P L c s=q) (key:∀s,I s->∃ex s',D P L c s=some (ex,s')/\Q ex s') (hI:I s):
  ∃ex s',q=some (ex,s')/\Q ex s':=by
 rw [<-hq];exact key s hI
def aeD (tm:Env):dd tm []=[]:=rfl
def acx (tm:Env) (i:Nat) (r:List Nat):dd tm (i::r)=(i,ah tm i)::dd tm r:=rfl
def acy:pX []=true:=rfl
def abe (i:Nat) (v:AV) (r:Env):pX ((i,v)::r)=(aX v&&pX r):=rfl
def UM (k:yV) (n:Int):aX (.int k n)=true:=(rfl)
def agH (b:Bool):aX (.bool b)=true:=(rfl)
def UN (s:List Nat):aX (.str s)=true:=(rfl)
def agI:aX .af=true:=(rfl)
def ajx (e:Bool) (n:Nat) (cs:List AV):aX (.aq e n cs)=true:=(rfl)
def agJ (cs:List AV):aX (.bR cs)=true:=(rfl)
def aeE:aX .undef=true:=(rfl)
attribute [go_sem] deep aaB aeD acx acy abe UM agH UN agI ajx agJ aeE Bool.and_true wB
attribute [go_sem] aiN aiO alh WK amI ali j0 aiP alj fL af7 af8 Ui af9 aga agb agc Uj agd aiQ aiR age agf
 agh aef ach agi alk alm aeg aeh aei aej agj aiS aiT aci aa6 aek acj zM ack ael acm aem aen acn
 amJ amK aiU agk aeo aln agl aiV alo alp alq aiW aiX aiY aiZ ai0 ai1 ai2 ai3 ai4 ai5 ai6 agm ai7 ai8 ai9 alr aja aep aeq aer
 agn ago agp agq agr ajb ajc ajd aje N8 amM aes aco ags ajf Nz als alt alu alv alw
 aa7 aaz aa8 aaA aa9 shut_int shut_bool aet acp aeu aev bN agt aew acq aba acr abb acs abc acu acv Ei
 aex acw ajg ajh agu aey agv aez agw aeA
 aji ajj alx abd ajk ajl ajm ajn ajo ajp ajq ajr ajs ajt agx Uk IF Ul agy agz agA agB agC agD aju ajv aeB agE agF agG aeC ajw aly alz amN ext1 amO amP
 List.nil_append wD xd yJ yG Bool.not_true Bool.not_false ne_eq ybn
end
abbrev aa (n:Int):AV:= .int .i64 n
def cE (v:AV) (cs:List AV):Prop:=(v= .af/\cs=[])\/∃e,v= .aq e cs.length cs
section
variable {v:AV} {cs:List AV} {hp:Hp}
def cE.len (h:cE v cs) {hp:Hp}:gF hp 1 v=some (.int .i64 (cs.length:Nat)):=by
 rcases h with ⟨rfl,rfl⟩ | ⟨e,rfl⟩<;>rfl
def cE.pu (h:cE v cs):aX v=true:=by
 rcases h with ⟨rfl,rfl⟩ | ⟨e,rfl⟩<;>rfl
def cE.ak (h:cE v cs) (n:Nat) {hp:Hp}:freeze (n+1) hp v=some (v,hp):=by
 rcases h with ⟨rfl,rfl⟩ | ⟨e,rfl⟩<;>rfl
def cE.shut (h:cE v cs):shut v=v:=by
 rcases h with ⟨rfl,rfl⟩ | ⟨e,rfl⟩<;>rfl
def cE.bG (h:cE v cs):bG v=v:=by
 rcases h with ⟨rfl,rfl⟩ | ⟨e,rfl⟩<;>rfl
def cE.eT (h:cE v cs) {hp:Hp}:result hp v=some v:=by
 rcases h with ⟨rfl,rfl⟩ | ⟨e,rfl⟩<;>rfl
def cE.bt (h:cE v cs) {i:Nat} (hi:i<cs.length):iv 1 i v=some (.bR (cs[i]::cs.drop (i+1))):=by
 rcases h with ⟨rfl,rfl⟩ | ⟨e,rfl⟩
 ·grind
 ·rw [IG e _ hi,Nat.mul_one,yP hi]
def cE.one (h:cE v cs):cw v=true:=by
 rcases h with ⟨rfl,rfl⟩ | ⟨e,rfl⟩<;>rfl
def cE.cells (h:cE v cs):cellsOf v=[v]:=by
 rcases h with ⟨rfl,rfl⟩ | ⟨e,rfl⟩<;>rfl
def MC (e:Bool) (cs:List AV):cE (.aq e cs.length cs) cs:= .inr ⟨e,rfl⟩
def zN:cE .af []:= .inl ⟨rfl,rfl⟩
end
def bg (v:AV) (l:List Int):Prop:=cE v (l.map aa)
section
variable {v:AV} {l:List Int}
def bg.len (h:bg v l) {hp:Hp}:gF hp 1 v=some (.int .i64 (l.length:Nat)):=by
 have:=cE.len (hp:=hp) h
 grind
def bg.pu (h:bg v l):aX v=true:=cE.pu h
def bg.ak (h:bg v l) (n:Nat) {hp:Hp}:freeze (n+1) hp v=some (v,hp):=cE.ak h n
def bg.shut (h:bg v l):VE.shut v=v:=cE.shut h
def bg.bG (h:bg v l):VE.bG v=v:=cE.bG h
def bg.eT (h:bg v l) {hp:Hp}:result hp v=some v:=cE.eT h
def bg.one (h:bg v l):cw v=true:=cE.one h
def bg.cells (h:bg v l):cellsOf v=[v]:=cE.cells h
def bg.bt (h:bg v l) {i:Nat} (hi:i<l.length):iv 1 i v=some (.bR (.int .i64 l[i]::(l.map aa).drop (i+1))):=by
 have:=cE.bt h (i:=i) (by simpa using hi)
 grind
def ju (e:Bool) (l:List Int):bg (.aq e l.length (l.map aa)) l:=by
 have:=MC e (l.map aa)
 rwa [xc] at this
end
def AJ {α β:Type} (p:α->β->Prop):List α->List β->Prop
 | [],[]=>True
 | a::r,b::s=>p a b/\AJ p r s
 | _,_=>False
def IsS (v:AV) (s:List (List Int)):Prop:=∃rows,cE v rows/\AJ bg rows s
def wrap64 {n:Int} (h1: -9223372036854775808<=n) (h2:n<9223372036854775808):IntKind.wrap .i64 n=n:=by
 simp only [IntKind.wrap,IntKind.bits,IntKind.signed,wB]
 grind
def wrapN {n:Nat} (h:n<9223372036854775808):IntKind.wrap .i64 (n:Int)=n:=wrap64 (by omega) (by omega)
section
variable {P:aR} {L:Lib}
abbrev ai (P:aR) (L:Lib) (f:Nat) (aj:List AV) (r:AV):Prop:=bA P L (D P L) f aj=some r
end
end VE
