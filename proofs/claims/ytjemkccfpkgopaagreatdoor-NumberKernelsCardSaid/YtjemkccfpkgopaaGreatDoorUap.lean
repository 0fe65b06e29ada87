import Derived.ChangeSlices
import Derived.ChangeReads
import Derived.ChangeSame
import Derived.OpenShut
import Derived.Lib.AtoiErrMem
import Derived.Laws.Externs
import Derived.Attr
import Derived.Test.YtjemkccfpkgopaaGreatDoorUai
import Derived.Test.YtjemkccfpkgopaaGreatDoorUae
import Derived.Test.YtjemkccfpkgopaaGreatDoorUag
import Derived.Test.YtjemkccfpkgopaaGreatDoorUao
import Derived.Test.YtjemkccfpkgopaaGreatDoorUah
set_option linter.all false
set_option maxRecDepth 100000
open Array renaming getElem?_eq_some_iff→xm
open Bool renaming and_eq_true→ye,true_and→xH
open Go renaming Addr→ug,ChangeSpec→ybz,DataW→xq,Field→uK,IntKind→yY,MemPlace→wb,Program→y8,TypeId→yD,Value→yf,World→yh
open List renaming all_cons→yae,append_nil→wA,cons_append→xh,drop_drop→vH,drop_eq_getElem_cons→yX,drop_eq_nil_of_le→xj,eq_nil_of_length_eq_zero→yC,flatMap_cons→yaj,getD_cons_succ→tX,getD_eq_getElem?_getD→yz,getElem?_cons_zero→vm,length→ybA,length_append→yL,length_cons→yG,length_map→yk,length_nil→yO,length_singleton→tK,length_take→yI,mapM_cons→vU,mapM_nil→tz,map_cons→xe,mem_append_left→uA,mem_append_right→vn,mem_flatMap→uf,range→xC,range'→xW,range'_succ→vQ,range'_zero→yas,range_eq_range'→tQ,replicate→yq,replicate_succ→wH,set_cons_succ→yad,take_append_drop→xS,take_of_length_le→yN,take_succ_eq_append_getElem→xa
open Nat renaming add_mul→wI,add_sub_cancel→tp,add_zero→yZ,beq→yx,beq_refl→vd,ble_eq_true_of_le→yt,blt→yP,eq_of_beq_eq_true→ym,eq_zero_or_pos→xn,le_div_iff_mul_le→tT,le_max_left→vP,le_max_right→vC,le_of_lt→uH,le_refl→yo,lt_of_le_of_lt→we,lt_of_mul_lt_mul_right→tr,min_eq_left→xE,mul_add→xt,mul_assoc→xk,mul_comm→xB,mul_le_mul_left→yW,mul_le_mul_right→yT,mul_pos→ybt,mul_zero→xD,pow_le_pow_right→xb,pow_succ→xc,zero_add→yg
open Option renaming bind_eq_bind→wZ,bind_some→xI,map_some→wD,pure_def→wF
open Option.some renaming injEq→yd
open Prod.mk renaming injEq→yj
namespace VE
section
open Go
section
variable (P:y8)
def Dn (self:yD->Bool):List uK->Nat->Nat->Bool
 | [],o,n=>yx o n
 | f::r,o,n=>yx f.offset o&&(self f.type&&Dn self r (o+P.cellsOf f.type) n)
def flat:Nat->yD->Bool
 | 0,_=>false
 | n+1,t=>
  match P.underlying t with
  | some .bool | some (.int _) | some (.float _) | some .string=>yx (P.cellsOf t) 1
  | some (.slice e)=>yx (P.cellsOf t) 1&&(yP 0 (P.cellsOf e)&&flat n e)
  | some (.struct fs)=>Dn P (fun u=>flat n u) fs.toList 0 (P.cellsOf t)
  | some (.array k e)=>yx (P.cellsOf t) (k*P.cellsOf e)&&flat n e
  | _=>false
def cQ {H:Type}:Nat->yD->xq H->List AV
 | 0,_,_=>[]
 | n+1,t,d=>
  match P.underlying t,d with
  | some .bool,.lit (.bool b)=>[.bool b]
  | some (.int k),.lit (.int _ m)=>[.int k m]
  | some (.float k),.lit (.float _ b)=>[.bM k b]
  | some .string,.lit (.string s)=>[.str (s.map UInt8.toNat)]
  | some (.slice _),.nil=>[.aa]
  | some (.slice e),.slice jg spare=>[.ai spare.isEmpty jg.length (jg.flatMap fun x=>cQ n e x)]
  | some (.struct fs),.agg parts=>(fs.toList.zip parts).flatMap fun x=>cQ n x.1.type x.2
  | some (.array _ e),.agg parts=>parts.flatMap fun x=>cQ n e x
  | _,_=>[]
end
section
variable {af:Nat->Nat} {m:Mp} {S:Nat->Prop} {w:yh}
def abi:∀{a b:List AV} {aF o:Nat},bP af m S w a aF o->bP af m S w b aF (o+a.length)->bP af m S w (a++b) aF o
 | [],b,aF,o,_,h=>by simpa using h
 | x::a,b,aF,o,h1,h2=>by
  exact ⟨h1.1,abi h1.2 (by rw [yG] at h2;rw [show o+1+a.length=o+(a.length+1) by omega];exact h2)⟩
def KV:∀{a b:List AV},aG a=true->aG b=true->aG (a++b)=true
 | [],_,_,h=>h
 | x::a,b,h1,h2=>by
  simp only [aG,xh,ye] at h1 ⊢;exact ⟨h1.1,KV h1.2 h2⟩
def abj:∀{a:List AV} {us:List yf},az af m S w a us->a.length=us.length
 | [],us,h=>by simp only [az] at h;subst h;rfl
 | x::a,us,h=>by
  obtain ⟨u,r,rfl,_,h2⟩:=h;simp [abj h2]
end
section
variable {H:Type} {enc:yD×yf->H} {P:y8} {w:yh} {held:Bool} {af:Nat->Nat} {m:Mp} {S:Nat->Prop}
def afu {a:ug} {i:Nat} {u:yf} (h:w.cell? (a.add i)=some u):w.cell? ⟨a.block,a.off+i,none⟩=some u/\(i=0->a.spot=none):=by
 by_cases hi:i=0
 ·subst hi;have e:a.add 0=a:=by simp [Addr.add]
  rw [e] at h;have hs:a.spot=none:=by
   cases hq:a.spot with
   | none=>rfl
   | some k=>
    unfold World.cell? at h
    split at h
    ·simp [hq] at h
    all_goals simp_all
  obtain ⟨b,o,sp⟩:=a;simp only at hs;subst hs;exact ⟨by simpa using h,fun _=>rfl⟩
 ·have e:a.add i=⟨a.block,a.off+i,none⟩:=by simp [Addr.add,hi]
  rw [e] at h;exact ⟨h,fun h=>(hi h).elim⟩
def aoe (a:ug) (i:Nat):(a.add i).block=a.block:=by unfold Addr.add;split<;>rfl
def ar3 (a:ug) (i:Nat):(a.add i).off=a.off+i:=by unfold Addr.add;split<;>simp_all
def K6 {α β:Type} {f:α->Option β}:∀{l:List α} {r:List β},l.mapM f=some r->r.length=l.length
 | [],r,h=>by simp only [tz,wF,yd] at h;subst h;rfl
 | x::l,r,h=>by
  rw [vU] at h
  cases h1:f x with
  | none=>simp [h1] at h
  | some y=>
   cases h2:l.mapM f with
   | none=>simp [h1,h2] at h
   | some ys=>
    simp only [h1,h2,xI,wZ,wF,yd] at h;subst h;simp [K6 h2]
def aqa {c:AV} {l:List AV} {b o:Nat} (h:bP af m S w (c::l) b o):b<w.heap.size:=by
 obtain ⟨⟨u,h1,_⟩,_⟩:=h;unfold World.cell? at h1
 cases hq:w.heap[b]? with
 | none=>simp [hq] at h1
 | some o=>exact (xm.1 hq).1
def Qb {e:yD} {bn sz:Nat} {f:xq H->List AV} {a:ug} (eh:0<sz)
  (IH:∀(cs:List yf) (d:xq H) (ps:List wb),DataW.trod enc P w 0 (fun _=>true) held bn e cs=some (d,ps)->az af m S w (f d) cs/\aG (f d)=true/\cs.length=sz):
  ∀(k j:Nat) (xs:List (xq H×List wb)),(xW j k).mapM (fun i=>(w.cells? 0 (a.add (i*sz)) sz).bind (DataW.trod enc P w 0 (fun _=>true) held bn e))=some xs->
   bP af m S w ((xs.map (·.1)).flatMap f) a.block (a.off+j*sz)/\aG ((xs.map (·.1)).flatMap f)=true/\((xs.map (·.1)).flatMap f).length=k*sz/\xs.length=k/\(0<k->a.spot=none\/0<j)
 | 0,j,xs,h=>by
  simp only [yas,tz,wF,yd] at h;subst h;simp [bP,aG]
 | k+1,j,xs,h=>by
  rw [vQ,vU] at h
  cases h1:(w.cells? 0 (a.add (j*sz)) sz) with
  | none=>simp [h1] at h
  | some us=>
   cases h2:DataW.trod enc P w 0 (fun _=>true) held bn e us with
   | none=>simp [h1,h2] at h
   | some x=>
    cases h3:(xW (j+1) k).mapM (fun i=>(w.cells? 0 (a.add (i*sz)) sz).bind (DataW.trod enc P w 0 (fun _=>true) held bn e)) with
    | none=>simp [h1,h2,h3] at h
    | some ys=>
     simp only [h1,h2,h3,xI,wZ,wF,yd] at h;subst h;obtain ⟨d,ps⟩:=x;obtain ⟨g1,g2,g3⟩:=IH us d ps h2;obtain ⟨k1,k2,k3,k4,_⟩:=Qb eh IH k (j+1) ys h3;obtain ⟨_,c2,c3⟩:=World.cells?_some h1;have hl:(f d).length=sz:=by rw [abj g1,g3]
     have hc:∀(i:Nat) (u:yf),us[i]? =some u->w.cell? ⟨a.block,a.off+j*sz+i,none⟩=some u:=by
      intro i u hi;have Fo:i<sz:=by grind
      have h:=c3 i Fo;rw [hi] at h
      have:=(afu h).1
      rwa [aoe,ar3] at this
     refine ⟨?_,?_,?_,by simp [k4],?_⟩
     ·simp only [xe,yaj];refine abi (Dx _ us _ g1 hc) ?_
      grind
     ·simp only [xe,yaj];exact KV g2 k2
     ·grind
     ·intro _;rcases xn j with hj | hj
      ·left
       have h:=c3 0 eh;have hu:us[0]? =some us[0]:=by simp_all
       rw [hu] at h
       have:=(afu h).2 rfl
       subst hj;simpa [Addr.add] using this
      ·grind
def aaA {bn N:Nat} {n:Nat} {cs:List yf} (hN:cs.length=N)
  (IH:∀(t:yD) (cs:List yf) (d:xq H) (ps:List wb),flat P n t=true->DataW.trod enc P w 0 (fun _=>true) held bn t cs=some (d,ps)->az af m S w (cQ P n t d) cs/\aG (cQ P n t d)=true/\cs.length=P.cellsOf t):
  ∀(r:List uK) (o:Nat) (xs:List (xq H×List wb)),Dn P (fun u=>flat P n u) r o N=true->r.mapM (fun f=>DataW.trod enc P w 0 (fun _=>true) held bn f.type ((cs.drop f.offset).take (P.cellsOf f.type)))=some xs->
   az af m S w ((r.zip (xs.map (·.1))).flatMap fun x=>cQ P n x.1.type x.2) (cs.drop o)/\aG ((r.zip (xs.map (·.1))).flatMap fun x=>cQ P n x.1.type x.2)=true
 | [],o,xs,hf,h=>by
  have:=ym hf
  rw [xj (by omega)];simp [az,aG]
 | f::r,o,xs,hf,h=>by
  simp only [Dn,ye] at hf;obtain ⟨e1,e2,e3⟩:=hf;have e1:=ym e1;rw [vU] at h
  cases h2:DataW.trod enc P w 0 (fun _=>true) held bn f.type ((cs.drop f.offset).take (P.cellsOf f.type)) with
  | none=>simp [h2] at h
  | some x=>
   cases h3:r.mapM (fun f=>DataW.trod enc P w 0 (fun _=>true) held bn f.type ((cs.drop f.offset).take (P.cellsOf f.type))) with
   | none=>simp [h2,h3] at h
   | some ys=>
    simp only [h2,h3,xI,wZ,wF,yd] at h;subst h;obtain ⟨d,ps⟩:=x;obtain ⟨g1,g2,g3⟩:=IH f.type _ d ps e2 h2;obtain ⟨k1,k2⟩:=aaA hN IH r _ ys e3 h3;rw [e1] at g1;have e:cs.drop o=(cs.drop o).take (P.cellsOf f.type)++cs.drop (o+P.cellsOf f.type):=by rw [<-vH];exact (xS _ _).symm
    rw [e];exact ⟨lA g1 k1,KV g2 k2⟩
def afv {bn sz:Nat} {e:yD} {f:xq H->List AV} {cs:List yf}
  (IH:∀(cs:List yf) (d:xq H) (ps:List wb),DataW.trod enc P w 0 (fun _=>true) held bn e cs=some (d,ps)->az af m S w (f d) cs/\aG (f d)=true/\cs.length=sz):
  ∀(k j:Nat) (xs:List (xq H×List wb)),(xW j k).mapM (fun i=>DataW.trod enc P w 0 (fun _=>true) held bn e ((cs.drop (i*sz)).take sz))=some xs->cs.length=(j+k)*sz->
   az af m S w ((xs.map (·.1)).flatMap f) (cs.drop (j*sz))/\aG ((xs.map (·.1)).flatMap f)=true
 | 0,j,xs,h,hl=>by
  simp only [yas,tz,wF,yd] at h;subst h;rw [xj (by rw [hl];simp)]
  simp [az,aG]
 | k+1,j,xs,h,hl=>by
  rw [vQ,vU] at h
  cases h2:DataW.trod enc P w 0 (fun _=>true) held bn e ((cs.drop (j*sz)).take sz) with
  | none=>simp [h2] at h
  | some x=>
   cases h3:(xW (j+1) k).mapM (fun i=>DataW.trod enc P w 0 (fun _=>true) held bn e ((cs.drop (i*sz)).take sz)) with
   | none=>simp [h2,h3] at h
   | some ys=>
    simp only [h2,h3,xI,wZ,wF,yd] at h;subst h;obtain ⟨d,ps⟩:=x;obtain ⟨g1,g2,g3⟩:=IH _ d ps h2;obtain ⟨k1,k2⟩:=afv IH k (j+1) ys h3 (by rw [hl];congr 1;omega)
    have e:cs.drop (j*sz)=(cs.drop (j*sz)).take sz++cs.drop ((j+1)*sz):=by rw [wI,Nat.one_mul,<-vH];exact (xS _ _).symm
    rw [e];exact ⟨lA g1 k1,KV g2 k2⟩
def ab5 (hS:∀b,b<w.heap.size->S b):∀(n bn:Nat) (t:yD) (cs:List yf) (d:xq H) (ps:List wb),flat P n t=true->DataW.trod enc P w 0 (fun _=>true) held bn t cs=some (d,ps)->
  az af m S w (cQ P n t d) cs/\aG (cQ P n t d)=true/\cs.length=P.cellsOf t
 | 0,bn,t,cs,d,ps,hf,h=>by simp [flat] at hf
 | n+1,0,t,cs,d,ps,hf,h=>by simp [DataW.trod] at h
 | n+1,bn+1,t,cs,d,ps,hf,h=>by
  have IH:=ab5 hS n bn;unfold DataW.trod at h;simp only [flat] at hf
  split at h
  ·rename_i hu;simp only [hu] at hf;simp only [yd,yj] at h;obtain ⟨rfl,rfl⟩:=h;simp only [cQ,hu];exact ⟨by simp [az,ah],by simp [aG,aZ],by rw [ym hf];rfl⟩
  ·rename_i hu;simp only [hu] at hf
   split at h
   ·rename_i hk;simp only [yd,yj] at h;obtain ⟨rfl,rfl⟩:=h;simp only [cQ,hu];refine ⟨?_,by simp [aG,aZ],by rw [ym hf];rfl⟩
    rw [hk.1];simp [az,ah]
   ·cases h
  ·rename_i hu;simp only [hu] at hf
   split at h
   ·rename_i hk;simp only [yd,yj] at h;obtain ⟨rfl,rfl⟩:=h;simp only [cQ,hu];refine ⟨?_,by simp [aG,aZ],by rw [ym hf];rfl⟩
    rw [hk.1];simp [az,ah]
   ·cases h
  ·rename_i hu;simp only [hu] at hf
   split at h
   ·simp only [yd,yj] at h;obtain ⟨rfl,rfl⟩:=h;simp only [cQ,hu];refine ⟨?_,by simp [aG,aZ],by rw [ym hf];rfl⟩
    simp only [az,ah];exact ⟨_,_,rfl,⟨_,rfl,rfl⟩,rfl⟩
   ·cases h
  ·rename_i hu;simp [hu] at hf
  ·rename_i hu;simp [hu] at hf
  ·rename_i hu;simp only [hu,ye] at hf;simp only [yd,yj] at h;obtain ⟨rfl,rfl⟩:=h;simp only [cQ,hu];exact ⟨by simp [az,ah],by simp [aG,aZ],by rw [ym hf.1];rfl⟩
  ·rename_i e a len cap hu;simp only [hu,ye] at hf;obtain ⟨f1,f2,f3⟩:=hf;have eh:=sf.1 f2;simp only at h
   split at h
   case isFalse=>cases h
   rename_i hc;simp only [xA] at h
   cases h1:(xC len).mapM fun i=>(w.cells? 0 (a.add (i*P.cellsOf e)) (P.cellsOf e)).bind (DataW.trod enc P w 0 (fun _=>true) held bn e) with
   | none=>rw [h1] at h;simp at h
   | some jg=>
    cases h2:(xC (cap-len)).mapM fun j=>(w.cells? 0 (a.add ((len+j)*P.cellsOf e)) (P.cellsOf e)).bind (DataW.trod enc P w 0 (fun _=>true) held bn e) with
    | none=>rw [h1] at h;simp [h2] at h
    | some rest=>
     rw [h1] at h;simp only [xI,h2,wD,yd,yj] at h;obtain ⟨rfl,rfl⟩:=h;have hIH:=fun cs d ps h=>IH e cs d ps f3 h
     rw [tQ] at h1 h2;obtain ⟨k1,k2,k3,k4,k5⟩:=Qb (af:=af) (m:=m) (S:=S) eh hIH len 0 jg h1;have hrl:rest.length=cap-len:=by rw [K6 h2];simp
     have gI:cap≠0->a.spot=none:=by
      intro W5;rcases xn len with h0 | h0
      ·subst h0;simp only [yg,Nat.sub_zero] at h2;obtain ⟨_,_,_,_,q5⟩:=Qb (af:=af) (m:=m) (S:=S) eh hIH cap 0 rest h2;exact (q5 (by omega)).resolve_right (by omega)
      ·exact (k5 h0).resolve_right (by omega)
     simp only [cQ,hu,yk];refine ⟨?_,by simp [aG,aZ],by rw [ym f1];rfl⟩
     simp only [az];refine ⟨_,_,rfl,?_,rfl⟩;simp only [ah];by_cases W5:cap=0
     ·subst W5;have ko:len=0:=by omega
      subst ko;have he:jg=[]:=yC k4;subst he;exact .inr ⟨a,rfl,rfl,rfl⟩
     ·obtain ⟨b,o,sp⟩:=a;have gI:=gI W5;simp only at gI;subst gI;refine .inl ⟨b,o,cap,by rw [k4],by omega,fun hx=>?_,?_,k2,by simpa using k1⟩
      ·have:rest.length=0:=by simpa using hx
       omega
      ·generalize hg:((jg.map (·.1)).flatMap fun x=>cQ P n e x)=l at k1
       cases l with
       | nil=>exact .inl rfl
       | cons c l=>exact .inr (hS b (aqa k1))
  ·rename_i rH x1 J8 fs hu;simp only [hu] at hf
   split at h
   case isFalse=>cases h
   rename_i hlen
   cases h1:fs.toList.mapM fun f=>DataW.trod enc P w 0 (fun _=>true) held bn f.type ((rH.drop f.offset).take (P.cellsOf f.type)) with
   | none=>rw [h1] at h;simp at h
   | some xs=>
    rw [h1] at h;simp only [wD,yd,yj] at h;obtain ⟨rfl,rfl⟩:=h;obtain ⟨k1,k2⟩:=aaA hlen (fun t cs d ps hf h=>IH t cs d ps hf h) fs.toList 0 xs hf h1;simp only [cQ,hu];exact ⟨by simpa using k1,k2,hlen⟩
  ·rename_i rH x1 J8 k e hu;simp only [hu,ye] at hf;obtain ⟨f1,f2⟩:=hf;have f1:=ym f1
   split at h
   case isFalse=>cases h
   rename_i hlen
   cases h1:(xC k).mapM fun i=>DataW.trod enc P w 0 (fun _=>true) held bn e ((rH.drop (i*P.cellsOf e)).take (P.cellsOf e)) with
   | none=>rw [h1] at h;simp at h
   | some xs=>
    rw [h1] at h;simp only [wD,yd,yj] at h;obtain ⟨rfl,rfl⟩:=h;rw [tQ] at h1;obtain ⟨k1,k2⟩:=afv (af:=af) (m:=m) (S:=S) (fun cs d ps h=>IH e cs d ps f2 h) k 0 xs h1 (by rw [hlen,f1];simp)
    simp only [cQ,hu];exact ⟨by simpa using k1,k2,hlen⟩
  all_goals first
   | (cases h;done)
   | (simp_all;done)
def kM (P:y8) (n:Nat) (t:yD) (d:xq H):AV:=
 match P.underlying t with
 | some (.struct _) | some (.array _ _)=> .agg (cQ P n t d)
 | _=>(cQ P n t d).headD .undef
def ar4 (hS:∀b,b<w.heap.size->S b) {n base:Nat} {t:yD} {v:yf} {d:xq H} {ps:List wb} (hf:flat P n t=true) (h:DataW.Trod enc P w 0 (fun _=>true) held t v d ps)
  (hv:Value.okWide P w .any base t v):ah af m S w (kM P n t d) v/\aZ (kM P n t d)=true:=by
 obtain ⟨bn,h⟩:=h;obtain ⟨h1,h2,h3⟩:=ab5 (af:=af) (m:=m) hS n bn t _ d ps hf h;have one:v.cells=#[v]->(∀fs,P.underlying t≠some (.struct fs))->(∀k e,P.underlying t≠some (.array k e))->ah af m S w (kM P n t d) v/\aZ (kM P n t d)=true:=by
  intro hc Fk hna;have e:kM P n t d=(cQ P n t d).headD .undef:=by
   unfold kM
   grind
  rw [e];rw [hc] at h1;generalize cQ P n t d=l at h1 h2
  cases l with
  | nil=>simp [az] at h1
  | cons x l=>
   simp only [az] at h1;simp only [aG,ye] at h2
   grind
 cases n with
 | zero=>simp [flat] at hf
 | succ n=>
  unfold Value.okWide at hv;simp only [flat] at hf
  cases hu:P.underlying t with
  | none=>simp [hu] at hf
  | some ty=>
   rw [hu] at hv hf;cases ty<;>simp only [Bool.false_eq_true] at hf hv
   case struct fs=>
    obtain ⟨cs,rfl,_,_⟩:=hv;have e:kM P (n+1) t d= .agg (cQ P (n+1) t d):=by simp only [kM,hu]
    rw [e];exact ⟨by simp only [ah];exact ⟨cs,rfl,h1⟩,by simpa only [aZ] using h2⟩
   case array k e=>
    obtain ⟨cs,rfl,_,_⟩:=hv;have e:kM P (n+1) t d= .agg (cQ P (n+1) t d):=by simp only [kM,hu]
    rw [e];exact ⟨by simp only [ah];exact ⟨cs,rfl,h1⟩,by simpa only [aZ] using h2⟩
   all_goals
    refine one ?_ (by simp [hu]) (by simp [hu])
    cases v with
    | agg cs=>exfalso;simp only [Cell.okWide,Cell.ok,hu] at hv
    | _=>rfl
def sD (P:y8) (n:Nat):List yD->List (xq H)->List AV
 | t::ts,d::ds=>kM P n t d::sD P n ts ds
 | _,_=>[]
def ab6 (hS:∀b,b<w.heap.size->S b) {n base:Nat}:∀{ts:List yD} {vs:List yf} {ds:List (xq H)} {ps:List wb},ts.all (flat P n)=true->DataW.TrodAll enc P w 0 (fun _=>true) held ts vs ds ps->
  (∀(j:Nat) t v,ts[j]? =some t->vs[j]? =some v->Value.okWide P w .any base t v)->az af m S w (sD P n ts ds) vs/\aG (sD P n ts ds)=true
 | [],[],[],_,_,_,_=>by simp [sD,az,aG]
 | t::ts,v::vs,d::ds,ps,hf,h,hv=>by
  simp only [yae,ye] at hf;obtain ⟨p,q,h1,h2,_⟩:=h;obtain ⟨a1,a2⟩:=ar4 (af:=af) (m:=m) hS hf.1 h1 (hv 0 t v rfl rfl);obtain ⟨b1,b2⟩:=ab6 hS hf.2 h2 (fun j t v h1 h2=>hv (j+1) t v h1 h2);simp only [sD,az,aG,ye]
  grind
 | [],_::_,_,_,_,h,_=>by simp [DataW.TrodAll] at h
 | [],[],_::_,_,_,h,_=>by simp [DataW.TrodAll] at h
 | _::_,[],_,_,_,h,_=>by simp [DataW.TrodAll] at h
 | _::_,_::_,[],_,_,h,_=>by simp [DataW.TrodAll] at h
end
end
section
open Go
section
variable {H:Type} {enc:yD×yf->H} {P:y8} {w w':yh} {held:Bool} {sp:Nat->Bool}
def am9 (hs:∀b,b<w.heap.size->w'.heap[b]? =w.heap[b]?) {a:ug} {u:yf} (h:w.cell? a=some u):w'.cell? a=some u:=by
 have hb:a.block<w.heap.size:=by
  unfold World.cell? at h
  cases hq:w.heap[a.block]? with
  | none=>simp [hq] at h
  | some o=>exact (xm.1 hq).1
 unfold World.cell? at h ⊢;rw [hs _ hb];exact h
def amF (hs:∀b,b<w.heap.size->w'.heap[b]? =w.heap[b]?) {base:Nat} {a:ug} {n:Nat} {us:List yf} (h:w.cells? base a n=some us):w'.cells? base a n=some us:=by
 unfold World.cells? at h ⊢
 split at h
 ·rename_i hb;rw [yE hb];exact mapM_carry h (fun x y _ _ hx=>am9 hs hx)
 ·cases h
def ar5 {a:ug} {n:Nat} (h:0<n):MemPlace.cell a.block (a.off+0)∈MemPlace.row a n:=by
 unfold MemPlace.row;exact List.mem_map.2 ⟨0,List.mem_range.2 h,rfl⟩
def aaB (hs:∀b,b<w.heap.size->w'.heap[b]? =w.heap[b]?):∀(n bn:Nat) (t:yD) (cs:List yf) (d:xq H) (ps:List wb),flat P n t=true->DataW.trod enc P w 0 (fun _=>true) held bn t cs=some (d,ps)->
  (∀p,p∈ps->sp p.block=true)->DataW.trod enc P w' 0 sp held bn t cs=some (d,ps)
 | 0,bn,t,cs,d,ps,hf,h,hp=>by simp [flat] at hf
 | n+1,0,t,cs,d,ps,hf,h,hp=>by simp [DataW.trod] at h
 | n+1,bn+1,t,cs,d,ps,hf,h,hp=>by
  have IH:=aaB hs n bn;have elem:∀{e:yD} {a:ug} {y:xq H×List wb},flat P n e=true->(w.cells? 0 a (P.cellsOf e)).bind (DataW.trod enc P w 0 (fun _=>true) held bn e)=some y->(∀p,p∈y.2->sp p.block=true)->
    (w'.cells? 0 a (P.cellsOf e)).bind (DataW.trod enc P w' 0 sp held bn e)=some y:=by
   intro e a y he h hq
   cases h1:w.cells? 0 a (P.cellsOf e) with
   | none=>simp [h1] at h
   | some us=>
    rw [h1] at h;rw [amF hs h1];simp only [xI] at h ⊢;obtain ⟨d,ps⟩:=y;exact IH e us d ps he h hq
  unfold DataW.trod at h ⊢;simp only [flat] at hf
  split at h
  ·exact h
  ·exact h
  ·exact h
  ·exact h
  ·rename_i hu;simp [hu] at hf
  ·rename_i hu;simp [hu] at hf
  ·exact h
  ·rename_i e a len cap hu;simp only [hu,ye] at hf;obtain ⟨f1,f2,f3⟩:=hf;have eh:=sf.1 f2;simp only at h ⊢
   split at h
   case isFalse=>cases h
   rename_i hc;rw [yE hc];simp only [xA] at h
   cases h1:(xC len).mapM fun i=>(w.cells? 0 (a.add (i*P.cellsOf e)) (P.cellsOf e)).bind (DataW.trod enc P w 0 (fun _=>true) held bn e) with
   | none=>rw [h1] at h;simp at h
   | some jg=>
    cases h2:(xC (cap-len)).mapM fun j=>(w.cells? 0 (a.add ((len+j)*P.cellsOf e)) (P.cellsOf e)).bind (DataW.trod enc P w 0 (fun _=>true) held bn e) with
    | none=>rw [h1] at h;simp [h2] at h
    | some rest=>
     rw [h1] at h;simp only [xI,h2,wD,yd,yj] at h;obtain ⟨rfl,rfl⟩:=h;have k1:((xC len).mapM fun i=>(w'.cells? 0 (a.add (i*P.cellsOf e)) (P.cellsOf e)).bind (DataW.trod enc P w' 0 sp held bn e))=some jg:=
      mapM_carry h1 (fun x y _ hy hx=>elem f3 hx (fun p hq=>hp p (vn _ (uf.2 ⟨y,uA _ hy,hq⟩))))
     have k2:((xC (cap-len)).mapM fun j=>(w'.cells? 0 (a.add ((len+j)*P.cellsOf e)) (P.cellsOf e)).bind (DataW.trod enc P w' 0 sp held bn e))=some rest:=
      mapM_carry h2 (fun x y _ hy hx=>elem f3 hx (fun p hq=>hp p (vn _ (uf.2 ⟨y,vn _ hy,hq⟩))))
     have hr:(if sp a.block=true then (xC (cap-len)).mapM fun j=>(w'.cells? 0 (a.add ((len+j)*P.cellsOf e)) (P.cellsOf e)).bind (DataW.trod enc P w' 0 sp held bn e) else some [])=some rest:=by
      by_cases gI:sp a.block=true
      ·rw [yE gI];exact k2
      ·rw [yr gI];have h0:¬0<(jg.length+rest.length)*P.cellsOf e:=fun h0=>gI (hp _ (uA _ (ar5 h0)))
       have hz:jg.length+rest.length=0:=by
        rcases xn (jg.length+rest.length) with h | h
        ·exact h
        ·exact (h0 (ybt h eh)).elim
       have:rest=[]:=yC (by omega)
       rw [this]
     rw [k1];simp only [xI];rw [hr];rfl
  ·rename_i rH x1 J8 fs hu;simp only [hu] at hf
   split at h
   case isFalse=>cases h
   rename_i hlen;rw [yE hlen]
   cases h1:fs.toList.mapM fun f=>DataW.trod enc P w 0 (fun _=>true) held bn f.type ((rH.drop f.offset).take (P.cellsOf f.type)) with
   | none=>rw [h1] at h;simp at h
   | some xs=>
    rw [h1] at h;simp only [wD,yd,yj] at h;obtain ⟨rfl,rfl⟩:=h;have oT:∀(r:List uK) (o:Nat),Dn P (fun u=>flat P n u) r o (P.cellsOf t)=true->∀f,f∈r->flat P n f.type=true:=by
     intro r
     induction r with
     | nil=>intro o _ f hm;cases hm
     | cons g r ih=>
      intro o hq f hm;simp only [Dn,ye] at hq;rcases List.mem_cons.1 hm with rfl | hm
      ·exact hq.2.1
      ·exact ih _ hq.2.2 f hm
    have k1:(fs.toList.mapM fun f=>DataW.trod enc P w' 0 sp held bn f.type ((rH.drop f.offset).take (P.cellsOf f.type)))=some xs:=
     mapM_carry h1 (fun f y hm hy hx=>IH _ _ y.1 y.2 (oT _ _ hf f hm) hx (fun p hq=>hp p (uf.2 ⟨y,hy,hq⟩)))
    rw [k1];rfl
  ·rename_i rH x1 J8 k e hu;simp only [hu,ye] at hf
   split at h
   case isFalse=>cases h
   rename_i hlen;rw [yE hlen]
   cases h1:(xC k).mapM fun i=>DataW.trod enc P w 0 (fun _=>true) held bn e ((rH.drop (i*P.cellsOf e)).take (P.cellsOf e)) with
   | none=>rw [h1] at h;simp at h
   | some xs=>
    rw [h1] at h;simp only [wD,yd,yj] at h;obtain ⟨rfl,rfl⟩:=h;have k1:((xC k).mapM fun i=>DataW.trod enc P w' 0 sp held bn e ((rH.drop (i*P.cellsOf e)).take (P.cellsOf e)))=some xs:=
     mapM_carry h1 (fun i y _ hy hx=>IH _ _ y.1 y.2 hf.2 hx (fun p hq=>hp p (uf.2 ⟨y,hy,hq⟩)))
    rw [k1];rfl
  all_goals first
   | (cases h;done)
   | (simp_all;done)
def ZN (hs:∀b,b<w.heap.size->w'.heap[b]? =w.heap[b]?) {n:Nat}:∀{ts:List yD} {vs:List yf} {ds:List (xq H)} {ps:List wb},ts.all (flat P n)=true->DataW.TrodAll enc P w 0 (fun _=>true) held ts vs ds ps->
  (∀p,p∈ps->sp p.block=true)->DataW.TrodAll enc P w' 0 sp held ts vs ds ps
 | [],[],[],ps,_,h,_=>by simpa only [DataW.TrodAll] using h
 | t::ts,v::vs,d::ds,ps,hf,h,hp=>by
  simp only [yae,ye] at hf;obtain ⟨p,q,⟨bn,h1⟩,h2,rfl⟩:=h;exact ⟨p,q,⟨bn,aaB hs n bn t _ d p hf.1 h1 (fun x hx=>hp x (uA _ hx))⟩,ZN hs hf.2 h2 (fun x hx=>hp x (vn _ hx)),rfl⟩
 | [],_::_,_,_,_,h,_=>by simp [DataW.TrodAll] at h
 | [],[],_::_,_,_,h,_=>by simp [DataW.TrodAll] at h
 | _::_,[],_,_,_,h,_=>by simp [DataW.TrodAll] at h
 | _::_,_::_,[],_,_,h,_=>by simp [DataW.TrodAll] at h
end
end
section
open Go Go.ChangeShapes Go.WideShapes
section
variable {H:Type} {enc:yD×yf->H} {P:y8} {W W':yh}
def aof (hc:Calm W W') (may:wb->Prop):W.keptBut W' may:=by
 refine ⟨hc.os,hc.output,fun i hi=>?_⟩;rw [hc.same i hi]
 cases hq:W.heap[i]? with
 | none=>rfl
 | some o=>cases o<;>simp
def amG (hc:Calm W W') {b off:Nat} (hb:b<W.heap.size):W'.frozen? ⟨b,off,none⟩=W.frozen? ⟨b,off,none⟩:=by
 unfold World.frozen?;simp only;rw [hc.same b hb]
def aqb {fn:Func} {s:ybz} {apart fresh handsOn again:Bool} {args:Array yf} {ds gs:List (xq H)} {before:List wb} {n:Nat} {tb:yD}
  (hW:DataW.Whole enc P fn.params.toList s.vars apart W args.toList ds gs before) (hv:s.vars=[]) (Mr:fn.params.toList.all (flat P n)=true) (hc:Calm W W')
  (kC:s.fn H (ds++gs)={results:=[.lit (.bool true)],args:=ds}) (ES:fn.resultTypes=#[tb]) (jG:P.underlying tb=some .bool):
  s.post enc P fn apart fresh handsOn again W args (.bool true) W':=by
 have aW:=hW.lt;have J9:=hW;obtain ⟨p,q,hA,hV,hpq,hz,hn⟩:=hW;rw [hv] at hV;have hq:gs=[]/\q=[]:=by
  cases gs with
  | nil=>exact ⟨rfl,by simpa only [DataW.TrodVars] using hV⟩
  | cons g gs=>simp [DataW.TrodVars] at hV
 obtain ⟨rfl,rfl⟩:=hq;have hbp:before=p:=by rw [hpq];simp
 subst hbp;have gh:∀sp:Nat->Bool,(∀p∈before,sp p.block=true)->DataW.TrodAll enc P W' 0 sp true fn.params.toList args.toList ds before:=fun sp h=>ZN hc.same Mr hA h
 have ahk:∀(b:Nat) (sp:Nat->Bool) (hd:Bool),DataW.TrodAll enc P W' b sp hd fn.resultTypes.toList ((Value.bool true).resultList fn.resultTypes.size) [.lit (.bool true)] []:=by
  intro b sp hd;rw [ES];refine ⟨[],[],⟨1,?_⟩,rfl,rfl⟩;simp [DataW.trod,jG,Value.cells]
 have hold:∀p∈before,(fun b=>decide (b<W.heap.size)) p.block=true:=fun p hp=>by simpa using aW p hp
 have ahl:∀sp:Nat->Bool,DataW.TrodVars enc P W' sp s.vars ([]:List (xq H)) []:=fun sp=>by rw [hv];rfl
 refine ⟨ds,[],before,[],before,[],J9,by rw [kC];exact ahk _ _ _,by rw [kC];exact gh _ hold,by rw [kC];exact ahl _,aof hc _,fun _=>?_⟩
 refine ⟨?_,[.lit (.bool true)]++ds,[],[]++before++[],⟨[]++before,[],trodAll_append (gh _ (fun _ _=>rfl)) (ahk _ _ _),ahl _,rfl,?_,?_⟩,?_⟩
 ·intro j t r h1 h2;rw [ES] at h1 h2
  cases j with
  | zero=>
   simp only [List.getElem?_toArray,vm,yd] at h1;simp only [Value.resultList,List.size_toArray,yG,yO,xA,yg,vm,yd] at h2;subst h1;subst h2;simp [Value.okWide,jG,Cell.okWide,Cell.ok]
  | succ j=>simp at h1
 ·intro b off hp;have hp:MemPlace.cell b off∈before:=by simpa using hp
  rw [amG hc (b:=b) (aW _ hp)];exact hz b off hp
 ·intro ha
  have:=hn ha
  simpa using this
 ·intro p hp _;simpa using hp
def aog {O:bl} {n k:Nat} {fn:Func} {s:ybz} {apart fresh handsOn again:Bool} {base:Nat} {args:Array yf} {ds gs:List (xq H)} {before:List wb} {tb:yD}
  (hp:ef O n (sD O.P k fn.params.toList ds) (.bool true)) (pn:O.w0=W) (kC:O.P.funcs[O.af n]? =some fn) (hb:fn.body.isSome=true) (zu:fn.name≠ "runtime.NumGoroutine")
  (aO:∀(j:Nat) t v,fn.params[j]? =some t->args[j]? =some v->Value.okWide O.P W .any base t v)
  (hW:DataW.Whole enc O.P fn.params.toList s.vars apart W args.toList ds gs before) (hv:s.vars=[]) (Mr:fn.params.toList.all (flat O.P k)=true)
  (hfs:s.fn H (ds++gs)={results:=[.lit (.bool true)],args:=ds}) (ES:fn.resultTypes=#[tb]) (jG:O.P.underlying tb=some .bool):
  Calls O.P (O.af n) args W fun e W'=>∃v,e= .returned v/\s.post enc O.P fn apart fresh handsOn again W args v W':=by
 have hA:=hW;obtain ⟨p,q,hA,_⟩:=hA;obtain ⟨h1,h2⟩:=ab6 (af:=O.af) (m:=eI) (S:=fun b=>b<W.heap.size) (fun b hb=>hb) Mr hA (fun j t v a b=>aO j t v (by simpa using a) (by simpa using b));have hi:=hp W (fun b=>b<W.heap.size) args ⟨fun b _=>by rw [pn],by rw [pn];exact yo _⟩ (fun b hb=>hb) h1 h2
 have key:∀e W',abQ O W (fun b=>b<W.heap.size) (.bool true) e W'->∃v,e= .returned v/\s.post enc O.P fn apart fresh handsOn again W args v W':=by
  rintro e W' ⟨u,S',rfl,hc,_,_,_,hr⟩;simp only [mI,gO,ah] at hr;obtain ⟨_,_,hu,_⟩:=hr;subst hu;exact ⟨_,rfl,aqb hW hv Mr hc hfs ES jG⟩
 rcases hi with ⟨_,hi⟩ | ⟨u,w',hi,_⟩
 ·exact callsIn_wide.1 (hi.mono key)
 ·rw [Ln kC hb zu] at hi;cases hi
end
end
section
namespace J1
open Go Go.Proofs
noncomputable def O (W:yh):bl:=⟨Tryz.prog,VE.aD,sT rL.af,VE.prog,Mq rL.b5 rL.hd,W⟩
def abk {w:yh} {k:Nat} {os:Array Go.Obj}:Calm w (Go.Sort.grow (w.drewN k) os):=GW (Lib.below_grow w.heap.size w (yo _) k os)
def ab7 {W w:yh} (h:Lib.TabIs Tryz.prog W "internal/strconv.uint64pow10" .u64 Lib.pow10Tab) (hg:Al (O W) w):Lib.TabIs Tryz.prog w "internal/strconv.uint64pow10" .u64 Lib.pow10Tab:=by
 unfold Lib.TabIs World.var? at h ⊢
 cases hn:Tryz.prog.globalNamed "internal/strconv.uint64pow10" with
 | none=>rw [hn] at h;exact h
 | some g=>
  rw [hn] at h;simp only [xI] at h ⊢;have hb:g<W.heap.size:=by
   cases hq:W.heap[g]? with
   | none=>rw [hq] at h;cases h
   | some o=>exact (xm.1 hq).1
  rw [hg.1 g hb];exact h
def azM:∀args w,(callFunc 129 args).run Tryz.prog w= .ok (.enter 129 args) w:=enters_of Tryz.func129 (by kernel_rfl) rfl
def azN:∀args w,(callFunc 154 args).run Tryz.prog w= .ok (.enter 154 args) w:=enters_of Tryz.func154 (by kernel_rfl) rfl
def azO:∀args w,(callFunc 202 args).run Tryz.prog w= .ok (.enter 202 args) w:=enters_of Tryz.func202 (by kernel_rfl) rfl
def azP:∀args w,(callFunc 203 args).run Tryz.prog w= .ok (.enter 203 args) w:=enters_of Tryz.func203 (by kernel_rfl) rfl
def azQ:∀args w,(callFunc 204 args).run Tryz.prog w= .ok (.enter 204 args) w:=enters_of Tryz.func204 (by kernel_rfl) rfl
def azR:∀args w,(callFunc 178 args).run Tryz.prog w= .ok (.enter 178 args) w:=enters_of Tryz.func178 (by kernel_rfl) rfl
def azS:∀args w,(callFunc 182 args).run Tryz.prog w= .ok (.enter 182 args) w:=enters_of Tryz.func182 (by kernel_rfl) rfl
def azT:∀args w,(callFunc 183 args).run Tryz.prog w= .ok (.enter 183 args) w:=enters_of Tryz.func183 (by kernel_rfl) rfl
def azU:∀args w,(callFunc 184 args).run Tryz.prog w= .ok (.enter 184 args) w:=enters_of Tryz.func184 (by kernel_rfl) rfl
def azV:∀args w,(callFunc 192 args).run Tryz.prog w= .ok (.enter 192 args) w:=enters_of Tryz.func192 (by kernel_rfl) rfl
def azW:∀args w,(callFunc 223 args).run Tryz.prog w= .ok (.enter 223 args) w:=enters_of Tryz.func223 (by kernel_rfl) rfl
def azX:∀args w,(callFunc 167 args).run Tryz.prog w= .ok (.enter 167 args) w:=enters_of Tryz.func167 (by kernel_rfl) rfl
def ar6 (b:Nat) (w:yh):(callFunc 198 #[.float .f64 b]).run Tryz.prog w= .ok (.value (.int .u64 b)) w:=by
 rw [run_callFunc_extern Tryz.func198 (by kernel_rfl) (by kernel_rfl) (by kernel_rfl) (e:=Extern.MathFloatBits.float64bits) (by kernel_rfl)];rfl
def amH (b:Nat) (w:yh):(callFunc 201 #[.int .u64 b]).run Tryz.prog w= .ok (.value (.float .f64 b)) w:=by
 rw [run_callFunc_extern Tryz.func201 (by kernel_rfl) (by kernel_rfl) (by kernel_rfl) (e:=Extern.MathFloatBits.float64frombits) (by kernel_rfl)];rfl
def ayy (W:yh) (n:Nat) (sp:List AV->Option AV):Prop:=∀aq r,sp aq=some r->ef (O W) n aq r
section
variable {W:yh} {m:Int} (hm:W.cell? ⟨1,0,none⟩=some (.int .i64 m)) (ht:Lib.TabIs Tryz.prog W "internal/strconv.uint64pow10" .u64 Lib.pow10Tab)
include hm ht
def avH:aih.lf (ayy W):=
 (Tr.jf (ap1 (O:=O W) (f:=184) (by rfl) azU (fun s z w hl h=>(Tryz.strconv_Atoi s z hl h w).mono fun _ _ ⟨h1,t,h2⟩=>⟨h1,h2▸GW (Lib.bytesWorld_below _ _ _)⟩))
  (Tr.jf (am7 (O:=O W) (f:=204) (by rfl) azQ Tryz.strings_Repeat)
  (Tr.jf (ap0 (O:=O W) (f:=202) (by rfl) azO (fun z w h0 h1 hg=>(Tryz.strconv_Itoa z h0 h1 w (ab7 ht hg)).mono fun _ _ ⟨h1,k,os,h2⟩=>⟨h1,h2▸abk⟩))
  (Tr.jf (al7 (O:=O W) (f:=154) (by rfl) azN Tryz.strings_CutPrefix)
  (Tr.jf (arO (O:=O W) (f:=129) (by rfl) azM (a:=⟨1,0,none⟩) (m:=m) hm (fun s sep w hs hc=>Tryz.strings_Cut s sep m w hs hc))
  Tr.ix Tr.ix) Tr.ix) (Tr.jf (al4 (O:=O W) (f:=203) (by rfl) azP (fun z w hz hg=>(Tryz.alV z hz w (ab7 ht hg)).mono fun _ _ ⟨h1,k,os,h2⟩=>⟨h1,h2▸abk⟩))
  Tr.ix Tr.ix)) (Tr.jf (al8 (O:=O W) (f:=182) (by rfl) azS Tryz.strings_HasPrefix)
  (Tr.jf (an7 (O:=O W) (f:=178) (by rfl) azR (fun x y w hx hy=>Tryz.bits_Mul64 x y hx hy w))
  Tr.ix Tr.ix) (Tr.jf (al3 (O:=O W) (f:=183) (by rfl) azT Tryz.strings_TrimPrefix)
  Tr.ix Tr.ix))) (Tr.jf (aoa (O:=O W) (f:=209) (by rfl) (fun x y b w h=>Tryz.bits_Sub64 x y b h w))
  (Tr.jf (ap2 (O:=O W) (f:=223) (by rfl) azW (fun x w h0 h1=>Tryz.bits_LeadingZeros64 x w h0 h1))
  (Tr.jf (apZ (O:=O W) (f:=192) (by rfl) azV (fun s cs w hs rC ha=>Tryz.amk s cs w hs rC ha))
  Tr.ix Tr.ix) (Tr.jf (an9 (O:=O W) (f:=207) (by rfl) (fun x y c w h=>Tryz.bits_Add64 x y c h w))
  Tr.ix Tr.ix)) (Tr.jf (amu (O:=O W) (f:=198) (by rfl) ar6)
  (Tr.jf (an8 (O:=O W) (f:=167) (by rfl) azX (fun x w h0 h1=>Tryz.bits_Len64 x w h0 h1))
  Tr.ix Tr.ix) (Tr.jf (al0 (O:=O W) (f:=201) (by rfl) amH)
  Tr.ix Tr.ix))))
def ar7:eA (O W) where
 hint n f g h:=Tr.BB (p:=fun f g=>sT rL.af g=f) (PP rL.aul) h
 mixed:=by kernel_rfl
 prog n F h:=Tr.BB rL.ar2 h
 aD n sp aq r h hs:=Tr.BB (avH hm ht) h aq r hs
 Ek n sp hp ct aq v ap aY h:=by cases h
end
end J1
end
section
def b9:List Int->Int
 | []=>0
 | a::r=>if a=0 then b9 r else a
def amI {l:List Int} {i:Nat} (h:i<l.length):b9 (l.drop i)=if l[i]=0 then b9 (l.drop (i+1)) else l[i]:=by
 rw [yX h,b9]
def mK (lo hi:Int):List Int->Bool
 | []=>false
 | a::r=>if a<lo\/hi<a then true else mK lo hi r
def ahm (n:Nat) (lo hi:Int):List (List Int)->Int
 | []=>0
 | r::s=>if r.length≠n then 2 else if mK lo hi r=true then 3 else ahm n lo hi s
def aoh (s:List (List Int)):Int:=if s.length=0 then 12 else if 16<s.length then 5 else ahm s.length (-1000) 1000 s
def ab8 {lo hi:Int} {l:List Int} (h:mK lo hi l=false):∀i (cS:i<l.length),lo<=l[i]/\l[i]<=hi:=by
 induction l with
 | nil=>intro i cS;exact absurd cS (Nat.not_lt_zero _)
 | cons a r ih=>
  simp only [mK] at h
  grind
def aoi {lo hi:Int} {l:List Int} (h:mK lo hi l=false):∀i,mK lo hi (l.take i)=false:=by
 induction l with
 | nil=>intro i;simp [mK]
 | cons a r ih=>
  intro i;simp only [mK] at h
  split at h
  ·grind
  ·rename_i hc
   cases i with
   | zero=>simp [mK]
   | succ i=>simp only [List.take_succ_cons,mK,hc,xd,ih h i]
end
section
def dv:List Int->Nat
 | []=>0
 | a::r=>a.toNat+1000000000*dv r
def mr:∀(a b:List Int),dv (a++b)=dv a+1000000000^a.length*dv b
 | [],b=>by simp [dv]
 | x::a,b=>by
  simp only [xh,dv,mr a b,yG,xc,xt]
  grind
def n7 {l:List Int} (i:Nat):dv (l.take (i+1))=dv (l.take i)+1000000000^i*(l.getD i 0).toNat:=by
 by_cases h:i<l.length
 ·rw [xa h,mr,yI,xE (by omega)];simp [dv,yz,List.getElem?_eq_getElem h]
 ·rw [yN (by omega),yN (by omega)]
  grind
abbrev dg (l:List Int):Prop:=mK 0 999999999 l=false
def gM {a b:List Int}:dg (a++b)↔dg a/\dg b:=by
 induction a with
 | nil=>simp [dg,mK]
 | cons x a ih=>
  simp only [dg,xh,mK] at ih ⊢
  grind
def kK {x:Int}:dg [x]↔0<=x/\x<1000000000:=by
 simp only [dg,mK]
 grind
def gN {l:List Int} (h:dg l) (i:Nat):0<=l.getD i 0/\l.getD i 0<1000000000:=by
 by_cases hi:i<l.length
 ·have:=ab8 h i hi
  grind
 ·grind
def BG {l:List Int} (h:dg l) (i:Nat):dg (l.take i):=aoi h i
def jh:∀{l:List Int},dg l->dv l<1000000000^l.length
 | [],_=>by simp [dv]
 | x::l,h=>by
  have h':dg ([x]++l):=h;obtain ⟨h1,h2⟩:=gM.1 h';have h1:=kK.1 h1
  have:=jh h2
  simp only [dv,yG,xc];omega
def dK:List Int->List Int
 | []=>[]
 | a::r=>match dK r with | []=>if a=0 then [] else [a] | t::q=>a::t::q
def GY:∀l:List Int,dK (l++[0])=dK l
 | []=>rfl
 | a::l=>by simp only [xh,dK,GY l]
def KW {a:Int} (h:a≠0):∀l:List Int,dK (l++[a])=l++[a]
 | []=>by simp [dK,h]
 | b::l=>by
  simp only [xh,dK,KW h l]
  cases hq:l++[a] with
  | nil=>simp at hq
  | cons t q=>rfl
def r7:∀l:List Int,dv (dK l)=dv l
 | []=>rfl
 | a::l=>by
  have ih:=r7 l;simp only [dK,dv]
  split
  ·rename_i h;rw [h] at ih
   split
   ·rename_i h0;subst h0;simp [dv,<-ih]
   ·simp [dv,<-ih]
  ·rename_i t q h;rw [h] at ih;simp only [dv] at ih ⊢;omega
def zT:∀{l:List Int},dg l->dg (dK l)
 | [],_=>rfl
 | a::l,h=>by
  have h':dg ([a]++l):=h;obtain ⟨h1,h2⟩:=gM.1 h';have ih:=zT h2;simp only [dK]
  split
  ·grind
  ·rename_i t q hq;rw [hq] at ih
   exact (gM (a:=[a]) (b:=t::q)).2 ⟨h1,ih⟩
def K7:∀l:List Int,(dK l).length<=l.length
 | []=>yo _
 | a::l=>by
  have ih:=K7 l;simp only [dK]
  grind
def snoc {α:Type} (l:List α):l=[]\/∃m a,l=m++[a]:=by
 rcases List.eq_nil_or_concat l with h | ⟨m,a,h⟩
 ·grind
 ·grind
def amJ:∀(n:Nat) (l:List Int),l.length=n->dK (dK l)=dK l:=by
 intro n
 induction n with
 | zero=>intro l h;rw [yC h];rfl
 | succ n ih=>
  intro l h;rcases snoc l with rfl | ⟨m,a,rfl⟩
  ·rfl
  ·by_cases h0:a=0
   ·subst h0;rw [GY]
    grind
   ·rw [KW h0,KW h0]
def ana (l:List Int):dK (dK l)=dK l:=amJ _ l rfl
abbrev nz (l:List Int):Prop:=dK l=l
def DG (l:List Int):nz (dK l):=ana l
def Ms {l:List Int} (h:nz l) (hd:dg l) (h0:l≠[]):1000000000^(l.length-1)<=dv l:=by
 rcases snoc l with rfl | ⟨m,a,rfl⟩
 ·grind
 ·by_cases ha:a=0
  ·subst ha
   have:=K7 m
   have e:=congrArg ybA h;rw [GY] at e
   grind
  ·rw [mr]
   have:=kK.1 (gM.1 hd).2
   simp only [dv,yL,tK,tp,xD,yZ];have h1:1<=a.toNat:=by omega
   have:=yW (1000000000^m.length) h1
   omega
def afw {l:List Int} (h:nz l) (hd:dg l) (h0:dv l=0):l=[]:=by
 by_cases hl:l=[]
 ·grind
 ·have:=Ms h hd hl
  grind
def Ru {a b:List Int} (ha:dg a) (hb:nz b) (cC:dg b) (h:a.length<b.length):dv a<dv b:=by
 have h1:=jh ha;have h2:=Ms hb cC (fun e=>by subst e;simp at h);have h3:1000000000^a.length<=1000000000^(b.length-1):=xb (by decide) (by omega);omega
def dF (m n:Nat):Int:=if m<n then -1 else if n<m then 1 else 0
def agG {l:List Int} {i:Nat} (h:i<l.length):dv l=dv (l.take i)+1000000000^i*(l[i].toNat+1000000000*dv (l.drop (i+1))):=by
 have e:l=l.take i++l[i]::l.drop (i+1):=by simp_all
 have:dv l=dv (l.take i++l[i]::l.drop (i+1)):=congrArg dv e
 rw [this,mr,yI,xE (by omega)];rfl
def afx {a b:List Int} {i:Nat} (ha:dg a) (hb:dg b) (h1:i<a.length) (h2:i<b.length) (he:a.drop (i+1)=b.drop (i+1)) (h:a[i]<b[i]):dv a<dv b:=by
 rw [agG h1,agG h2,he];have hl:=jh (BG ha i);have g1:=ab8 ha i h1;have h3:a[i].toNat+1000000000*dv (b.drop (i+1))+1<=b[i].toNat+1000000000*dv (b.drop (i+1)):=by omega
 have:=yW (1000000000^i) h3
 grind
def Rv:∀{l:List Int} {j:Nat} {x:Int},j<l.length->dv (l.set j x)+1000000000^j*(l.getD j 0).toNat=dv l+1000000000^j*x.toNat
 | [],j,x,h=>by simp at h
 | a::l,0,x,_=>by simp [dv];omega
 | a::l,j+1,x,h=>by
  have ih:=Rv (l:=l) (j:=j) (x:=x) (by simpa using h);simp only [yad,dv,tX,xc]
  grind
def L7 {l:List Int} (h:dg l) {j:Nat} {x:Int} (hx:0<=x/\x<1000000000):dg (l.set j x):=by
 by_cases hj:j<l.length
 ·rw [List.set_eq_take_append_cons_drop,yE hj];have e:l=l.take (j+1)++l.drop (j+1):=(xS _ _).symm;have hd:dg (l.drop (j+1)):=by rw [e] at h;exact (gM.1 h).2
  exact gM.2 ⟨BG h j,(gM (a:=[x]) (b:=l.drop (j+1))).2 ⟨kK.2 hx,hd⟩⟩
 ·rw [List.set_eq_of_length_le (by omega)];exact h
def ab9 {l:List Int} {j m:Nat} {x:Int} (h:m≠j):(l.set j x).getD m 0=l.getD m 0:=by grind
def aqc {V0 V V' p q A X Y o c s:Nat} (hs:s=o+A*X+c) (bc:V'+p*q*o=V+p*q*(s%1000000000)) (hv:V+p*q*c=V0+p*(A*Y)):
  V'+p*(q*1000000000)*(s/1000000000)=V0+p*(A*(Y+q*X)):=by
 have e:=Nat.mod_add_div s 1000000000;have e2:p*q*s=p*q*(s%1000000000)+p*(q*1000000000)*(s/1000000000):=by
  conv=>lhs;rw [<-e]
  rw [xt,<-xk (p*q),<-xk p q]
 have e3:p*q*s=p*q*o+p*q*(A*X)+p*q*c:=by rw [hs,xt,xt]
 have e4:p*(A*(Y+q*X))=p*(A*Y)+p*q*(A*X):=by
  rw [xt,xt,xk p q,<-xk A q X,xB A q,xk q A X]
 omega
def aca (n:Nat):dv (yq n 0)=0:=by
 induction n with
 | zero=>rfl
 | succ n ih=>simp [wH,dv,ih]
def acb (n:Nat):dg (yq n 0):=by
 induction n with
 | zero=>rfl
 | succ n ih=>exact (gM (a:=[0]) (b:=yq n 0)).2 ⟨by decide,ih⟩
end
section
def bv (b:Nat):List Nat->Nat
 | []=>0
 | a::r=>a+b*bv b r
def lo (b:Nat) (l:List Nat):Prop:=∀x,x∈l->x<b
section
variable {b:Nat}
def Af (a:Nat):bv b [a]=a:=by simp [bv]
def qh:∀(l m:List Nat),bv b (l++m)=bv b l+b^l.length*bv b m
 | [],m=>by simp [bv]
 | x::l,m=>by
  simp only [xh,bv,qh l m,yG,xc,xt]
  grind
def gd {l:List Nat} {i:Nat} (h:i<l.length):l[i]=l.getD i 0:=by simp_all
def Rw {l:List Nat} {i:Nat} (h:l.length<=i):l.getD i 0=0:=by simp_all
def iO {l:List Nat} (i:Nat):bv b (l.take (i+1))=bv b (l.take i)+b^i*l.getD i 0:=by
 by_cases h:i<l.length
 ·rw [xa h,qh,yI,xE (by omega),Af,gd h]
 ·rw [yN (by omega),yN (by omega),Rw (by omega),xD,yZ]
def L8:lo b []:=fun _ h=>by simp at h
def K8 {l m:List Nat}:lo b (l++m)↔lo b l/\lo b m:=by
 constructor
 ·intro h;exact ⟨fun x hx=>h x (by simp [hx]),fun x hx=>h x (by simp [hx])⟩
 ·rintro ⟨h1,h2⟩ x hx;rcases List.mem_append.1 hx with h | h
  ·exact h1 x h
  ·exact h2 x h
def D6 {x:Nat}:lo b [x]↔x<b:=by simp [lo]
def gg (hb:0<b) {l:List Nat} (h:lo b l) (i:Nat):l.getD i 0<b:=by
 by_cases hi:i<l.length
 ·rw [<-gd hi];exact h _ (List.getElem_mem hi)
 ·grind
def z6 {l:List Nat} (h:lo b l) (i:Nat):lo b (l.take i):=fun x hx=>h x (List.mem_of_mem_take hx)
def afy {l:List Nat} (h:lo b l) (i:Nat):lo b (l.drop i):=fun x hx=>h x (List.mem_of_mem_drop hx)
def lK {l:List Nat} (h:lo b l) {i x:Nat} (hx:x<b):lo b (l.set i x):=fun y hy=>by
 rcases List.mem_or_eq_of_mem_set hy with h1 | h1
 ·exact h y h1
 ·omega
def D7 (hb:0<b) (n:Nat):lo b (yq n 0):=fun x hx=>by
 grind
def D8 (n:Nat):bv b (yq n 0)=0:=by
 induction n with
 | zero=>rfl
 | succ n ih=>simp [wH,bv,ih]
def BH (n m:Nat):(yq n (0:Nat)).getD m 0=0:=by grind
def lQ:∀{l:List Nat},lo b l->bv b l<b^l.length
 | [],_=>by simp [bv]
 | x::l,h=>by
  have h1:=h x (by simp);have h2:=lQ (l:=l) (fun y hy=>h y (by simp [hy]));simp only [bv,yG,xc,xB _ b]
  have:=yW b (show bv b l+1<=b^l.length from h2)
  grind
def ni:∀{l:List Nat} {i x:Nat},i<l.length->bv b (l.set i x)+b^i*l.getD i 0=bv b l+b^i*x
 | [],i,x,h=>by simp at h
 | a::l,0,x,_=>by simp [bv];omega
 | a::l,i+1,x,h=>by
  have ih:=ni (l:=l) (i:=i) (x:=x) (by simpa using h)
  have:=congrArg (fun t=>b*t) ih
  simp only [xt] at this;simp only [yad,bv,tX,xc,xB _ b,xk] at this ⊢;omega
def n8 {l:List Nat} {i m x:Nat} (h:i≠m):(l.set i x).getD m 0=l.getD m 0:=by simp_all
def anb {l:List Nat} {i x:Nat} (h:i<l.length):(l.set i x).getD i 0=x:=by simp_all
def Hf (l:List Nat) (i:Nat) (h:i<=l.length):bv b l=bv b (l.take i)+b^i*bv b (l.drop i):=by
 have:=qh (b:=b) (l.take i) (l.drop i)
 simp_all
def dL:List Nat->List Nat
 | []=>[]
 | a::r=>match dL r with | []=>if a=0 then [] else [a] | t::q=>a::t::q
def KX:∀l:List Nat,dL (l++[0])=dL l
 | []=>rfl
 | a::l=>by simp only [xh,dL,KX l]
def Dp {a:Nat} (h:a≠0):∀l:List Nat,dL (l++[a])=l++[a]
 | []=>by simp [dL,h]
 | b::l=>by
  simp only [xh,dL,Dp h l]
  cases hq:l++[a] with
  | nil=>simp at hq
  | cons t q=>rfl
abbrev fW (l:List Nat):Prop:=dL l=l
def anc:∀(n:Nat) (l:List Nat),l.length=n->∃i,i<=n/\dL l=l.take i/\fW (l.take i)/\bv b (l.take i)=bv b l:=by
 intro n
 induction n with
 | zero=>intro l h;rw [yC h];exact ⟨0,yo _,rfl,rfl,rfl⟩
 | succ n ih=>
  intro l h;rcases snoc l with rfl | ⟨m,a,rfl⟩
  ·grind
  ·have hm:m.length=n:=by simp_all
   by_cases h0:a=0
   ·subst h0;obtain ⟨i,h1,h2,h3,h4⟩:=ih m hm;have e:(m++[0]).take i=m.take i:=by grind
    refine ⟨i,by omega,by rw [KX,h2,e],by rw [e];exact h3,?_⟩
    rw [e,h4,qh];simp [bv]
   ·have e:(m++[a]).take (n+1)=m++[a]:=yN (by simp [hm]);exact ⟨n+1,yo _,by rw [e,Dp h0],by rw [e];exact Dp h0 m,by rw [e]⟩
def K9 (l:List Nat):∃i,i<=l.length/\dL l=l.take i/\fW (dL l)/\bv b (dL l)=bv b l:=by
 obtain ⟨i,h1,h2,h3,h4⟩:=anc (b:=b) l.length l rfl
 grind
def zU (l:List Nat):bv b (dL l)=bv b l:=by
 obtain ⟨_,_,_,_,h⟩:=K9 (b:=b) l;exact h
def zV (l:List Nat):fW (dL l):=by
 obtain ⟨_,_,_,h,_⟩:=K9 (b:=2) l;exact h
def zW {l:List Nat} (h:lo b l):lo b (dL l):=by
 obtain ⟨i,_,h2,_⟩:=K9 (b:=b) l;rw [h2];exact z6 h i
def aoj (l:List Nat):(dL l).length<=l.length:=by
 obtain ⟨i,_,h2,_⟩:=K9 (b:=2) l
 grind
def Lo {l:List Nat} (h:fW l) (h0:l≠[]):l.getD (l.length-1) 0≠0:=by
 rcases snoc l with rfl | ⟨m,a,rfl⟩
 ·grind
 ·intro ha
  have:a=0:=by
   grind
  subst this;have e:=congrArg ybA h;rw [KX] at e
  have:=aoj m
  grind
def Rx (hb:0<b) {l:List Nat} (h:fW l) (h0:l≠[]):b^(l.length-1)<=bv b l:=by
 rcases snoc l with rfl | ⟨m,a,rfl⟩
 ·grind
 ·have ha:=Lo h h0;simp [yz] at ha;rw [qh,Af];simp only [yL,tK,tp]
  have:=yW (b^m.length) (show 1<=a by omega)
  omega
def LK (hb:1<b) {l m:List Nat} (hl:lo b l) (hm:fW m) (h:l.length<m.length):bv b l<bv b m:=by
 have h1:=lQ hl;have h2:=Rx (b:=b) (by omega) hm (fun e=>by subst e;simp at h);have h3:b^l.length<=b^(m.length-1):=xb (by omega) (by omega);omega
def afz {l m:List Nat} (hl:lo b l) {i:Nat} (h1:i<l.length) (h2:i<m.length) (he:l.drop (i+1)=m.drop (i+1)) (h:l.getD i 0<m.getD i 0):bv b l<bv b m:=by
 rw [Hf l (i+1) (by omega),Hf m (i+1) (by omega),he,iO,iO]
 have:=lQ (z6 hl i)
 have:=yW (b^i) (show l.getD i 0+1<=m.getD i 0 from h)
 grind
def aok (hb:1<b) {l:List Nat} {k:Nat} (h:fW l) (hk:bv b l<b^k):l.length<=k:=by
 by_cases h0:l=[]
 ·grind
 ·have h1:=Rx (b:=b) (by omega) h h0;have h2:b^(l.length-1)<b^k:=we h1 hk
  have:=(Nat.pow_lt_pow_iff_right hb).1 h2
  omega
def aaC {V v1 v2 vr U u0 u1 u2 ur p t r:Nat} (hV:V=(v1*b+v2)*p+vr) (hU:U=((u0*b+u1)*b+u2)*p+ur) (hur:ur<p)
  (ht:t*v1+r=u0*b+u1) (h:r*b+u2<t*v2):U/V<=t-1:=by
 have h1:U<t*V:=by
  have e:t*((v1*b+v2)*p)=((t*v1)*b+t*v2)*p:=by
   grind
  have h2:((u0*b+u1)*b+u2)+1<=(t*v1)*b+t*v2:=by rw [<-ht,wI];omega
  have h3:=yT p h2;rw [hV,hU,xt,e]
  grind
 have p0:0<V:=by
  grind
 have:=(Nat.div_lt_iff_lt_mul p0).2 h1
 omega
def abl {V v1 v2 vr U u0 u1 u2 ur p t r:Nat} (hb:0<b) (hV:V=(v1*b+v2)*p+vr) (Ka:vr<p) (hU:U=((u0*b+u1)*b+u2)*p+ur) (eJ:0<v1) (dt:v2<b) (jG:t<b)
  (ht:t*v1+r=u0*b+u1) (h:b<=r\/t*v2<=r*b+u2):t<=U/V+1:=by
 have h2:t*v2<=r*b+u2:=by
  rcases h with h | h
  ·have:=Nat.mul_le_mul (uH jG) (uH dt)
   have:=yT b h
   omega
  ·exact h
 have h3:t*(v1*b+v2)<=(u0*b+u1)*b+u2:=by
  rw [xt,<-xk,<-ht,wI];omega
 have hp:0<p:=by omega
 have aHb:b<=v1*b:=Nat.le_mul_of_pos_left b eJ;have p0:0<V:=by
  have:=ybt (show 0<v1*b+v2 by omega) hp
  omega
 rcases xn t with h0 | h0
 ·grind
 ·obtain ⟨s,rfl⟩:∃s,t=s+1:=⟨t-1,by omega⟩;have h4:s*V<=U:=by
   have h5:V<=(v1*b+v2+1)*p:=by grind
   have h6:=yW s h5;have h7:s*(v1*b+v2+1)<=(s+1)*(v1*b+v2):=by
    grind
   have h8:=yT p (Nat.le_trans h7 h3)
   grind
  exact Nat.succ_le_succ ((tT p0).2 h4)
def PF {V v1 v2 vr U u0 u1 u2 ur p:Nat} (hV:V=(v1*b+v2)*p+vr) (hU:U=((u0*b+u1)*b+u2)*p+ur) (hur:ur<p) (zC:u2<b) (eJ:0<v1):U/V<=(u0*b+u1)/v1:=by
 by_cases p0:V=0
 ·grind
 ·refine (tT eJ).2 ?_;have h1:=Nat.div_mul_le_self U V;generalize U/V=q at h1 ⊢;have h2:q*v1*(b*p)<=q*V:=by
   rw [hV,xk]
   grind
  have h3:U<(u0*b+u1+1)*(b*p):=by
   have:(u0*b+u1)*b+u2+1<=(u0*b+u1+1)*b:=by grind
   have:=yT p this
   grind
  have h4:q*v1*(b*p)<(u0*b+u1+1)*(b*p):=by omega
  have:=tr h4
  omega
def abm {V v1 v2 vr U u0 u1 u2 ur p:Nat} (hV:V=(v1*b+v2)*p+vr) (hU:U=((u0*b+u1)*b+u2)*p+ur) (Ka:vr<p) (dt:v2<b) (h:U<b*V):u0<=v1:=by
 refine Nat.le_of_lt_succ ?_;have h1:V<(v1+1)*(b*p):=by
  have:v1*b+v2+1<=(v1+1)*b:=by grind
  have:=yT p this
  grind
 have h2:u0*(b*(b*p))<=U:=by
  grind
 have h3:=yW b (uH h1);have e:b*((v1+1)*(b*p))=(v1+1)*(b*(b*p)):=by grind
 rw [e] at h3;have h4:u0*(b*(b*p))<(v1+1)*(b*(b*p)):=we h2 (Nat.lt_of_lt_of_le h h3);exact tr h4
end
end
section
section
variable {P:aH} {L:Lib} {f:cy} {F:Nat->cy}
def A8 (f:cy) (F:Nat->cy):Prop:=∀c s r,f c s=some r->∃n,F n c s=some r
def Mon (F:Nat->cy):Prop:=∀n m,n<=m->Le (F n) (F m)
def KI (h:A8 f F) (n:Nat) (aq:List AV) (r:AV) (hr:bH P L f n aq=some r):∃k,bH P L (F k) n aq=some r:=by
 unfold bH at hr ⊢
 cases hL:L.pure n with
 | some sp=>exact ⟨0,by simpa only [hL] using hr⟩
 | none=>
  simp only [hL] at hr ⊢
  cases hP:P n with
  | none=>simp [hP] at hr
  | some G=>
   simp only [hP] at hr ⊢
   cases hf:f G.body ⟨eO 0 aq,[],0,0⟩ with
   | none=>simp [hf] at hr
   | some q=>
    obtain ⟨k,hk⟩:=h _ _ _ hf
    grind
def PQ (h:A8 f F) (hp:Hp) (ct:Nat) (n:Nat) (aq:List AV) (r:AV×Hp×Nat) (hr:gZ P L f hp ct n aq=some r):∃k,gZ P L (F k) hp ct n aq=some r:=by
 unfold gZ at hr ⊢
 cases hL:L.heap n with
 | some sp=>exact ⟨0,by simpa only [hL] using hr⟩
 | none=>
  simp only [hL] at hr ⊢
  cases hP:P n with
  | none=>simp [hP] at hr
  | some G=>
   simp only [hP] at hr ⊢
   cases hf:f G.body ⟨eO 0 aq,hp,ct,ct⟩ with
   | none=>simp [hf] at hr
   | some q=>
    obtain ⟨k,hk⟩:=h _ _ _ hf
    grind
def Z9 (h:A8 f F) (hm:Mon F) (hp:Hp) (ct:Nat) (l:Nat) (xs:List AV) (r:AV×Hp×Nat) (hr:mZ f hp ct l xs=some r):∃k,mZ (F k) hp ct l xs=some r:=by
 have key:∃k,∀g,Le (F k) g->mZ g hp ct l xs=some r:=by
  unfold mZ at hr
  cases hl:aB hp l with
  | none=>simp [hl] at hr
  | some o=>
   split at hr
   ·rename_i tm ps cJ body pe nK
    cases hb:qG tm ps xs with
    | none=>simp [hb] at hr
    | some cg=>
     simp only [hb] at hr
     cases h1:f cJ ⟨cg,hp,ct,ct⟩ with
     | none=>simp [h1] at hr
     | some q=>
      obtain ⟨k1,jB⟩:=h _ _ _ h1
      split at hr
      ·rename_i s1 So
       split at hr
       ·rename_i jk CI AS B8 zj ah9
        cases h2:f body ⟨s1.tm,bc s1.hp l (.lp jk CI AS B8 1 zj),s1.ct,s1.ct⟩ with
        | none=>simp [h2] at hr
        | some q2=>
         obtain ⟨k2,fw⟩:=h _ _ _ h2;refine ⟨max k1 k2,fun g hg=>?_⟩;have e1:=hg _ _ _ (hm k1 _ (vP k1 k2) _ _ _ jB);have e2:=hg _ _ _ (hm k2 _ (vC k1 k2) _ _ _ fw);unfold mZ
         grind
       ·simp at hr
      ·simp at hr
   ·simp at hr
 obtain ⟨k,hk⟩:=key;exact ⟨k,hk _ (fun _ _ _ h=>h)⟩
def aaD (h:A8 f F) (hm:Mon F) (hp:Hp) (ct:Nat) (m:Md) (fv:AV) (xs:List AV) (r:AV×Hp×Nat) (hr:ez P L f hp ct m fv xs=some r):∃k,ez P L (F k) hp ct m fv xs=some r:=by
 unfold ez at hr ⊢
 split at hr
 ·rename_i n first cap
  cases m with
  | pure=>
   cases hz:cM deep hp (first++(xs++cap)) with
   | none=>simp [hz] at hr
   | some q=>
    simp only [hz] at hr ⊢
    cases hc:bH P L f n q.1 with
    | none=>simp [hc] at hr
    | some u=>
     obtain ⟨k,hk⟩:=KI h n q.1 u hc
     grind
  | own=>
   cases hz:cM deep hp (first++(xs++cap)) with
   | none=>simp [hz] at hr
   | some q=>
    simp only [hz] at hr ⊢
    cases hc:bH P L f n q.1 with
    | none=>simp [hc] at hr
    | some u=>
     obtain ⟨k,hk⟩:=KI h n q.1 u hc
     grind
  | heap=>exact PQ h _ _ _ _ _ hr
  | dyn=>
   cases hz:aG (first++(xs++cap)) with
   | true=>
    simp only [hz,yB] at hr ⊢
    cases hc:bH P L f n (first++(xs++cap)) with
    | none=>simp [hc] at hr
    | some u=>
     obtain ⟨k,hk⟩:=KI h n _ u hc
     grind
   | false=>
    simp only [hz,yS] at hr ⊢;exact PQ h _ _ _ _ _ hr
 ·split at hr
  ·exact Z9 h hm _ _ _ _ _ hr
  ·exact Z9 h hm _ _ _ _ _ hr
  ·simp at hr
 ·simp at hr
def aqd (h:A8 f F) (hm:Mon F) (tm:Env) (hp:Hp) (ct:Nat) (o:Op) (r:AV×Hp×Nat) (hr:a8 P L f tm hp ct o=some r):∃k,a8 P L (F k) tm hp ct o=some r:=by
 unfold a8 at hr ⊢
 split at hr
 ·exact aaD h hm _ _ _ _ _ _ hr
 ·rename_i rs fv xs
  cases hc:ez P L f hp ct .dyn (aE tm fv) (dj tm xs) with
  | none=>simp [hc] at hr
  | some q=>
   obtain ⟨k,hk⟩:=aaD h hm _ _ _ _ _ _ hc
   grind
 all_goals exact ⟨0,by simpa only using hr⟩
def Qc (h:A8 f F) (hm:Mon F):∀(ops:List a7) (s s':St),dA P L f ops s=some s'->∃k,dA P L (F k) ops s=some s'
 | [],s,s',hr=>⟨0,by simpa only [dA] using hr⟩
 | ⟨d,gd,o⟩::r,s,s',hr=>by
  simp only [dA] at hr ⊢
  split at hr
  ·rename_i hw
   cases ho:a8 P L f s.tm s.hp s.ct o with
   | none=>simp [ho] at hr
   | some q=>
    obtain ⟨k1,jB⟩:=aqd h hm _ _ _ _ _ ho;simp only [ho] at hr;obtain ⟨k2,fw⟩:=Qc h hm r _ _ hr;refine ⟨max k1 k2,?_⟩;rw [abe (hm k1 _ (vP k1 k2)) _ _ _ _ _ jB];exact KS (hm k2 _ (vC k1 k2)) r _ _ fw
  ·rename_i hw;exact Qc h hm r _ _ hr
  ·simp at hr
def Bx (h:A8 f F) (hm:Mon F):∀(c:VC) (s:St) (r:Ex×St),bF P L f c s=some r->∃k,bF P L (F k) c s=some r
 | .skip,s,r,hr=>⟨0,by simpa only [bF] using hr⟩
 | .aJ ops,s,r,hr=>by
  simp only [bF] at hr ⊢
  cases ho:dA P L f ops s with
  | none=>simp [ho] at hr
  | some s'=>
   obtain ⟨k,hk⟩:=Qc h hm _ _ _ ho
   grind
 | .seq a b,s,r,hr=>by
  simp only [bF] at hr ⊢
  cases ha:bF P L f a s with
  | none=>simp [ha] at hr
  | some q=>
   obtain ⟨k1,jB⟩:=Bx h hm a s q ha;obtain ⟨ex,s1⟩:=q
   cases ex with
   | normal=>
    simp only [ha] at hr;obtain ⟨k2,fw⟩:=Bx h hm b s1 r hr;refine ⟨max k1 k2,?_⟩;rw [pz (hm k1 _ (vP k1 k2)) a s _ jB];exact pz (hm k2 _ (vC k1 k2)) b s1 r fw
   | ret=>exact ⟨k1,by rw [jB];simpa only [ha] using hr⟩
   | exit id=>exact ⟨k1,by rw [jB];simpa only [ha] using hr⟩
 | .cond x a b,s,r,hr=>by
  simp only [bF] at hr ⊢
  split at hr
  ·rename_i t ht
   cases t with
   | true=>simp only [yB] at hr ⊢;exact Bx h hm a s r hr
   | false=>simp only [yS] at hr ⊢;exact Bx h hm b s r hr
  ·simp at hr
 | .aF id a,s,r,hr=>by
  simp only [bF] at hr ⊢
  cases ha:bF P L f a s with
  | none=>simp [ha] at hr
  | some q=>
   obtain ⟨k,hk⟩:=Bx h hm a s q ha
   grind
 | .kp live,s,r,hr=>⟨0,by simpa only [bF] using hr⟩
 | .fz ts,s,r,hr=>⟨0,by simpa only [bF] using hr⟩
 | .loop live a,s,r,hr=>by
  simp only [bF] at hr ⊢
  cases ha:bF P L f a (aQ live s) with
  | none=>simp [ha] at hr
  | some q=>
   obtain ⟨k1,jB⟩:=Bx h hm a _ q ha;obtain ⟨ex,s1⟩:=q
   cases ex with
   | normal=>
    simp only [ha] at hr;obtain ⟨k2,fw⟩:=h _ _ _ hr;refine ⟨max k1 k2,?_⟩;rw [pz (hm k1 _ (vP k1 k2)) a _ _ jB];exact hm k2 _ (vC k1 k2) _ _ _ fw
   | ret=>exact ⟨k1,by rw [jB];simpa only [ha] using hr⟩
   | exit id=>exact ⟨k1,by rw [jB];simpa only [ha] using hr⟩
 | .rf fv ps cJ body,s,r,hr=>by
  simp only [bF] at hr ⊢
  split at hr
  ·rename_i n first cap hx
   split at hr
   ·grind
   ·rename_i hL
    cases hc:gZ P L f ((s.ct,.lp s.tm ps cJ body 0 .none)::s.hp) (s.ct+1) n (first++(.fn (.y s.ct) [] []::cap)) with
    | none=>simp [hc] at hr
    | some q=>
     obtain ⟨k,hk⟩:=PQ h _ _ _ _ _ hc
     grind
  ·simp at hr
 | .exit id,s,r,hr=>⟨0,by simpa only [bF] using hr⟩
 | .ret,s,r,hr=>⟨0,by simpa only [bF] using hr⟩
end
section
variable (P:aH) (L:Lib)
noncomputable def D:cy:=fun c s=>@dite _ (∃r n,ev P L n c s=some r) (Classical.propDecidable _) (fun h=>some h.choose) (fun _=>none)
variable {P L}
def ai5 {c:VC} {s:St} {r:Ex×St} {n:Nat} (h:ev P L n c s=some r):D P L c s=some r:=by
 have hx:∃r n,ev P L n c s=some r:=⟨r,n,h⟩;unfold D;obtain ⟨m,hm⟩:=hx.choose_spec;have e1:=QR P L (vP n m) _ _ _ h;have e2:=QR P L (vC n m) _ _ _ hm
 grind
def W6 {c:VC} {s:St} {r:Ex×St} (h:D P L c s=some r):∃n,ev P L n c s=some r:=by
 unfold D at h;by_cases hx:∃r n,ev P L n c s=some r
 ·grind
 ·grind
def azY (n:Nat):Le (ev P L n) (D P L):=fun _ _ _ h=>ai5 h
def ahn:A8 (D P L) (ev P L):=fun _ _ _ h=>W6 h
def avI:Mon (ev P L):=fun _ _ h=>QR P L h
def kU (c:VC) (s:St):D P L c s=bF P L (D P L) c s:=by
 cases h:D P L c s with
 | some r=>
  obtain ⟨n,hn⟩:=W6 h
  cases n with
  | zero=>rw [Hu] at hn;cases hn
  | succ n=>rw [Hv] at hn;exact (pz (azY n) c s r hn).symm
 | none=>
  cases hs:bF P L (D P L) c s with
  | none=>rfl
  | some r=>
   obtain ⟨n,hn⟩:=Bx ahn avI c s r hs;rw [<-Hv] at hn;rw [ai5 hn] at h;cases h
def agH {f:Nat} {aq:List AV} {r:AV} (h:bH P L (D P L) f aq=some r):∃n,XZ P L n f aq=some r:=KI ahn f aq r h
end
end
section
open Go (IntKind BinOp UnOp)
section
variable {P:aH} {L:Lib}
structure Has (P:aH) (L:Lib) (n:Nat) (F:aX):Prop where
 pure:L.pure n=none
 heap:L.heap n=none
 code:P n=some F
noncomputable def mC (P:aH) (L:Lib) (r:Option (Ex×St)) (b:VC):Option (Ex×St):=match r with | some (.normal,s)=>D P L b s | r=>r
def sH (id:Nat) (r:Option (Ex×St)):Option (Ex×St):=match r with | some (.exit j,s)=>bif yx j id then some (.normal,s) else some (.exit j,s) | r=>r
noncomputable def Iu (P:aH) (L:Lib) (live:List Nat) (a:VC) (r:Option (Ex×St)):Option (Ex×St):=match r with | some (.normal,s)=>D P L (.loop live a) s | r=>r
def norm (r:Option St):Option (Ex×St):=match r with | some s=>some (.normal,s) | none=>none
noncomputable def Mt (P:aH) (L:Lib) (v:AV) (a b:VC) (s:St):Option (Ex×St):=match v with | .bool t=>bif t then D P L a s else D P L b s | _=>none
def avJ (s:St):D P L .skip s=some (.normal,s):=by rw [kU];rfl
def avK (id:Nat) (s:St):D P L (.exit id) s=some (.exit id,s):=by rw [kU];rfl
def ayz (s:St):D P L .ret s=some (.ret,s):=by rw [kU];rfl
def ai6 (live:List Nat) (s:St):D P L (.kp live) s=some (.normal,aQ live s):=by rw [kU];rfl
def azZ (ts:List Nat) (s:St):D P L (.fz ts) s=norm (ot ts s):=by rw [kU];rfl
def ayA (ops:List a7) (s:St):D P L (.aJ ops) s=norm (dA P L (D P L) ops s):=by rw [kU];rfl
def jw (a b:VC) (s:St):D P L (.seq a b) s=mC P L (D P L a s) b:=by
 rw [kU,kU a];simp only [bF,mC]
 cases bF P L (D P L) a s with
 | none=>rfl
 | some q=>
  obtain ⟨e,s1⟩:=q
  cases e with
  | normal=>exact (kU b s1).symm
  | ret=>rfl
  | exit id=>rfl
def avL (x:X) (a b:VC) (s:St):D P L (.cond x a b) s=Mt P L (aE s.tm x) a b s:=by
 rw [kU];simp only [bF,Mt]
 cases aE s.tm x with
 | bool t=>
  cases t with
  | true=>exact (kU a s).symm
  | false=>exact (kU b s).symm
 | _=>rfl
def ayB (id:Nat) (a:VC) (s:St):D P L (.aF id a) s=sH id (D P L a s):=by
 rw [kU,kU a];simp only [bF,sH]
 cases bF P L (D P L) a s with
 | none=>rfl
 | some q=>obtain ⟨e,s1⟩:=q;cases e<;>rfl
def L9 (live:List Nat) (a:VC) (s:St):D P L (.loop live a) s=Iu P L live a (D P L a (aQ live s)):=by
 rw [kU,kU a];simp only [bF,Iu]
 cases bF P L (D P L) a (aQ live s) with
 | none=>rfl
 | some q=>obtain ⟨e,s1⟩:=q;cases e<;>rfl
def fD (s:St) (b:VC):mC P L (some (.normal,s)) b=D P L b s:=rfl
def ar8 (s:St) (b:VC):mC P L (some (.ret,s)) b=some (.ret,s):=rfl
def ar9 (id:Nat) (s:St) (b:VC):mC P L (some (.exit id,s)) b=some (.exit id,s):=rfl
def afA (live:List Nat) (a:VC) (s:St):Iu P L live a (some (.normal,s))=D P L (.loop live a) s:=rfl
def asa (live:List Nat) (a:VC) (s:St):Iu P L live a (some (.ret,s))=some (.ret,s):=rfl
def asb (live:List Nat) (a:VC) (id:Nat) (s:St):Iu P L live a (some (.exit id,s))=some (.exit id,s):=rfl
def asc (id:Nat) (s:St):sH id (some (.normal,s))=some (.normal,s):=rfl
def asd (id:Nat) (s:St):sH id (some (.ret,s))=some (.ret,s):=rfl
def afB (id:Nat) (s:St):sH id (some (.exit id,s))=some (.normal,s):=by simp only [sH,vd,yB]
def ase {id j:Nat} (s:St) (h:j≠id):sH id (some (.exit j,s))=some (.exit j,s):=by
 have:yx j id=false:=by
  cases hq:yx j id with
  | false=>rfl
  | true=>exact absurd (ym hq) h
 simp only [sH,this,yS]
def avM (s:St):norm (some s)=some (.normal,s):=rfl
def avN:norm none=none:=rfl
def asf (a b:VC) (s:St):Mt P L (.bool true) a b s=D P L a s:=rfl
def asg (a b:VC) (s:St):Mt P L (.bool false) a b s=D P L b s:=rfl
noncomputable def RY (P:aH) (L:Lib) (d:Option Nat) (r:List a7) (tm:Env) (base:Nat) (q:fJ):Option St:=
 match q with | some (v,hp,ct)=>dA P L (D P L) r ⟨put d v tm,hp,ct,base⟩ | none=>none
noncomputable def B0 (P:aH) (L:Lib) (v:AV) (b:Bool) (d:Option Nat) (o:Op) (r:List a7) (s:St):Option St:=
 match v with
 | .bool c=>bif c==b then dA P L (D P L) (⟨d,none,o⟩::r) s else dA P L (D P L) r ⟨put d (.ae []) s.tm,s.hp,s.ct,s.base⟩
 | .ae []=>dA P L (D P L) r ⟨put d (.ae []) s.tm,s.hp,s.ct,s.base⟩
 | _=>none
def ash (s:St):dA P L (D P L) [] s=some s:=rfl
def aqe (d:Option Nat) (o:Op) (r:List a7) (tm:Env) (hp:Hp) (ct base:Nat):
  dA P L (D P L) (⟨d,none,o⟩::r) ⟨tm,hp,ct,base⟩=RY P L d r tm base (a8 P L (D P L) tm hp ct o):=by
 simp only [dA,RY]
 grind
def aol (d:Option Nat) (t:Nat) (b:Bool) (o:Op) (r:List a7) (tm:Env) (hp:Hp) (ct base:Nat):
  dA P L (D P L) (⟨d,some (t,b),o⟩::r) ⟨tm,hp,ct,base⟩=B0 P L (aj tm t) b d o r ⟨tm,hp,ct,base⟩:=by
 simp only [dA,B0]
 cases aj tm t with
 | bool c=>
  simp only
  cases hc:(c==b) with
  | true=>simp only [yB]
  | false=>simp only [yS]
 | ae vs=>cases vs<;>rfl
 | _=>rfl
def asi (d:Option Nat) (r:List a7) (tm:Env) (base:Nat) (v:AV) (hp:Hp) (ct:Nat):RY P L d r tm base (some (v,hp,ct))=dA P L (D P L) r ⟨put d v tm,hp,ct,base⟩:=rfl
def ayC (i:Nat) (v:AV) (tm:Env):put (some i) v tm=(i,v)::tm:=rfl
def ayD (v:AV) (tm:Env):put none v tm=tm:=rfl
def aqf (d:Option Nat) (o:Op) (r:List a7) (s:St):B0 P L (.bool true) true d o r s=dA P L (D P L) (⟨d,none,o⟩::r) s:=rfl
def aqg (d:Option Nat) (o:Op) (r:List a7) (s:St):B0 P L (.bool false) false d o r s=dA P L (D P L) (⟨d,none,o⟩::r) s:=rfl
def aqh (d:Option Nat) (o:Op) (r:List a7) (tm:Env) (hp:Hp) (ct base:Nat):B0 P L (.bool true) false d o r ⟨tm,hp,ct,base⟩=dA P L (D P L) r ⟨put d (.ae []) tm,hp,ct,base⟩:=rfl
def aqi (d:Option Nat) (o:Op) (r:List a7) (tm:Env) (hp:Hp) (ct base:Nat):B0 P L (.bool false) true d o r ⟨tm,hp,ct,base⟩=dA P L (D P L) r ⟨put d (.ae []) tm,hp,ct,base⟩:=rfl
def asj (b:Bool) (d:Option Nat) (o:Op) (r:List a7) (tm:Env) (hp:Hp) (ct base:Nat):B0 P L (.ae []) b d o r ⟨tm,hp,ct,base⟩=dA P L (D P L) r ⟨put d (.ae []) tm,hp,ct,base⟩:=rfl
def fY {j i:Nat} (h:j≠i):yx j i=false:=by
 cases hq:yx j i with
 | false=>rfl
 | true=>exact absurd (ym hq) h
def avO (tm:Env) (i:Nat):aE tm (.t i)=aj tm i:=rfl
def avP (tm:Env) (v:AV):aE tm (.c v)=v:=rfl
def aom (tm:Env):dj tm []=[]:=rfl
def ane (tm:Env) (x:X) (r:List X):dj tm (x::r)=aE tm x::dj tm r:=rfl
def aqj (i:Nat) (v:AV) (r:Env):aj ((i,v)::r) i=v:=by simp only [aj,vd,yB]
def aon {j i:Nat} (v:AV) (r:Env) (h:j≠i):aj ((j,v)::r) i=aj r i:=by simp only [aj,fY h,yS]
def qt (i:Nat) (o:Obj) (r:Hp):aB ((i,o)::r) i=some o:=by simp only [aB,vd,yB]
def aoo {j i:Nat} (o:Obj) (r:Hp) (h:j≠i):aB ((j,o)::r) i=aB r i:=by simp only [aB,fY h,yS]
def aqk (i:Nat) (o u:Obj) (r:Hp):bc ((i,o)::r) i u=(i,u)::r:=by simp only [bc,vd,yB]
def aop {j i:Nat} (o u:Obj) (r:Hp) (h:j≠i):bc ((j,o)::r) i u=(j,o)::bc r i u:=by simp only [bc,fY h,yS]
def aql (i:Nat):dU [] i=[]:=rfl
def aqm (i:Nat) (o:Obj) (r:Hp):dU ((i,o)::r) i=dU r i:=by simp only [dU,vd,yB]
def aoq {j i:Nat} (o:Obj) (r:Hp) (h:j≠i):dU ((j,o)::r) i=(j,o)::dU r i:=by simp only [dU,fY h,yS]
def rd (hp:Hp) (ct:Nat) (q:Option AV):fJ:=match q with | some v=>some (v,hp,ct) | none=>none
def mk (hp:Hp) (ct:Nat) (q:Option (AV×Obj)):fJ:=match q with | some (v,b)=>some (v,(ct,b)::hp,ct+1) | none=>none
def az0 (hp:Hp) (ct:Nat) (v:AV):rd hp ct (some v)=some (v,hp,ct):=rfl
def az1 (hp:Hp) (ct:Nat) (v:AV) (b:Obj):mk hp ct (some (v,b))=some (v,(ct,b)::hp,ct+1):=rfl
def RZ (c a b:AV):Option AV:=match c with | .bool t=>some (bif t then a else b) | _=>none
def Kb (k:Nat->Option AV) (n:Option Nat):Option AV:=match n with | some i=>k i | none=>none
def aho (r:Option (List AV)):Option AV:=match r with | some cs=>some (.agg cs) | none=>none
def Ji (ne:Bool) (r:Option Bool):Option AV:=match r with | some b=>some (.bool (ne !=b)) | none=>none
def az2:AV->Option AV
 | .ptr id o=>some (.ptr id o)
 | .bZ cs=>some (.bZ cs)
 | .fn f a b=>some (.fn f a b)
 | _=>none
def Jj (i:Nat):AV->Option AV | .ae vs=>vs[i]? | _=>none
section
variable {f:cy} {tm:Env} {hp:Hp} {ct:Nat}
def avQ (x:X):a8 P L f tm hp ct (.cf x)=some (aE tm x,hp,ct):=rfl
def asl (c a b:X):a8 P L f tm hp ct (.pick c a b)=rd hp ct (RZ (aE tm c) (aE tm a) (aE tm b)):=by
 rfl
def aqn (z:List AV) (ps:List (Nat×Nat×X)):a8 P L f tm hp ct (.fF z ps)=rd hp ct (aho (fill tm z ps)):=by
 rfl
def ayE (sz:Nat) (ag:Bool) (x:X):a8 P L f tm hp ct (.ld sz ag x)=rd hp ct (iA hp sz ag (aE tm x)):=rfl
def asm (x:X):a8 P L f tm hp ct (.IB x)=rd hp ct (az2 (aE tm x)):=by
 rfl
def avR (op:BinOp) (x y:X):a8 P L f tm hp ct (.bin op x y)=rd hp ct (binOp op (aE tm x) (aE tm y)):=rfl
def ayF (ne:Bool) (k:Ok) (x y:X):a8 P L f tm hp ct (.eq ne k x y)=rd hp ct (Ji ne (jj k (aE tm x) (aE tm y))):=by
 rfl
def ayG (op:UnOp) (x:X):a8 P L f tm hp ct (.un op x)=rd hp ct (unOp op (aE tm x)):=rfl
def ayH (k:Conv) (x:X):a8 P L f tm hp ct (.cv k x)=rd hp ct (oB k (aE tm x)):=rfl
def avS (g:Fr) (a b:List X):a8 P L f tm hp ct (.CH g a b)=some (.fn g (dj tm a) (dj tm b),hp,ct):=rfl
def avT (k:Cut) (x:X) (lo hi:Option X):a8 P L f tm hp ct (.dG k x lo hi)=rd hp ct (eV hp k (aE tm x) tm lo hi):=rfl
def avU (k:Nat) (x:X):a8 P L f tm hp ct (.off k x)=rd hp ct (Ih k (aE tm x)):=rfl
def avV (o sz:Nat) (ag:Bool) (x:X):a8 P L f tm hp ct (.JE o sz ag x)=rd hp ct (Mh o sz ag (aE tm x)):=rfl
def avW (sz:Nat) (x i:X):a8 P L f tm hp ct (.aM sz x i)=rd hp ct (Kb (fun j=>jv sz j (aE tm x)) (dl (aE tm i))):=by
 rfl
def avX (n sz:Nat) (x i:X):a8 P L f tm hp ct (.Ff n sz x i)=rd hp ct (Kb (fun j=>Mi n sz j (aE tm x)) (dl (aE tm i))):=by
 rfl
def avY (x i:X):a8 P L f tm hp ct (.j9 x i)=rd hp ct (Kb (fun j=>mz j (aE tm x)) (dl (aE tm i))):=by
 rfl
def avZ (n sz:Nat) (ag:Bool) (x i:X):a8 P L f tm hp ct (.Fg n sz ag x i)=rd hp ct (Kb (fun j=>Mj n sz ag j (aE tm x)) (dl (aE tm i))):=by
 rfl
def av0 (i:Nat) (x:X):a8 P L f tm hp ct (.ext i x)=rd hp ct (Jj i (aE tm x)):=by
 rfl
def av1 (k:Nat) (x:X):a8 P L f tm hp ct (.len k x)=rd hp ct (fp hp k (aE tm x)):=rfl
def av2 (sz:Nat) (x:X):a8 P L f tm hp ct (.box sz x)=mk hp ct (cO tm hp ct (.box sz x)):=rfl
def asn (n sz:Nat) (z:List AV) (ps:List (Nat×Nat×X)):a8 P L f tm hp ct (.dT n sz z ps)=mk hp ct (cO tm hp ct (.dT n sz z ps)):=rfl
def av3 (sz cB:Nat) (z:List AV) (l c:X):a8 P L f tm hp ct (.fI sz cB z l c)=mk hp ct (cO tm hp ct (.fI sz cB z l c)):=rfl
def av4:a8 P L f tm hp ct .zi=some (.map ct,(ct,.mp true [] [])::hp,ct+1):=rfl
def av5 (x:X):a8 P L f tm hp ct (.oQ x)=mk hp ct (cO tm hp ct (.oQ x)):=rfl
def ayI (sz:Nat) (x v:X):a8 P L f tm hp ct (.st sz x v)=cI tm hp ct (.st sz x v):=rfl
def av6 (sz cB:Nat) (s x:X):a8 P L f tm hp ct (.aR sz cB s x)=cI tm hp ct (.aR sz cB s x):=rfl
def Mu (hp:Hp) (ct:Nat) (r:Option AV):fJ:=match r with | some v=>some (shut v,hp,ct) | none=>none
def N2 (hp:Hp) (ct:Nat) (r:Option AV):fJ:=match r with | some v=>some (own hp ct v) | none=>none
def R0 (P:aH) (L:Lib) (f:cy) (ct n:Nat) (q:Option (List AV×Hp)):fJ:=match q with | some (aq,hp)=>Mu hp ct (bH P L f n aq) | none=>none
def R1 (P:aH) (L:Lib) (f:cy) (ct n:Nat) (q:Option (List AV×Hp)):fJ:=match q with | some (aq,hp)=>N2 hp ct (bH P L f n aq) | none=>none
def R2 (P:aH) (L:Lib) (f:cy) (hp:Hp) (ct:Nat) (fv:AV) (xs:List AV):fJ:=ez P L f hp ct .pure fv xs
def R3 (P:aH) (L:Lib) (f:cy) (hp:Hp) (ct:Nat) (fv:AV) (xs:List AV):fJ:=ez P L f hp ct .own fv xs
def aqo (g:X) (xs:List X):a8 P L f tm hp ct (.call .pure g xs)=R2 P L f hp ct (aE tm g) (dj tm xs):=rfl
def aqp (g:X) (xs:List X):a8 P L f tm hp ct (.call .own g xs)=R3 P L f hp ct (aE tm g) (dj tm xs):=rfl
def aqq (g:X) (xs:List X):a8 P L f tm hp ct (.call .heap g xs)=ez P L f hp ct .heap (aE tm g) (dj tm xs):=rfl
def aso (n:Nat) (first cap xs:List AV):R2 P L f hp ct (.fn (.f n) first cap) xs=R0 P L f ct n (cM deep hp (first++(xs++cap))):=by
 simp only [R2,ez,R0,Mu]
 cases cM deep hp (first++(xs++cap)) with
 | none=>rfl
 | some q=>cases bH P L f n q.1<;>rfl
def asp (n:Nat) (first cap xs:List AV):R3 P L f hp ct (.fn (.f n) first cap) xs=R1 P L f ct n (cM deep hp (first++(xs++cap))):=by
 simp only [R3,ez,R1,N2]
 cases cM deep hp (first++(xs++cap)) with
 | none=>rfl
 | some q=>cases bH P L f n q.1<;>rfl
def asq (n:Nat) (aq:List AV):R0 P L f ct n (some (aq,hp))=Mu hp ct (bH P L f n aq):=rfl
def asr (n:Nat) (aq:List AV):R1 P L f ct n (some (aq,hp))=N2 hp ct (bH P L f n aq):=rfl
def ass (v:AV):Mu hp ct (some v)=some (shut v,hp,ct):=rfl
def av7 (v:AV):N2 hp ct (some v)=some (own hp ct v):=rfl
def N3 (hp:Hp) (r:Option AV):Option AV:=match r with | some v=>result hp v | none=>none
def fR (rs:List RV) (q:Option (Ex×St)):Option AV:=
 match q with
 | some (.normal,s) | some (.ret,s)=>N3 s.hp (ik s rs)
 | _=>none
def aI {n:Nat} {F:aX} (h:Has P L n F) (aq:List AV):bH P L f n aq=fR F.fT (f F.body ⟨eO 0 aq,[],0,0⟩):=by
 simp only [bH,h.pure,h.code]
 cases hq:f F.body ⟨eO 0 aq,[],0,0⟩ with
 | none=>rfl
 | some q=>
  obtain ⟨e,s⟩:=q
  cases e with
  | normal=>rfl
  | ret=>rfl
  | exit id=>rfl
def av8 (rs:List RV) (s:St):fR rs (some (.normal,s))=N3 s.hp (ik s rs):=rfl
def av9 (rs:List RV) (s:St):fR rs (some (.ret,s))=N3 s.hp (ik s rs):=rfl
def awa (v:AV):N3 hp (some v)=result hp v:=rfl
def W7 (r:RV) (s:St):ik s [r]=results1 s r:=by
 simp only [ik,kJ];cases results1 s r<;>rfl
def ai7 (r:Option (List AV)):Option AV:=match r with | some vs=>some (.ae vs) | none=>none
def az3 (r q:RV) (l:List RV) (s:St):ik s (r::q::l)=ai7 (kJ s (r::q::l)):=by
 simp only [ik,kJ];cases results1 s r<;>cases results1 s q<;>cases kJ s l<;>rfl
def ahp (r:Option AV) (l:Option (List AV)):Option (List AV):=match r,l with | some v,some vs=>some (v::vs) | _,_=>none
def aqr (s:St):kJ s []=some []:=rfl
def aor (r:RV) (l:List RV) (s:St):kJ s (r::l)=ahp (results1 s r) (kJ s l):=rfl
def ast (v:AV) (vs:List AV):ahp (some v) (some vs)=some (v::vs):=rfl
def awb (vs:List AV):ai7 (some vs)=some (.ae vs):=rfl
def R4 (i:Nat) (s:St):results1 s (.t i)=some (aj s.tm i):=rfl
def ayJ (a:AV):eO 0 [a]=[(0,a)]:=rfl
def ayK (a b:AV):eO 0 [a,b]=[(0,a),(1,b)]:=rfl
def ayL (a b c:AV):eO 0 [a,b,c]=[(0,a),(1,b),(2,c)]:=rfl
def ayM (a b c d:AV):eO 0 [a,b,c,d]=[(0,a),(1,b),(2,c),(3,d)]:=rfl
def ayN (a b c d e:AV):eO 0 [a,b,c,d,e]=[(0,a),(1,b),(2,c),(3,d),(4,e)]:=rfl
def anf (k:yY) (n:Int):result hp (.int k n)=some (.int k n):=rfl
def amK (b:Bool):result hp (.bool b)=some (.bool b):=rfl
def ang (s:List Nat):result hp (.str s)=some (.str s):=rfl
def amL:result hp .aa=some .aa:=rfl
def anh (e:Bool) (n:Nat) (cs:List AV):result hp (.ai e n cs)=some (.ai e n cs):=rfl
def shut_int (k:yY) (n:Int):shut (.int k n)= .int k n:=rfl
def shut_bool (b:Bool):shut (.bool b)= .bool b:=rfl
def aqs (s:List Nat):shut (.str s)= .str s:=rfl
def aos:shut .aa= .aa:=rfl
def aqt (e:Bool) (n:Nat) (cs:List AV):shut (.ai e n cs)= .ai e n cs:=rfl
def aqu (e:Bool) (sz n:Nat) (cs:List AV):shut (.bt e sz n cs)= .ai e n cs:=rfl
def bW (cs:List AV):shut (.agg cs)= .agg cs:=rfl
def asu (g:Fr) (a b:List AV):shut (.fn g a b)= .fn g a b:=rfl
def Dy (vs:List AV):shut (.ae vs)= .ae (B5 vs):=rfl
def Dt:B5 []=[]:=rfl
def Dq (v:AV) (r:List AV):B5 (v::r)=bT v::B5 r:=rfl
def La (k:yY) (n:Int):bT (.int k n)= .int k n:=rfl
def ani (b:Bool):bT (.bool b)= .bool b:=rfl
def aot (s:List Nat):bT (.str s)= .str s:=rfl
def aaE:bT .aa= .aa:=rfl
def aou (e:Bool) (n:Nat) (cs:List AV):bT (.ai e n cs)= .ai e n cs:=rfl
def aov (e:Bool) (sz n:Nat) (cs:List AV):bT (.bt e sz n cs)= .ai e n cs:=rfl
def Bz (cs:List AV):bT (.agg cs)= .agg cs:=rfl
def W8 (n:Nat) (r:List AV) (q:Option (AV×Hp)):Option (List AV×Hp):=match q with | some (v,hp)=>(match cM n hp r with | some (vs,kj)=>some (v::vs,kj) | none=>none) | none=>none
def ai8 (v:AV) (q:Option (List AV×Hp)):Option (List AV×Hp):=match q with | some (vs,hp)=>some (v::vs,hp) | none=>none
def aqv (n:Nat):cM (n+1) hp []=some ([],hp):=rfl
def aow (n:Nat) (v:AV) (r:List AV):cM (n+1) hp (v::r)=W8 n r (freeze n hp v):=by
 simp only [cM,W8];cases freeze n hp v<;>rfl
def awc (n:Nat) (r:List AV) (v:AV):W8 n r (some (v,hp))=ai8 v (cM n hp r):=by
 rfl
def awd (v:AV) (vs:List AV):ai8 v (some (vs,hp))=some (v::vs,hp):=rfl
def asv (n:Nat) (k:yY) (a:Int):freeze (n+1) hp (.int k a)=some (.int k a,hp):=rfl
def aqw (n:Nat) (b:Bool):freeze (n+1) hp (.bool b)=some (.bool b,hp):=rfl
def asw (n:Nat) (s:List Nat):freeze (n+1) hp (.str s)=some (.str s,hp):=rfl
def aqx (n:Nat):freeze (n+1) hp .aa=some (.aa,hp):=rfl
def asx (n:Nat) (e:Bool) (k:Nat) (cs:List AV):freeze (n+1) hp (.ai e k cs)=some (.ai e k cs,hp):=rfl
def aqy (n:Nat) (cs:List AV):freeze (n+1) hp (.bZ cs)=some (.bZ cs,hp):=rfl
end
end
section
variable {hp:Hp}
def awe (a b:AV):RZ (.bool true) a b=some a:=rfl
def awf (a b:AV):RZ (.bool false) a b=some b:=rfl
def ayO (k:Nat->Option AV) (n:Nat):Kb k (some n)=k n:=rfl
def zN (k:yY) (n:Nat):dl (.int k (n:Int))=some n:=rfl
def agI (k:yY):dl (.int k 0)=some 0:=rfl
def awg (k:yY):dl (.int k 1)=some 1:=rfl
def awh (k:yY):dl (.int k 2)=some 2:=rfl
def awi (k:yY):dl (.int k 3)=some 3:=rfl
def awj (k:yY):dl (.int k 4)=some 4:=rfl
def awk (k:yY):dl (.int k 5)=some 5:=rfl
def awl (k:yY):dl (.int k 6)=some 6:=rfl
def awm (k:yY):dl (.int k 7)=some 7:=rfl
def awn (k:yY):dl (.int k 8)=some 8:=rfl
def awo (k:yY):dl (.int k 9)=some 9:=rfl
def asy (cs:List AV):aho (some cs)=some (.agg cs):=rfl
def afC (k:yY) (a b:Int):binOp .add (.int k a) (.int k b)=some (.int k (k.wrap (a+b))):=by simp [binOp,kL]
def LL (k:yY) (a b:Int):binOp .sub (.int k a) (.int k b)=some (.int k (k.wrap (a-b))):=by simp [binOp,kL]
def afD (k:yY) (a b:Int):binOp .mul (.int k a) (.int k b)=some (.int k (k.wrap (a*b))):=by simp [binOp,kL]
def fO (k:yY) (a b:Int) (h:b≠0):binOp .quo (.int k a) (.int k b)=some (.int k (k.wrap (a.tdiv b))):=by simp [binOp,kL,h]
def iq (k:yY) (a b:Int) (h:b≠0):binOp .rem (.int k a) (.int k b)=some (.int k (a.tmod b)):=by simp [binOp,kL,h]
def asz (k:yY) (a b:Int):binOp .eql (.int k a) (.int k b)=some (.bool (decide (a=b))):=by
 simp [binOp,kL,intCmp,BEq.beq]
def asA (k:yY) (a b:Int):binOp .neq (.int k a) (.int k b)=some (.bool (!decide (a=b))):=by
 simp [binOp,kL,intCmp,bne,BEq.beq]
def asB (k:yY) (a b:Int):binOp .lss (.int k a) (.int k b)=some (.bool (decide (a<b))):=by simp [binOp,kL,intCmp]
def asC (k:yY) (a b:Int):binOp .leq (.int k a) (.int k b)=some (.bool (decide (a<=b))):=by simp [binOp,kL,intCmp]
def asD (k:yY) (a b:Int):binOp .gtr (.int k a) (.int k b)=some (.bool (decide (b<a))):=by simp [binOp,kL,intCmp]
def asE (k:yY) (a b:Int):binOp .geq (.int k a) (.int k b)=some (.bool (decide (b<=a))):=by simp [binOp,kL,intCmp]
def awp (k:yY) (a:Int):unOp .neg (.int k a)=some (.int k (k.wrap (0-a))):=rfl
def awq (b:Bool):unOp .not (.bool b)=some (.bool !b):=rfl
def aqz:fp hp 1 .aa=some (.int .i64 0):=rfl
def asF (e:Bool) (n:Nat) (cs:List AV):fp hp 1 (.ai e n cs)=some (.int .i64 n):=rfl
def asG (id o n:Nat):fp hp 1 (.aC id o n)=some (.int .i64 n):=rfl
def asH (s:List Nat):fp hp 0 (.str s)=some (.int .i64 s.length):=rfl
def QT {sz i n:Nat} (e:Bool) (cs:List AV) (h:i<n):jv sz i (.ai e n cs)=some (.bZ (cs.drop (i*sz))):=by
 have hb:yP i n=true:=yt h;simp only [jv]
 grind
def cp {sz i n:Nat} (id o:Nat) (h:i<n):jv sz i (.aC id o n)=some (.ptr id (o+i*sz)):=by
 have hb:yP i n=true:=yt h;simp only [jv]
 grind
def aqA (v:AV) (cs:List AV):iA hp 1 false (.bZ (v::cs))=some v:=rfl
def OW (sz:Nat) (ag:Bool) (o:Nat) (q:Option Obj):Option AV:=match q with | some (.cells _ _ _ _ cs)=>gP sz ag (cs.drop o) | _=>none
def awr (sz:Nat) (ag:Bool) (id o:Nat):iA hp sz ag (.ptr id o)=OW sz ag o (aB hp id):=by
 rfl
def ayP (sz:Nat) (ag:Bool) (o:Nat) (rw pu ex:Bool) (z:Nat) (cs:List AV):OW sz ag o (some (.cells rw pu ex z cs))=gP sz ag (cs.drop o):=rfl
def Cb (sz:Nat) (v:AV) (cs:List AV):gP sz false (v::cs)=some v:=rfl
def az4 (a:AV) (l:List AV):Jj 0 (.ae (a::l))=some a:=rfl
def ext1 (a b:AV) (l:List AV):Jj 1 (.ae (a::b::l))=some b:=rfl
def az5 (a b c:AV) (l:List AV):Jj 2 (.ae (a::b::c::l))=some c:=rfl
def az6 (a b c d:AV) (l:List AV):Jj 3 (.ae (a::b::c::d::l))=some d:=rfl
end
def sI:Env->Bool
 | []=>true
 | (_,v)::r=>aZ v&&sI r
mutual
def au:∀{v:AV},aZ v=true->refs v=[]
 | .int _ _,_ | .bool _,_ | .bM _ _,_ | .str _,_ | .jU,_ | .bZ _,_ | .aa,_ | .ai _ _ _,_ | .iy,_ | .jy,_ | .iV _ _,_ | .undef,_=>rfl
 | .ptr _ _,h | .aC _ _ _,h | .map _,h | .it _,h | .bt _ _ _ _,h=>by simp [aZ] at h
 | .fn (.y _) _ _,h=>by simp [aZ] at h
 | .fn (.f _) first cap,h=>by
  simp only [aZ,ye] at h;simp only [refs,GZ h.1,GZ h.2,wA]
 | .agg cs,h=>by simp only [aZ] at h;simp only [refs,GZ h]
 | .ae cs,h=>by simp only [aZ] at h;simp only [refs,GZ h]
def GZ:∀{vs:List AV},aG vs=true->iQ vs=[]
 | [],_=>rfl
 | v::r,h=>by
  simp only [aG,ye] at h;simp only [iQ,au h.1,GZ h.2,wA]
end
mutual
def ax (f:Nat->Option Nat):∀{v:AV},aZ v=true->b5 f v=v
 | .int _ _,_ | .bool _,_ | .bM _ _,_ | .str _,_ | .jU,_ | .bZ _,_ | .aa,_ | .ai _ _ _,_ | .iy,_ | .jy,_ | .iV _ _,_ | .undef,_=>rfl
 | .ptr _ _,h | .aC _ _ _,h | .map _,h | .it _,h | .bt _ _ _ _,h=>by simp [aZ] at h
 | .fn (.y _) _ _,h=>by simp [aZ] at h
 | .fn (.f _) first cap,h=>by
  simp only [aZ,ye] at h;simp only [b5,G7 f h.1,G7 f h.2]
 | .agg cs,h=>by simp only [aZ] at h;simp only [b5,G7 f h]
 | .ae cs,h=>by simp only [aZ] at h;simp only [b5,G7 f h]
def G7 (f:Nat->Option Nat):∀{vs:List AV},aG vs=true->fq f vs=vs
 | [],_=>rfl
 | v::r,h=>by
  simp only [aG,ye] at h;simp only [fq,ax f h.1,G7 f h.2]
end
def aaF:∀{tm:Env},sI tm=true->iR tm=[]
 | [],_=>rfl
 | (i,v)::r,h=>by
  simp only [sI,ye] at h;simp only [iR,au h.1,aaF h.2,wA]
def abn (f:Nat->Option Nat):∀{tm:Env},sI tm=true->jV f tm=tm
 | [],_=>rfl
 | (i,v)::r,h=>by
  simp only [sI,ye] at h;simp only [jV,ax f h.1,abn f h.2]
def aml {live:List Nat} {tm:Env} {ct:Nat} (h:sI (dN tm live)=true):aQ live ⟨tm,[],ct,0⟩=⟨dN tm live,[],0,0⟩:=by
 simp only [aQ,aaF h,iM,wA];simp only [reach,jQ,lO,abn _ h,yO,yZ]
def amM {tm:Env} {ct:Nat}:aQ [] ⟨tm,[],ct,0⟩=⟨[],[],0,0⟩:=rfl
def acd {P:aH} {L:Lib} {live:List Nat} {a:VC} (I:Nat->St->Prop) (Q:Ex->St->Prop)
  (step:∀k s,I k s->(∃s' k',D P L a (aQ live s)=some (.normal,s')/\k'<k/\I k' s')\/(∃ex s',D P L a (aQ live s)=some (ex,s')/\ex≠.normal/\Q ex s')):
  ∀k s,I k s->∃ex s',D P L (.loop live a) s=some (ex,s')/\Q ex s':=by
 intro k
 induction k using Nat.strongRecOn with
 | _ k ih=>
  intro s hI;rw [L9];rcases step k s hI with ⟨s',k',h1,h2,h3⟩ | ⟨ex,s',h1,h2,h3⟩
  ·rw [h1,afA];exact ih k' h2 s' h3
  ·rw [h1]
   cases ex with
   | normal=>exact absurd rfl h2
   | ret=>exact ⟨.ret,s',rfl,h3⟩
   | exit id=>exact ⟨.exit id,s',rfl,h3⟩
def fN {P:aH} {L:Lib} {live:List Nat} {a:VC} (I:Nat->St->Prop) (Q:Ex->St->Prop)
  (step:∀k s,I k s->(∃s' k',D P L a s=some (.normal,s')/\k'<k/\I k' (aQ live s'))\/(∃ex s',D P L a s=some (ex,s')/\ex≠.normal/\Q ex s')):
  ∀k s,I k (aQ live s)->∃ex s',D P L (.loop live a) s=some (ex,s')/\Q ex s':=
 acd (fun k s=>I k (aQ live s)) Q (fun k s h=>step k _ h)
def di {P:aH} {L:Lib} {live:List Nat} {a:VC} {I:Nat->St->Prop} {Q:Ex->St->Prop}
  (step:∀k s,I k s->(∃s' k',D P L a s=some (.normal,s')/\k'<k/\I k' (aQ live s'))\/(∃ex s',D P L a s=some (ex,s')/\ex≠.normal/\Q ex s')):
  ∀k s s0,aQ live s=s0->I k s0->∃ex s',D P L (.loop live a) s=some (ex,s')/\Q ex s':=fun k s s0 h hi=>fN I Q step k s (h▸hi)
def bI {P:aH} {L:Lib} {c:VC} {s:St} {q:Option (Ex×St)} {I:St->Prop} {Q:Ex->St->Prop} (hq:D P L c s=q) (key:∀s,I s->∃ex s',D P L c s=some (ex,s')/\Q ex s') (hI:I s):
  ∃ex s',q=some (ex,s')/\Q ex s':=by
 rw [<-hq];exact key s hI
def aqB (tm:Env):dN tm []=[]:=rfl
def aox (tm:Env) (i:Nat) (r:List Nat):dN tm (i::r)=(i,aj tm i)::dN tm r:=rfl
def aoy:sI []=true:=rfl
def anj (i:Nat) (v:AV) (r:Env):sI ((i,v)::r)=(aZ v&&sI r):=rfl
def agJ (k:yY) (n:Int):aZ (.int k n)=true:=(rfl)
def asI (b:Bool):aZ (.bool b)=true:=(rfl)
def aws (s:List Nat):aZ (.str s)=true:=(rfl)
def asJ:aZ .aa=true:=(rfl)
def awt (e:Bool) (n:Nat) (cs:List AV):aZ (.ai e n cs)=true:=(rfl)
def asK (cs:List AV):aZ (.bZ cs)=true:=(rfl)
def aqC:aZ .undef=true:=(rfl)
attribute [go_sem] deep amM aqB aox aoy anj agJ asI aws asJ awt asK aqC Bool.and_true xH
attribute [go_sem] avJ avK ayz ai6 azZ ayA jw avL ayB fD ar8 ar9 afA asa asb asc asd afB ase avM avN asf asg
 ash aqe aol asi ayC ayD aqf aqg aqh aqi asj avO avP aom ane aqj aon qt aoo aqk aop aql aqm aoq
 az0 az1 avQ asl aqn ayE asm avR ayF ayG ayH avS avT avU avV avW avX avY avZ av0 av1 av2 asn av3 av4 av5 ayI av6 aqo aqp aqq
 aso asp asq asr ass av7 av8 av9 awa W7 az3 aqr aor ast awb R4 ayJ ayK ayL ayM ayN
 anf amK ang amL anh shut_int shut_bool aqs aos aqt aqu bW asu Dy Dt Dq La ani aot aaE aou aov Bz
 aqv aow awc awd asv aqw asw aqx asx aqy
 awe awf ayO zN agI awg awh awi awj awk awl awm awn awo asy afC LL afD asz asA asB asC asD asE awp awq aqz asF asG asH aqA awr ayP Cb az4 ext1 az5 az6
 List.nil_append wA xh yu yv Bool.not_true Bool.not_false ne_eq not_false_eq_true
end
section
open Go (IntKind)
abbrev ab (n:Int):AV:= .int .i64 n
def cT (v:AV) (cs:List AV):Prop:=(v= .aa/\cs=[])\/∃e,v= .ai e cs.length cs
section
variable {v:AV} {cs:List AV} {hp:Hp}
def cT.len (h:cT v cs) {hp:Hp}:fp hp 1 v=some (.int .i64 (cs.length:Nat)):=by
 rcases h with ⟨rfl,rfl⟩ | ⟨e,rfl⟩<;>rfl
def cT.pu (h:cT v cs):aZ v=true:=by
 rcases h with ⟨rfl,rfl⟩ | ⟨e,rfl⟩<;>rfl
def cT.ao (h:cT v cs) (n:Nat) {hp:Hp}:freeze (n+1) hp v=some (v,hp):=by
 rcases h with ⟨rfl,rfl⟩ | ⟨e,rfl⟩<;>rfl
def cT.shut (h:cT v cs):shut v=v:=by
 rcases h with ⟨rfl,rfl⟩ | ⟨e,rfl⟩<;>rfl
def cT.bT (h:cT v cs):bT v=v:=by
 rcases h with ⟨rfl,rfl⟩ | ⟨e,rfl⟩<;>rfl
def cT.fT (h:cT v cs) {hp:Hp}:result hp v=some v:=by
 rcases h with ⟨rfl,rfl⟩ | ⟨e,rfl⟩<;>rfl
def cT.aM (h:cT v cs) {i:Nat} (hi:i<cs.length):jv 1 i v=some (.bZ (cs[i]::cs.drop (i+1))):=by
 rcases h with ⟨rfl,rfl⟩ | ⟨e,rfl⟩
 ·grind
 ·rw [QT e _ hi,Nat.mul_one,yX hi]
def cT.one (h:cT v cs):dc v=true:=by
 rcases h with ⟨rfl,rfl⟩ | ⟨e,rfl⟩<;>rfl
def cT.cells (h:cT v cs):cellsOf v=[v]:=by
 rcases h with ⟨rfl,rfl⟩ | ⟨e,rfl⟩<;>rfl
def Hx (e:Bool) (cs:List AV):cT (.ai e cs.length cs) cs:= .inr ⟨e,rfl⟩
def qu:cT .aa []:= .inl ⟨rfl,rfl⟩
end
def br (v:AV) (l:List Int):Prop:=cT v (l.map ab)
section
variable {v:AV} {l:List Int}
def br.len (h:br v l) {hp:Hp}:fp hp 1 v=some (.int .i64 (l.length:Nat)):=by
 have:=cT.len (hp:=hp) h
 grind
def br.pu (h:br v l):aZ v=true:=cT.pu h
def br.ao (h:br v l) (n:Nat) {hp:Hp}:freeze (n+1) hp v=some (v,hp):=cT.ao h n
def br.shut (h:br v l):VE.shut v=v:=cT.shut h
def br.bT (h:br v l):VE.bT v=v:=cT.bT h
def br.fT (h:br v l) {hp:Hp}:result hp v=some v:=cT.fT h
def br.one (h:br v l):dc v=true:=cT.one h
def br.cells (h:br v l):cellsOf v=[v]:=cT.cells h
def br.aM (h:br v l) {i:Nat} (hi:i<l.length):jv 1 i v=some (.bZ (.int .i64 l[i]::(l.map ab).drop (i+1))):=by
 have:=cT.aM h (i:=i) (by simpa using hi)
 grind
def mv (e:Bool) (l:List Int):br (.ai e l.length (l.map ab)) l:=by
 have:=Hx e (l.map ab)
 rwa [yk] at this
end
def cz {α β:Type} (p:α->β->Prop):List α->List β->Prop
 | [],[]=>True
 | a::r,b::s=>p a b/\cz p r s
 | _,_=>False
section
variable {α β:Type} {p:α->β->Prop}
def cz.len:∀{l:List α} {m:List β},cz p l m->l.length=m.length
 | [],[],_=>rfl
 | _::_,_::_,h=>by rw [yG,yG,h.2.len]
def cz.get:∀{l:List α} {m:List β} (_:cz p l m) {i:Nat} (h1:i<l.length) (h2:i<m.length),p l[i] m[i]
 | a::r,b::s,h,0,_,_=>h.1
 | a::r,b::s,h,i+1,h1,h2=>by
  exact h.2.get (by simpa using h1) (by simpa using h2)
end
def IsS (v:AV) (s:List (List Int)):Prop:=∃rows,cT v rows/\cz br rows s
def wrap64 {n:Int} (h1: -9223372036854775808<=n) (h2:n<9223372036854775808):IntKind.wrap .i64 n=n:=by
 simp only [IntKind.wrap,IntKind.bits,IntKind.signed,xH]
 grind
def wrapN {n:Nat} (h:n<9223372036854775808):IntKind.wrap .i64 (n:Int)=n:=wrap64 (by omega) (by omega)
end
section
open Go (IntKind)
section
variable {P:aH} {L:Lib}
abbrev ak (P:aH) (L:Lib) (f:Nat) (aq:List AV) (r:AV):Prop:=bH P L (D P L) f aq=some r
end
end
end VE
