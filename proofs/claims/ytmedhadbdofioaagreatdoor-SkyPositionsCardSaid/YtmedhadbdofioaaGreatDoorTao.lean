import Derived.ChangeSlices
import Derived.ChangeReads
import Derived.ChangeSame
import Derived.OpenShut
import Derived.Lib.AtoiErrMem
import Derived.Test.YtmedhadbdofioaaGreatDoorTal
import Derived.Test.YtmedhadbdofioaaGreatDoorTah
import Derived.Test.YtmedhadbdofioaaGreatDoorTaj
import Derived.Test.YtmedhadbdofioaaGreatDoorTam
import Derived.Test.YtmedhadbdofioaaGreatDoorTan
import Derived.Test.YtmedhadbdofioaaGreatDoorTag
set_option linter.all false
set_option maxRecDepth 100000
open Array renaming getElem?_eq_some_iff→xx
open Bool renaming and_eq_true→yg
open Go renaming Addr→ue,ChangeSpec→yba,DataW→xr,Field→uk,MemPlace→xV,Program→y6,TypeId→yx,Value→yf,World→yi
open Int renaming emod_emod→yaS,tmod_eq_emod_of_nonneg→xn
open List renaming all_cons→tL,cons_append→y7,drop_drop→wX,drop_eq_getElem_cons→yL,drop_eq_nil_of_le→y8,eq_nil_of_length_eq_zero→yJ,flatMap_cons→tU,getD_cons_succ→tC,getD_eq_getElem?_getD→y9,getElem?_cons_zero→wZ,length→ybb,length_append→yQ,length_cons→yr,length_singleton→tf,length_take→yT,mapM_cons→vC,mapM_nil→uS,map_cons→yU,mem_append_left→ub,mem_append_right→vc,mem_flatMap→vQ,range→xi,range'→xB,range'_succ→vz,range'_zero→yaa,range_eq_range'→tp,replicate→yz,replicate_succ→xW,set_cons_succ→tK,take_append_drop→xN,take_of_length_le→yM,take_succ_cons→wh,take_succ_eq_append_getElem→vj
open Nat renaming add_mul→wj,add_sub_cancel→uN,add_zero→yX,beq→yu,eq_of_beq_eq_true→yp,eq_zero_or_pos→xo,le_div_iff_mul_le→tu,le_max_left→vv,le_max_right→ve,le_of_lt→uU,le_refl→yC,lt_of_le_of_lt→wJ,lt_of_mul_lt_mul_right→uP,min_eq_left→wu,mul_add→xt,mul_assoc→xk,mul_comm→xE,mul_le_mul_left→yS,mul_le_mul_right→yW,mul_pos→yaR,mul_zero→xF,not_lt_zero→uJ,pow_le_pow_right→xP,pow_succ→xg,zero_add→yd
open Option renaming bind_eq_bind→wR,bind_some→xH,map_some→wm,pure_def→wn
open Option.some renaming injEq→yc
open Prod.mk renaming injEq→yk
namespace VE
section
open Go
section
variable (P:y6)
def Ea (self:yx->Bool):List uk->Nat->Nat->Bool
 | [],o,n=>yu o n
 | f::r,o,n=>yu f.offset o&&(self f.type&&Ea self r (o+P.cellsOf f.type) n)
def flat:Nat->yx->Bool
 | 0,_=>false
 | n+1,t=>
  match P.underlying t with
  | some .bool | some (.int _) | some (.float _) | some .string=>yu (P.cellsOf t) 1
  | some (.slice e)=>yu (P.cellsOf t) 1&&(Nat.blt 0 (P.cellsOf e)&&flat n e)
  | some (.struct fs)=>Ea P (fun u=>flat n u) fs.toList 0 (P.cellsOf t)
  | some (.array k e)=>yu (P.cellsOf t) (k*P.cellsOf e)&&flat n e
  | _=>false
def db {H:Type}:Nat->yx->xr H->List AV
 | 0,_,_=>[]
 | n+1,t,d=>
  match P.underlying t,d with
  | some .bool,.lit (.bool b)=>[.bool b]
  | some (.int k),.lit (.int _ m)=>[.int k m]
  | some (.float k),.lit (.float _ b)=>[.dE k b]
  | some .string,.lit (.string s)=>[.str (s.map UInt8.toNat)]
  | some (.slice _),.nil=>[.ab]
  | some (.slice e),.slice jK spare=>[.aE spare.isEmpty jK.length (jK.flatMap fun x=>db n e x)]
  | some (.struct fs),.agg parts=>(fs.toList.zip parts).flatMap fun x=>db n x.1.type x.2
  | some (.array _ e),.agg parts=>parts.flatMap fun x=>db n e x
  | _,_=>[]
end
section
variable {ai:Nat->Nat} {m:Mp} {S:Nat->Prop} {w:yi}
def Zz:∀{a b:List AV} {aK o:Nat},bW ai m S w a aK o->bW ai m S w b aK (o+a.length)->bW ai m S w (a++b) aK o
 | [],b,aK,o,_,h=>by simpa using h
 | x::a,b,aK,o,h1,h2=>by
  exact ⟨h1.1,Zz h1.2 (by rw [yr] at h2;rw [show o+1+a.length=o+(a.length+1) by omega];exact h2)⟩
def LU:∀{a b:List AV},aH a=true->aH b=true->aH (a++b)=true
 | [],_,_,h=>h
 | x::a,b,h1,h2=>by
  simp only [aH,y7,yg] at h1 ⊢;exact ⟨h1.1,LU h1.2 h2⟩
def ZA:∀{a:List AV} {us:List yf},au ai m S w a us->a.length=us.length
 | [],us,h=>by simp only [au] at h;subst h;rfl
 | x::a,us,h=>by
  obtain ⟨u,r,rfl,_,h2⟩:=h;simp [ZA h2]
end
section
variable {H:Type} {enc:yx×yf->H} {P:y6} {w:yi} {held:Bool} {ai:Nat->Nat} {m:Mp} {S:Nat->Prop}
def abH {a:ue} {i:Nat} {u:yf} (h:w.cell? (a.add i)=some u):w.cell? ⟨a.block,a.off+i,none⟩=some u/\(i=0->a.spot=none):=by
 by_cases hi:i=0
 ·subst hi;have e:a.add 0=a:=by simp [Addr.add]
  rw [e] at h;have hs:a.spot=none:=by
   cases hq:a.spot with
   | none=>rfl
   | some k=>
    unfold World.cell? at h
    split at h
    ·simp [hq] at h
    all_goals simp_all
  obtain ⟨b,o,sp⟩:=a;simp only at hs;subst hs;exact ⟨by simpa using h,fun _=>rfl⟩
 ·have e:a.add i=⟨a.block,a.off+i,none⟩:=by simp [Addr.add,hi]
  rw [e] at h;exact ⟨h,fun h=>(hi h).elim⟩
def akJ (a:ue) (i:Nat):(a.add i).block=a.block:=by unfold Addr.add;split<;>rfl
def ao5 (a:ue) (i:Nat):(a.add i).off=a.off+i:=by unfold Addr.add;split<;>simp_all
def L6 {α β:Type} {f:α->Option β}:∀{l:List α} {r:List β},l.mapM f=some r->r.length=l.length
 | [],r,h=>by simp only [uS,wn,yc] at h;subst h;rfl
 | x::l,r,h=>by
  rw [vC] at h
  cases h1:f x with
  | none=>simp [h1] at h
  | some y=>
   cases h2:l.mapM f with
   | none=>simp [h1,h2] at h
   | some ys=>
    simp only [h1,h2,xH,wR,wn,yc] at h;subst h;simp [L6 h2]
def amP {c:AV} {l:List AV} {b o:Nat} (h:bW ai m S w (c::l) b o):b<w.heap.size:=by
 obtain ⟨⟨u,h1,_⟩,_⟩:=h;unfold World.cell? at h1
 cases hq:w.heap[b]? with
 | none=>simp [hq] at h1
 | some o=>exact (xx.1 hq).1
def Ro {e:yx} {bB sz:Nat} {f:xr H->List AV} {a:ue} (fa:0<sz)
  (IH:∀(cs:List yf) (d:xr H) (ps:List xV),DataW.trod enc P w 0 (fun _=>true) held bB e cs=some (d,ps)->au ai m S w (f d) cs/\aH (f d)=true/\cs.length=sz):
  ∀(k j:Nat) (xs:List (xr H×List xV)),(xB j k).mapM (fun i=>(w.cells? 0 (a.add (i*sz)) sz).bind (DataW.trod enc P w 0 (fun _=>true) held bB e))=some xs->
   bW ai m S w ((xs.map (·.1)).flatMap f) a.block (a.off+j*sz)/\aH ((xs.map (·.1)).flatMap f)=true/\((xs.map (·.1)).flatMap f).length=k*sz/\xs.length=k/\(0<k->a.spot=none\/0<j)
 | 0,j,xs,h=>by
  simp only [yaa,uS,wn,yc] at h;subst h;simp [bW,aH]
 | k+1,j,xs,h=>by
  rw [vz,vC] at h
  cases h1:(w.cells? 0 (a.add (j*sz)) sz) with
  | none=>simp [h1] at h
  | some us=>
   cases h2:DataW.trod enc P w 0 (fun _=>true) held bB e us with
   | none=>simp [h1,h2] at h
   | some x=>
    cases h3:(xB (j+1) k).mapM (fun i=>(w.cells? 0 (a.add (i*sz)) sz).bind (DataW.trod enc P w 0 (fun _=>true) held bB e)) with
    | none=>simp [h1,h2,h3] at h
    | some ys=>
     simp only [h1,h2,h3,xH,wR,wn,yc] at h;subst h;obtain ⟨d,ps⟩:=x;obtain ⟨g1,g2,g3⟩:=IH us d ps h2;obtain ⟨k1,k2,k3,k4,_⟩:=Ro fa IH k (j+1) ys h3;obtain ⟨_,c2,c3⟩:=World.cells?_some h1;have hl:(f d).length=sz:=by rw [ZA g1,g3]
     have hc:∀(i:Nat) (u:yf),us[i]? =some u->w.cell? ⟨a.block,a.off+j*sz+i,none⟩=some u:=by
      intro i u hi;have FL:i<sz:=by grind
      have h:=c3 i FL;rw [hi] at h
      have:=(abH h).1
      rwa [akJ,ao5] at this
     refine ⟨?_,?_,?_,by simp [k4],?_⟩
     ·simp only [yU,tU];refine Zz (Eh _ us _ g1 hc) ?_
      grind
     ·simp only [yU,tU];exact LU g2 k2
     ·grind
     ·intro _;rcases xo j with hj | hj
      ·left
       have h:=c3 0 fa;have hu:us[0]? =some us[0]:=by simp_all
       rw [hu] at h
       have:=(abH h).2 rfl
       subst hj;simpa [Addr.add] using this
      ·grind
def YN {bB N:Nat} {n:Nat} {cs:List yf} (hN:cs.length=N)
  (IH:∀(t:yx) (cs:List yf) (d:xr H) (ps:List xV),flat P n t=true->DataW.trod enc P w 0 (fun _=>true) held bB t cs=some (d,ps)->au ai m S w (db P n t d) cs/\aH (db P n t d)=true/\cs.length=P.cellsOf t):
  ∀(r:List uk) (o:Nat) (xs:List (xr H×List xV)),Ea P (fun u=>flat P n u) r o N=true->r.mapM (fun f=>DataW.trod enc P w 0 (fun _=>true) held bB f.type ((cs.drop f.offset).take (P.cellsOf f.type)))=some xs->
   au ai m S w ((r.zip (xs.map (·.1))).flatMap fun x=>db P n x.1.type x.2) (cs.drop o)/\aH ((r.zip (xs.map (·.1))).flatMap fun x=>db P n x.1.type x.2)=true
 | [],o,xs,hf,h=>by
  have:=yp hf
  rw [y8 (by omega)];simp [au,aH]
 | f::r,o,xs,hf,h=>by
  simp only [Ea,yg] at hf;obtain ⟨e1,e2,e3⟩:=hf;have e1:=yp e1;rw [vC] at h
  cases h2:DataW.trod enc P w 0 (fun _=>true) held bB f.type ((cs.drop f.offset).take (P.cellsOf f.type)) with
  | none=>simp [h2] at h
  | some x=>
   cases h3:r.mapM (fun f=>DataW.trod enc P w 0 (fun _=>true) held bB f.type ((cs.drop f.offset).take (P.cellsOf f.type))) with
   | none=>simp [h2,h3] at h
   | some ys=>
    simp only [h2,h3,xH,wR,wn,yc] at h;subst h;obtain ⟨d,ps⟩:=x;obtain ⟨g1,g2,g3⟩:=IH f.type _ d ps e2 h2;obtain ⟨k1,k2⟩:=YN hN IH r _ ys e3 h3;rw [e1] at g1;have e:cs.drop o=(cs.drop o).take (P.cellsOf f.type)++cs.drop (o+P.cellsOf f.type):=by rw [<-wX];exact (xN _ _).symm
    rw [e];exact ⟨mf g1 k1,LU g2 k2⟩
def abI {bB sz:Nat} {e:yx} {f:xr H->List AV} {cs:List yf}
  (IH:∀(cs:List yf) (d:xr H) (ps:List xV),DataW.trod enc P w 0 (fun _=>true) held bB e cs=some (d,ps)->au ai m S w (f d) cs/\aH (f d)=true/\cs.length=sz):
  ∀(k j:Nat) (xs:List (xr H×List xV)),(xB j k).mapM (fun i=>DataW.trod enc P w 0 (fun _=>true) held bB e ((cs.drop (i*sz)).take sz))=some xs->cs.length=(j+k)*sz->
   au ai m S w ((xs.map (·.1)).flatMap f) (cs.drop (j*sz))/\aH ((xs.map (·.1)).flatMap f)=true
 | 0,j,xs,h,hl=>by
  simp only [yaa,uS,wn,yc] at h;subst h;rw [y8 (by rw [hl];simp)]
  simp [au,aH]
 | k+1,j,xs,h,hl=>by
  rw [vz,vC] at h
  cases h2:DataW.trod enc P w 0 (fun _=>true) held bB e ((cs.drop (j*sz)).take sz) with
  | none=>simp [h2] at h
  | some x=>
   cases h3:(xB (j+1) k).mapM (fun i=>DataW.trod enc P w 0 (fun _=>true) held bB e ((cs.drop (i*sz)).take sz)) with
   | none=>simp [h2,h3] at h
   | some ys=>
    simp only [h2,h3,xH,wR,wn,yc] at h;subst h;obtain ⟨d,ps⟩:=x;obtain ⟨g1,g2,g3⟩:=IH _ d ps h2;obtain ⟨k1,k2⟩:=abI IH k (j+1) ys h3 (by rw [hl];congr 1;omega)
    have e:cs.drop (j*sz)=(cs.drop (j*sz)).take sz++cs.drop ((j+1)*sz):=by rw [wj,Nat.one_mul,<-wX];exact (xN _ _).symm
    rw [e];exact ⟨mf g1 k1,LU g2 k2⟩
def aaw (hS:∀b,b<w.heap.size->S b):∀(n bB:Nat) (t:yx) (cs:List yf) (d:xr H) (ps:List xV),flat P n t=true->DataW.trod enc P w 0 (fun _=>true) held bB t cs=some (d,ps)->
  au ai m S w (db P n t d) cs/\aH (db P n t d)=true/\cs.length=P.cellsOf t
 | 0,bB,t,cs,d,ps,hf,h=>by simp [flat] at hf
 | n+1,0,t,cs,d,ps,hf,h=>by simp [DataW.trod] at h
 | n+1,bB+1,t,cs,d,ps,hf,h=>by
  have IH:=aaw hS n bB;unfold DataW.trod at h;simp only [flat] at hf
  split at h
  ·rename_i hu;simp only [hu] at hf;simp only [yc,yk] at h;obtain ⟨rfl,rfl⟩:=h;simp only [db,hu];exact ⟨by simp [au,aj],by simp [aH,aR],by rw [yp hf];rfl⟩
  ·rename_i hu;simp only [hu] at hf
   split at h
   ·rename_i hk;simp only [yc,yk] at h;obtain ⟨rfl,rfl⟩:=h;simp only [db,hu];refine ⟨?_,by simp [aH,aR],by rw [yp hf];rfl⟩
    rw [hk.1];simp [au,aj]
   ·cases h
  ·rename_i hu;simp only [hu] at hf
   split at h
   ·rename_i hk;simp only [yc,yk] at h;obtain ⟨rfl,rfl⟩:=h;simp only [db,hu];refine ⟨?_,by simp [aH,aR],by rw [yp hf];rfl⟩
    rw [hk.1];simp [au,aj]
   ·cases h
  ·rename_i hu;simp only [hu] at hf
   split at h
   ·simp only [yc,yk] at h;obtain ⟨rfl,rfl⟩:=h;simp only [db,hu];refine ⟨?_,by simp [aH,aR],by rw [yp hf];rfl⟩
    simp only [au,aj];exact ⟨_,_,rfl,⟨_,rfl,rfl⟩,rfl⟩
   ·cases h
  ·rename_i hu;simp [hu] at hf
  ·rename_i hu;simp [hu] at hf
  ·rename_i hu;simp only [hu,yg] at hf;simp only [yc,yk] at h;obtain ⟨rfl,rfl⟩:=h;simp only [db,hu];exact ⟨by simp [au,aj],by simp [aH,aR],by rw [yp hf.1];rfl⟩
  ·rename_i e a len cap hu;simp only [hu,yg] at hf;obtain ⟨f1,f2,f3⟩:=hf;have fa:=sW.1 f2;simp only at h
   split at h
   case isFalse=>cases h
   rename_i hc;simp only [y5] at h
   cases h1:(xi len).mapM fun i=>(w.cells? 0 (a.add (i*P.cellsOf e)) (P.cellsOf e)).bind (DataW.trod enc P w 0 (fun _=>true) held bB e) with
   | none=>rw [h1] at h;simp at h
   | some jK=>
    cases h2:(xi (cap-len)).mapM fun j=>(w.cells? 0 (a.add ((len+j)*P.cellsOf e)) (P.cellsOf e)).bind (DataW.trod enc P w 0 (fun _=>true) held bB e) with
    | none=>rw [h1] at h;simp [h2] at h
    | some rest=>
     rw [h1] at h;simp only [xH,h2,wm,yc,yk] at h;obtain ⟨rfl,rfl⟩:=h;have hIH:=fun cs d ps h=>IH e cs d ps f3 h
     rw [tp] at h1 h2;obtain ⟨k1,k2,k3,k4,k5⟩:=Ro (ai:=ai) (m:=m) (S:=S) fa hIH len 0 jK h1;have hrl:rest.length=cap-len:=by rw [L6 h2];simp
     have jl:cap≠0->a.spot=none:=by
      intro Un;rcases xo len with h0 | h0
      ·subst h0;simp only [yd,Nat.sub_zero] at h2;obtain ⟨_,_,_,_,q5⟩:=Ro (ai:=ai) (m:=m) (S:=S) fa hIH cap 0 rest h2;exact (q5 (by omega)).resolve_right (by omega)
      ·exact (k5 h0).resolve_right (by omega)
     simp only [db,hu,List.length_map];refine ⟨?_,by simp [aH,aR],by rw [yp f1];rfl⟩
     simp only [au];refine ⟨_,_,rfl,?_,rfl⟩;simp only [aj];by_cases Un:cap=0
     ·subst Un;have kE:len=0:=by omega
      subst kE;have he:jK=[]:=yJ k4;subst he;exact .inr ⟨a,rfl,rfl,rfl⟩
     ·obtain ⟨b,o,sp⟩:=a;have jl:=jl Un;simp only at jl;subst jl;refine .inl ⟨b,o,cap,by rw [k4],by omega,fun hx=>?_,?_,k2,by simpa using k1⟩
      ·have:rest.length=0:=by simpa using hx
       omega
      ·generalize hg:((jK.map (·.1)).flatMap fun x=>db P n e x)=l at k1
       cases l with
       | nil=>exact .inl rfl
       | cons c l=>exact .inr (hS b (amP k1))
  ·rename_i sf x1 KT fs hu;simp only [hu] at hf
   split at h
   case isFalse=>cases h
   rename_i hlen
   cases h1:fs.toList.mapM fun f=>DataW.trod enc P w 0 (fun _=>true) held bB f.type ((sf.drop f.offset).take (P.cellsOf f.type)) with
   | none=>rw [h1] at h;simp at h
   | some xs=>
    rw [h1] at h;simp only [wm,yc,yk] at h;obtain ⟨rfl,rfl⟩:=h;obtain ⟨k1,k2⟩:=YN hlen (fun t cs d ps hf h=>IH t cs d ps hf h) fs.toList 0 xs hf h1;simp only [db,hu];exact ⟨by simpa using k1,k2,hlen⟩
  ·rename_i sf x1 KT k e hu;simp only [hu,yg] at hf;obtain ⟨f1,f2⟩:=hf;have f1:=yp f1
   split at h
   case isFalse=>cases h
   rename_i hlen
   cases h1:(xi k).mapM fun i=>DataW.trod enc P w 0 (fun _=>true) held bB e ((sf.drop (i*P.cellsOf e)).take (P.cellsOf e)) with
   | none=>rw [h1] at h;simp at h
   | some xs=>
    rw [h1] at h;simp only [wm,yc,yk] at h;obtain ⟨rfl,rfl⟩:=h;rw [tp] at h1;obtain ⟨k1,k2⟩:=abI (ai:=ai) (m:=m) (S:=S) (fun cs d ps h=>IH e cs d ps f2 h) k 0 xs h1 (by rw [hlen,f1];simp)
    simp only [db,hu];exact ⟨by simpa using k1,k2,hlen⟩
  all_goals first
   | (cases h;done)
   | (simp_all;done)
def lM (P:y6) (n:Nat) (t:yx) (d:xr H):AV:=
 match P.underlying t with
 | some (.struct _) | some (.array _ _)=> .agg (db P n t d)
 | _=>(db P n t d).headD .undef
def ao6 (hS:∀b,b<w.heap.size->S b) {n base:Nat} {t:yx} {v:yf} {d:xr H} {ps:List xV} (hf:flat P n t=true) (h:DataW.Trod enc P w 0 (fun _=>true) held t v d ps)
  (hv:Value.okWide P w .any base t v):aj ai m S w (lM P n t d) v/\aR (lM P n t d)=true:=by
 obtain ⟨bB,h⟩:=h;obtain ⟨h1,h2,h3⟩:=aaw (ai:=ai) (m:=m) hS n bB t _ d ps hf h;have one:v.cells=#[v]->(∀fs,P.underlying t≠some (.struct fs))->(∀k e,P.underlying t≠some (.array k e))->aj ai m S w (lM P n t d) v/\aR (lM P n t d)=true:=by
  intro hc FJ hna;have e:lM P n t d=(db P n t d).headD .undef:=by
   unfold lM
   grind
  rw [e];rw [hc] at h1;generalize db P n t d=l at h1 h2
  cases l with
  | nil=>simp [au] at h1
  | cons x l=>
   simp only [au] at h1;simp only [aH,yg] at h2
   grind
 cases n with
 | zero=>simp [flat] at hf
 | succ n=>
  unfold Value.okWide at hv;simp only [flat] at hf
  cases hu:P.underlying t with
  | none=>simp [hu] at hf
  | some ty=>
   rw [hu] at hv hf;cases ty<;>simp only [Bool.false_eq_true] at hf hv
   case struct fs=>
    obtain ⟨cs,rfl,_,_⟩:=hv;have e:lM P (n+1) t d= .agg (db P (n+1) t d):=by simp only [lM,hu]
    rw [e];exact ⟨by simp only [aj];exact ⟨cs,rfl,h1⟩,by simpa only [aR] using h2⟩
   case array k e=>
    obtain ⟨cs,rfl,_,_⟩:=hv;have e:lM P (n+1) t d= .agg (db P (n+1) t d):=by simp only [lM,hu]
    rw [e];exact ⟨by simp only [aj];exact ⟨cs,rfl,h1⟩,by simpa only [aR] using h2⟩
   all_goals
    refine one ?_ (by simp [hu]) (by simp [hu])
    cases v with
    | agg cs=>exfalso;simp only [Cell.okWide,Cell.ok,hu] at hv
    | _=>rfl
def zj (P:y6) (n:Nat):List yx->List (xr H)->List AV
 | t::ts,d::ds=>lM P n t d::zj P n ts ds
 | _,_=>[]
def aax (hS:∀b,b<w.heap.size->S b) {n base:Nat}:∀{ts:List yx} {vs:List yf} {ds:List (xr H)} {ps:List xV},ts.all (flat P n)=true->DataW.TrodAll enc P w 0 (fun _=>true) held ts vs ds ps->
  (∀(j:Nat) t v,ts[j]? =some t->vs[j]? =some v->Value.okWide P w .any base t v)->au ai m S w (zj P n ts ds) vs/\aH (zj P n ts ds)=true
 | [],[],[],_,_,_,_=>by simp [zj,au,aH]
 | t::ts,v::vs,d::ds,ps,hf,h,hv=>by
  simp only [tL,yg] at hf;obtain ⟨p,q,h1,h2,_⟩:=h;obtain ⟨a1,a2⟩:=ao6 (ai:=ai) (m:=m) hS hf.1 h1 (hv 0 t v rfl rfl);obtain ⟨b1,b2⟩:=aax hS hf.2 h2 (fun j t v h1 h2=>hv (j+1) t v h1 h2);simp only [zj,au,aH,yg]
  grind
 | [],_::_,_,_,_,h,_=>by simp [DataW.TrodAll] at h
 | [],[],_::_,_,_,h,_=>by simp [DataW.TrodAll] at h
 | _::_,[],_,_,_,h,_=>by simp [DataW.TrodAll] at h
 | _::_,_::_,[],_,_,h,_=>by simp [DataW.TrodAll] at h
end
end
section
open Go
section
variable {H:Type} {enc:yx×yf->H} {P:y6} {w w':yi} {held:Bool} {sp:Nat->Bool}
def ajr (hs:∀b,b<w.heap.size->w'.heap[b]? =w.heap[b]?) {a:ue} {u:yf} (h:w.cell? a=some u):w'.cell? a=some u:=by
 have hb:a.block<w.heap.size:=by
  unfold World.cell? at h
  cases hq:w.heap[a.block]? with
  | none=>simp [hq] at h
  | some o=>exact (xx.1 hq).1
 unfold World.cell? at h ⊢;rw [hs _ hb];exact h
def aiV (hs:∀b,b<w.heap.size->w'.heap[b]? =w.heap[b]?) {base:Nat} {a:ue} {n:Nat} {us:List yf} (h:w.cells? base a n=some us):w'.cells? base a n=some us:=by
 unfold World.cells? at h ⊢
 split at h
 ·rename_i hb;rw [yI hb];exact mapM_carry h (fun x y _ _ hx=>ajr hs hx)
 ·cases h
def ao7 {a:ue} {n:Nat} (h:0<n):MemPlace.cell a.block (a.off+0)∈MemPlace.row a n:=by
 unfold MemPlace.row;exact List.mem_map.2 ⟨0,List.mem_range.2 h,rfl⟩
def YO (hs:∀b,b<w.heap.size->w'.heap[b]? =w.heap[b]?):∀(n bB:Nat) (t:yx) (cs:List yf) (d:xr H) (ps:List xV),flat P n t=true->DataW.trod enc P w 0 (fun _=>true) held bB t cs=some (d,ps)->
  (∀p,p∈ps->sp p.block=true)->DataW.trod enc P w' 0 sp held bB t cs=some (d,ps)
 | 0,bB,t,cs,d,ps,hf,h,hp=>by simp [flat] at hf
 | n+1,0,t,cs,d,ps,hf,h,hp=>by simp [DataW.trod] at h
 | n+1,bB+1,t,cs,d,ps,hf,h,hp=>by
  have IH:=YO hs n bB;have elem:∀{e:yx} {a:ue} {y:xr H×List xV},flat P n e=true->(w.cells? 0 a (P.cellsOf e)).bind (DataW.trod enc P w 0 (fun _=>true) held bB e)=some y->(∀p,p∈y.2->sp p.block=true)->
    (w'.cells? 0 a (P.cellsOf e)).bind (DataW.trod enc P w' 0 sp held bB e)=some y:=by
   intro e a y he h hq
   cases h1:w.cells? 0 a (P.cellsOf e) with
   | none=>simp [h1] at h
   | some us=>
    rw [h1] at h;rw [aiV hs h1];simp only [xH] at h ⊢;obtain ⟨d,ps⟩:=y;exact IH e us d ps he h hq
  unfold DataW.trod at h ⊢;simp only [flat] at hf
  split at h
  ·exact h
  ·exact h
  ·exact h
  ·exact h
  ·rename_i hu;simp [hu] at hf
  ·rename_i hu;simp [hu] at hf
  ·exact h
  ·rename_i e a len cap hu;simp only [hu,yg] at hf;obtain ⟨f1,f2,f3⟩:=hf;have fa:=sW.1 f2;simp only at h ⊢
   split at h
   case isFalse=>cases h
   rename_i hc;rw [yI hc];simp only [y5] at h
   cases h1:(xi len).mapM fun i=>(w.cells? 0 (a.add (i*P.cellsOf e)) (P.cellsOf e)).bind (DataW.trod enc P w 0 (fun _=>true) held bB e) with
   | none=>rw [h1] at h;simp at h
   | some jK=>
    cases h2:(xi (cap-len)).mapM fun j=>(w.cells? 0 (a.add ((len+j)*P.cellsOf e)) (P.cellsOf e)).bind (DataW.trod enc P w 0 (fun _=>true) held bB e) with
    | none=>rw [h1] at h;simp [h2] at h
    | some rest=>
     rw [h1] at h;simp only [xH,h2,wm,yc,yk] at h;obtain ⟨rfl,rfl⟩:=h;have k1:((xi len).mapM fun i=>(w'.cells? 0 (a.add (i*P.cellsOf e)) (P.cellsOf e)).bind (DataW.trod enc P w' 0 sp held bB e))=some jK:=
      mapM_carry h1 (fun x y _ hy hx=>elem f3 hx (fun p hq=>hp p (vc _ (vQ.2 ⟨y,ub _ hy,hq⟩))))
     have k2:((xi (cap-len)).mapM fun j=>(w'.cells? 0 (a.add ((len+j)*P.cellsOf e)) (P.cellsOf e)).bind (DataW.trod enc P w' 0 sp held bB e))=some rest:=
      mapM_carry h2 (fun x y _ hy hx=>elem f3 hx (fun p hq=>hp p (vc _ (vQ.2 ⟨y,vc _ hy,hq⟩))))
     have hr:(if sp a.block=true then (xi (cap-len)).mapM fun j=>(w'.cells? 0 (a.add ((len+j)*P.cellsOf e)) (P.cellsOf e)).bind (DataW.trod enc P w' 0 sp held bB e) else some [])=some rest:=by
      by_cases jl:sp a.block=true
      ·rw [yI jl];exact k2
      ·rw [yB jl];have h0:¬0<(jK.length+rest.length)*P.cellsOf e:=fun h0=>jl (hp _ (ub _ (ao7 h0)))
       have hz:jK.length+rest.length=0:=by
        rcases xo (jK.length+rest.length) with h | h
        ·exact h
        ·exact (h0 (yaR h fa)).elim
       have:rest=[]:=yJ (by omega)
       rw [this]
     rw [k1];simp only [xH];rw [hr];rfl
  ·rename_i sf x1 KT fs hu;simp only [hu] at hf
   split at h
   case isFalse=>cases h
   rename_i hlen;rw [yI hlen]
   cases h1:fs.toList.mapM fun f=>DataW.trod enc P w 0 (fun _=>true) held bB f.type ((sf.drop f.offset).take (P.cellsOf f.type)) with
   | none=>rw [h1] at h;simp at h
   | some xs=>
    rw [h1] at h;simp only [wm,yc,yk] at h;obtain ⟨rfl,rfl⟩:=h;have pD:∀(r:List uk) (o:Nat),Ea P (fun u=>flat P n u) r o (P.cellsOf t)=true->∀f,f∈r->flat P n f.type=true:=by
     intro r
     induction r with
     | nil=>intro o _ f hm;cases hm
     | cons g r ih=>
      intro o hq f hm;simp only [Ea,yg] at hq;rcases List.mem_cons.1 hm with rfl | hm
      ·exact hq.2.1
      ·exact ih _ hq.2.2 f hm
    have k1:(fs.toList.mapM fun f=>DataW.trod enc P w' 0 sp held bB f.type ((sf.drop f.offset).take (P.cellsOf f.type)))=some xs:=
     mapM_carry h1 (fun f y hm hy hx=>IH _ _ y.1 y.2 (pD _ _ hf f hm) hx (fun p hq=>hp p (vQ.2 ⟨y,hy,hq⟩)))
    rw [k1];rfl
  ·rename_i sf x1 KT k e hu;simp only [hu,yg] at hf
   split at h
   case isFalse=>cases h
   rename_i hlen;rw [yI hlen]
   cases h1:(xi k).mapM fun i=>DataW.trod enc P w 0 (fun _=>true) held bB e ((sf.drop (i*P.cellsOf e)).take (P.cellsOf e)) with
   | none=>rw [h1] at h;simp at h
   | some xs=>
    rw [h1] at h;simp only [wm,yc,yk] at h;obtain ⟨rfl,rfl⟩:=h;have k1:((xi k).mapM fun i=>DataW.trod enc P w' 0 sp held bB e ((sf.drop (i*P.cellsOf e)).take (P.cellsOf e)))=some xs:=
     mapM_carry h1 (fun i y _ hy hx=>IH _ _ y.1 y.2 hf.2 hx (fun p hq=>hp p (vQ.2 ⟨y,hy,hq⟩)))
    rw [k1];rfl
  all_goals first
   | (cases h;done)
   | (simp_all;done)
def XP (hs:∀b,b<w.heap.size->w'.heap[b]? =w.heap[b]?) {n:Nat}:∀{ts:List yx} {vs:List yf} {ds:List (xr H)} {ps:List xV},ts.all (flat P n)=true->DataW.TrodAll enc P w 0 (fun _=>true) held ts vs ds ps->
  (∀p,p∈ps->sp p.block=true)->DataW.TrodAll enc P w' 0 sp held ts vs ds ps
 | [],[],[],ps,_,h,_=>by simpa only [DataW.TrodAll] using h
 | t::ts,v::vs,d::ds,ps,hf,h,hp=>by
  simp only [tL,yg] at hf;obtain ⟨p,q,⟨bB,h1⟩,h2,rfl⟩:=h;exact ⟨p,q,⟨bB,YO hs n bB t _ d p hf.1 h1 (fun x hx=>hp x (ub _ hx))⟩,XP hs hf.2 h2 (fun x hx=>hp x (vc _ hx)),rfl⟩
 | [],_::_,_,_,_,h,_=>by simp [DataW.TrodAll] at h
 | [],[],_::_,_,_,h,_=>by simp [DataW.TrodAll] at h
 | _::_,[],_,_,_,h,_=>by simp [DataW.TrodAll] at h
 | _::_,_::_,[],_,_,h,_=>by simp [DataW.TrodAll] at h
end
end
section
open Go Go.ChangeShapes Go.WideShapes
section
variable {H:Type} {enc:yx×yf->H} {P:y6} {W W':yi}
def akK (hc:Calm W W') (may:xV->Prop):W.keptBut W' may:=by
 refine ⟨hc.os,hc.output,fun i hi=>?_⟩;rw [hc.same i hi]
 cases hq:W.heap[i]? with
 | none=>rfl
 | some o=>cases o<;>simp
def aiW (hc:Calm W W') {b off:Nat} (hb:b<W.heap.size):W'.frozen? ⟨b,off,none⟩=W.frozen? ⟨b,off,none⟩:=by
 unfold World.frozen?;simp only;rw [hc.same b hb]
def amQ {fn:Func} {s:yba} {apart fresh handsOn again:Bool} {args:Array yf} {ds gs:List (xr H)} {before:List xV} {n:Nat} {tb:yx}
  (hW:DataW.Whole enc P fn.params.toList s.vars apart W args.toList ds gs before) (hv:s.vars=[]) (Nz:fn.params.toList.all (flat P n)=true) (hc:Calm W W')
  (lE:s.fn H (ds++gs)={results:=[.lit (.bool true)],args:=ds}) (oW:fn.resultTypes=#[tb]) (kH:P.underlying tb=some .bool):
  s.post enc P fn apart fresh handsOn again W args (.bool true) W':=by
 have bi:=hW.lt;have hW0:=hW;obtain ⟨p,q,hA,hV,hpq,hz,hn⟩:=hW;rw [hv] at hV;have hq:gs=[]/\q=[]:=by
  cases gs with
  | nil=>exact ⟨rfl,by simpa only [DataW.TrodVars] using hV⟩
  | cons g gs=>simp [DataW.TrodVars] at hV
 obtain ⟨rfl,rfl⟩:=hq;have hbp:before=p:=by rw [hpq];simp
 subst hbp;have hX:∀sp:Nat->Bool,(∀p∈before,sp p.block=true)->DataW.TrodAll enc P W' 0 sp true fn.params.toList args.toList ds before:=fun sp h=>XP hc.same Nz hA h
 have aeU:∀(b:Nat) (sp:Nat->Bool) (hd:Bool),DataW.TrodAll enc P W' b sp hd fn.resultTypes.toList ((Value.bool true).resultList fn.resultTypes.size) [.lit (.bool true)] []:=by
  intro b sp hd;rw [oW];refine ⟨[],[],⟨1,?_⟩,rfl,rfl⟩;simp [DataW.trod,kH,Value.cells]
 have hold:∀p∈before,(fun b=>decide (b<W.heap.size)) p.block=true:=fun p hp=>by simpa using bi p hp
 have aeV:∀sp:Nat->Bool,DataW.TrodVars enc P W' sp s.vars ([]:List (xr H)) []:=fun sp=>by rw [hv];rfl
 refine ⟨ds,[],before,[],before,[],hW0,by rw [lE];exact aeU _ _ _,by rw [lE];exact hX _ hold,by rw [lE];exact aeV _,akK hc _,fun _=>?_⟩
 refine ⟨?_,[.lit (.bool true)]++ds,[],[]++before++[],⟨[]++before,[],trodAll_append (hX _ (fun _ _=>rfl)) (aeU _ _ _),aeV _,rfl,?_,?_⟩,?_⟩
 ·intro j t r h1 h2;rw [oW] at h1 h2
  cases j with
  | zero=>
   simp only [List.getElem?_toArray,wZ,yc] at h1;simp only [Value.resultList,List.size_toArray,yr,List.length_nil,y5,yd,wZ,yc] at h2;subst h1;subst h2;simp [Value.okWide,kH,Cell.okWide,Cell.ok]
  | succ j=>simp at h1
 ·intro b off hp;have hp:MemPlace.cell b off∈before:=by simpa using hp
  rw [aiW hc (b:=b) (bi _ hp)];exact hz b off hp
 ·intro ha
  have:=hn ha
  simpa using this
 ·intro p hp _;simpa using hp
def akL {O:bA} {n k:Nat} {fn:Func} {s:yba} {apart fresh handsOn again:Bool} {base:Nat} {args:Array yf} {ds gs:List (xr H)} {before:List xV} {tb:yx}
  (hp:eX O n (zj O.P k fn.params.toList ds) (.bool true)) (BV:O.w0=W) (lE:O.P.funcs[O.ai n]? =some fn) (hb:fn.body.isSome=true) (BS:fn.name≠ "runtime.NumGoroutine")
  (aQ:∀(j:Nat) t v,fn.params[j]? =some t->args[j]? =some v->Value.okWide O.P W .any base t v)
  (hW:DataW.Whole enc O.P fn.params.toList s.vars apart W args.toList ds gs before) (hv:s.vars=[]) (Nz:fn.params.toList.all (flat O.P k)=true)
  (hfs:s.fn H (ds++gs)={results:=[.lit (.bool true)],args:=ds}) (oW:fn.resultTypes=#[tb]) (kH:O.P.underlying tb=some .bool):
  Calls O.P (O.ai n) args W fun e W'=>∃v,e= .returned v/\s.post enc O.P fn apart fresh handsOn again W args v W':=by
 have hA:=hW;obtain ⟨p,q,hA,_⟩:=hA;obtain ⟨h1,h2⟩:=aax (ai:=O.ai) (m:=fq) (S:=fun b=>b<W.heap.size) (fun b hb=>hb) Nz hA (fun j t v a b=>aQ j t v (by simpa using a) (by simpa using b));have hi:=hp W (fun b=>b<W.heap.size) args ⟨fun b _=>by rw [BV],by rw [BV];exact yC _⟩ (fun b hb=>hb) h1 h2
 have key:∀e W',aah O W (fun b=>b<W.heap.size) (.bool true) e W'->∃v,e= .returned v/\s.post enc O.P fn apart fresh handsOn again W args v W':=by
  rintro e W' ⟨u,S',rfl,hc,_,_,_,hr⟩;simp only [nL,iB,aj] at hr;obtain ⟨_,_,hu,_⟩:=hr;subst hu;exact ⟨_,rfl,amQ hW hv Nz hc hfs oW kH⟩
 rcases hi with ⟨_,hi⟩ | ⟨u,w',hi,_⟩
 ·exact callsIn_wide.1 (hi.mono key)
 ·rw [Mq lE hb BS] at hi;cases hi
end
end
section
namespace J1
open Go Go.Proofs
noncomputable def O (W:yi):bA:=⟨Tryz.prog,VE.aU,zP ss.ai,VE.prog,Ny ss.cr ss.hd,W⟩
def ZB {w:yi} {k:Nat} {os:Array Go.Obj}:Calm w (Go.Sort.grow (w.drewN k) os):=Hz (Lib.below_grow w.heap.size w (yC _) k os)
def aay {W w:yi} (h:Lib.TabIs Tryz.prog W "internal/strconv.uint64pow10" .u64 Lib.pow10Tab) (hg:Bc (O W) w):Lib.TabIs Tryz.prog w "internal/strconv.uint64pow10" .u64 Lib.pow10Tab:=by
 unfold Lib.TabIs World.var? at h ⊢
 cases hn:Tryz.prog.globalNamed "internal/strconv.uint64pow10" with
 | none=>rw [hn] at h;exact h
 | some g=>
  rw [hn] at h;simp only [xH] at h ⊢;have hb:g<W.heap.size:=by
   cases hq:W.heap[g]? with
   | none=>rw [hq] at h;cases h
   | some o=>exact (xx.1 hq).1
  rw [hg.1 g hb];exact h
def au6:∀args w,(callFunc 144 args).run Tryz.prog w= .ok (.enter 144 args) w:=enters_of Tryz.func144 (by kernel_rfl) rfl
def au7:∀args w,(callFunc 143 args).run Tryz.prog w= .ok (.enter 143 args) w:=enters_of Tryz.func143 (by kernel_rfl) rfl
def au8:∀args w,(callFunc 205 args).run Tryz.prog w= .ok (.enter 205 args) w:=enters_of Tryz.func205 (by kernel_rfl) rfl
def au9:∀args w,(callFunc 208 args).run Tryz.prog w= .ok (.enter 208 args) w:=enters_of Tryz.func208 (by kernel_rfl) rfl
def ava:∀args w,(callFunc 209 args).run Tryz.prog w= .ok (.enter 209 args) w:=enters_of Tryz.func209 (by kernel_rfl) rfl
def avb:∀args w,(callFunc 222 args).run Tryz.prog w= .ok (.enter 222 args) w:=enters_of Tryz.func222 (by kernel_rfl) rfl
def avc:∀args w,(callFunc 196 args).run Tryz.prog w= .ok (.enter 196 args) w:=enters_of Tryz.func196 (by kernel_rfl) rfl
def avd:∀args w,(callFunc 197 args).run Tryz.prog w= .ok (.enter 197 args) w:=enters_of Tryz.func197 (by kernel_rfl) rfl
def ave:∀args w,(callFunc 198 args).run Tryz.prog w= .ok (.enter 198 args) w:=enters_of Tryz.func198 (by kernel_rfl) rfl
def avf:∀args w,(callFunc 193 args).run Tryz.prog w= .ok (.enter 193 args) w:=enters_of Tryz.func193 (by kernel_rfl) rfl
def avg:∀args w,(callFunc 251 args).run Tryz.prog w= .ok (.enter 251 args) w:=enters_of Tryz.func251 (by kernel_rfl) rfl
def avh:∀args w,(callFunc 247 args).run Tryz.prog w= .ok (.enter 247 args) w:=enters_of Tryz.func247 (by kernel_rfl) rfl
def atW (W:yi) (n:Nat) (sp:List AV->Option AV):Prop:=∀vals r,sp vals=some r->eX (O W) n vals r
section
variable {W:yi} {m:Int} (hm:W.cell? ⟨0,0,none⟩=some (.int .i64 m)) (ht:Lib.TabIs Tryz.prog W "internal/strconv.uint64pow10" .u64 Lib.pow10Tab)
include hm ht
def ara:afE.lZ (atW W):=
 (Tr.kS (aij (O:=O W) (f:=197) (by rfl) avd Tryz.strings_TrimPrefix)
  (Tr.kS (aik (O:=O W) (f:=208) (by rfl) au9 (fun z w hz hg=>(Tryz.aic z hz w (aay ht hg)).mono fun _ _ ⟨h1,k,os,h2⟩=>⟨h1,h2▸ZB⟩))
  (Tr.kS (aio (O:=O W) (f:=143) (by rfl) au7 Tryz.strings_CutPrefix)
  (Tr.kS (aoQ (O:=O W) (f:=144) (by rfl) au6 (a:=⟨0,0,none⟩) (m:=m) hm (fun s sep w hs hc=>Tryz.strings_Cut s sep m w hs hc))
  Tr.jJ Tr.jJ) (Tr.kS (amF (O:=O W) (f:=205) (by rfl) au8 (fun z w h0 h1 hg=>(Tryz.strconv_Itoa z h0 h1 w (aay ht hg)).mono fun _ _ ⟨h1,k,os,h2⟩=>⟨h1,h2▸ZB⟩))
  Tr.jJ Tr.jJ)) (Tr.kS (akC (O:=O W) (f:=222) (by rfl) avb (fun x y w hx hy=>Tryz.bits_Mul64 x y hx hy w))
  (Tr.kS (ajp (O:=O W) (f:=209) (by rfl) ava Tryz.strings_Repeat)
  Tr.jJ Tr.jJ) (Tr.kS (aip (O:=O W) (f:=196) (by rfl) avc Tryz.strings_HasPrefix)
  Tr.jJ Tr.jJ))) (Tr.kS (akE (O:=O W) (f:=261) (by rfl) (fun x y c w h=>Tryz.bits_Add64 x y c h w))
  (Tr.kS (amE (O:=O W) (f:=193) (by rfl) avf (fun s cs w hs jj ha=>Tryz.aiC s cs w hs jj ha))
  (Tr.kS (amG (O:=O W) (f:=198) (by rfl) ave (fun s z w hl h=>(Tryz.strconv_Atoi s z hl h w).mono fun _ _ ⟨h1,t,h2⟩=>⟨h1,h2▸Hz (Lib.bytesWorld_below _ _ _)⟩))
  Tr.jJ Tr.jJ) (Tr.kS (amH (O:=O W) (f:=251) (by rfl) avg (fun x w h0 h1=>Tryz.bits_LeadingZeros64 x w h0 h1))
  Tr.jJ Tr.jJ)) (Tr.kS (akD (O:=O W) (f:=247) (by rfl) avh (fun x w h0 h1=>Tryz.bits_Len64 x w h0 h1))
  (Tr.kS (akF (O:=O W) (f:=262) (by rfl) (fun x y b w h=>Tryz.bits_Sub64 x y b h w))
  Tr.jJ Tr.jJ) Tr.jJ)))
def ao8:eP (O W) where
 hint n f g h:=Tr.Cp (p:=fun f g=>zP ss.ai g=f) (QT ss.aq1) h
 mixed:=by kernel_rfl
 prog n F h:=Tr.Cp ss.ao4 h
 aU n sp vals r h hs:=Tr.Cp (ara hm ht) h vals r hs
 E8 n sp hp ct vals v ao bg h:=by cases h
end
end J1
end
section
def bj:List Int->Int
 | []=>0
 | a::r=>if a=0 then bj r else a
def QF {l:List Int} {i:Nat} (h:i<l.length):bj (l.drop i)=if l[i]=0 then bj (l.drop (i+1)) else l[i]:=by
 rw [yL h,bj]
def dB (lo hi:Int):List Int->Bool
 | []=>false
 | a::r=>if a<lo\/hi<a then true else dB lo hi r
def akM {lo hi:Int} {l:List Int} {i:Nat} (h:i<l.length):dB lo hi (l.drop i)=if l[i]<lo\/hi<l[i] then true else dB lo hi (l.drop (i+1)):=by
 rw [yL h,dB]
def fB (n:Nat) (lo hi:Int):List (List Int)->Int
 | []=>0
 | r::s=>if r.length≠n then 2 else if dB lo hi r=true then 3 else fB n lo hi s
def YP {n:Nat} {lo hi:Int} {s:List (List Int)} {i:Nat} (h:i<s.length):
  fB n lo hi (s.drop i)=if s[i].length≠n then 2 else if dB lo hi s[i]=true then 3 else fB n lo hi (s.drop (i+1)):=by
 rw [yL h,fB]
def jX (s:List (List Int)):Int:=if s.length=0 then 12 else if 16<s.length then 5 else fB s.length (-1000) 1000 s
def AP (k:List (List Int)):Int:=if k.length=0 then 12 else if 5<k.length then 5 else if k.length%2=0 then 2 else fB k.length (-100) 100 k
def pV:List (List Int)->Bool
 | []=>true
 | r::s=>if 18<r.length then false else pV s
def ail {s:List (List Int)} {i:Nat} (h:i<s.length):pV (s.drop i)=if 18<s[i].length then false else pV (s.drop (i+1)):=by
 rw [yL h,pV]
def A8 (n:Nat) (s:List (List Int)):Bool:=if n<s.length/\s.length<=16\/18<s.length then false else pV s
def dK:List Int->Int
 | []=>0
 | a::r=>a+dK r
def Cm {l:List Int} {i:Nat} (h:i<l.length):dK (l.take (i+1))=dK (l.take i)+l[i]:=by
 induction l generalizing i with
 | nil=>exact absurd h (uJ _)
 | cons a r ih=>
  cases i with
  | zero=>simp [dK]
  | succ i=>
   have h':i<r.length:=by simp_all
   simp only [wh,dK,List.getElem_cons_succ,ih h'];omega
def LV {l:List Int} (h:dB 0 1000 l=false):0<=dK l/\dK l<=1000*l.length:=by
 induction l with
 | nil=>simp [dK]
 | cons a r ih=>
  simp only [dB] at h
  split at h
  ·grind
  ·rename_i hc
   have:=ih h
   simp only [dK,yr];omega
def HY {lo hi:Int} {l:List Int} (h:dB lo hi l=false):∀i (cu:i<l.length),lo<=l[i]/\l[i]<=hi:=by
 induction l with
 | nil=>intro i cu;exact absurd cu (uJ _)
 | cons a r ih=>
  simp only [dB] at h
  grind
def Rr {lo hi:Int} {l:List Int} (h:dB lo hi l=false):∀i,dB lo hi (l.take i)=false:=by
 induction l with
 | nil=>intro i;simp [dB]
 | cons a r ih=>
  intro i;simp only [dB] at h
  split at h
  ·grind
  ·rename_i hc
   cases i with
   | zero=>simp [dB]
   | succ i=>simp only [wh,dB,hc,yO,ih h i]
def HZ (key side:Int) (w:List Int):Int:=
 if key<1\/2147483646<key then 3 else if side<1\/16<side then 3 else if w.length=0 then 12 else if 33<w.length then 5 else if w.length%2=0 then 2 else
 if dB 0 1000 w=true then 3 else if dK w=0 then 6 else 0
def iz (s:List (List Int)) (c r:Int):Int:=(s.getD (r%s.length).toNat []).getD (c%s.length).toNat 0
def ao9 {n m:Int} (h:0<m):(n.tmod m+m).tmod m=n%m:=by
 have e:n.tmod m=if 0<=n\/m∣n then n%m else n%m-m:=by
  grind
 have h1:=Int.emod_nonneg n (by omega:m≠0);rw [e]
 split
 ·rw [xn (by omega),Int.add_emod_right,yaS]
 ·rw [show n%m-m+m=n%m by omega,xn h1,yaS]
def HO {n:Nat} {lo hi:Int} {s:List (List Int)} (h:fB n lo hi s=0):∀i (cu:i<s.length),s[i].length=n/\dB lo hi s[i]=false:=by
 induction s with
 | nil=>intro i cu;exact absurd cu (uJ _)
 | cons r s ih=>
  simp only [fB] at h
  grind
end
section
def dv:List Int->Nat
 | []=>0
 | a::r=>a.toNat+1000000000*dv r
def mh:∀(a b:List Int),dv (a++b)=dv a+1000000000^a.length*dv b
 | [],b=>by simp [dv]
 | x::a,b=>by
  simp only [y7,dv,mh a b,yr,xg,xt]
  grind
def oG {l:List Int} (i:Nat):dv (l.take (i+1))=dv (l.take i)+1000000000^i*(l.getD i 0).toNat:=by
 by_cases h:i<l.length
 ·rw [vj h,mh,yT,wu (by omega)];simp [dv,y9,List.getElem?_eq_getElem h]
 ·rw [yM (by omega),yM (by omega)]
  grind
abbrev dg (l:List Int):Prop:=dB 0 999999999 l=false
def hJ {a b:List Int}:dg (a++b)↔dg a/\dg b:=by
 induction a with
 | nil=>simp [dg,dB]
 | cons x a ih=>
  simp only [dg,y7,dB] at ih ⊢
  grind
def jF {x:Int}:dg [x]↔0<=x/\x<1000000000:=by
 simp only [dg,dB]
 grind
def iv {l:List Int} (h:dg l) (i:Nat):0<=l.getD i 0/\l.getD i 0<1000000000:=by
 by_cases hi:i<l.length
 ·have:=HY h i hi
  grind
 ·grind
def Cu {l:List Int} (h:dg l) (i:Nat):dg (l.take i):=Rr h i
def jL:∀{l:List Int},dg l->dv l<1000000000^l.length
 | [],_=>by simp [dv]
 | x::l,h=>by
  have h':dg ([x]++l):=h;obtain ⟨h1,h2⟩:=hJ.1 h';have h1:=jF.1 h1
  have:=jL h2
  simp only [dv,yr,xg];omega
def et:List Int->List Int
 | []=>[]
 | a::r=>match et r with | []=>if a=0 then [] else [a] | t::q=>a::t::q
def HB:∀l:List Int,et (l++[0])=et l
 | []=>rfl
 | a::l=>by simp only [y7,et,HB l]
def LW {a:Int} (h:a≠0):∀l:List Int,et (l++[a])=l++[a]
 | []=>by simp [et,h]
 | b::l=>by
  simp only [y7,et,LW h l]
  cases hq:l++[a] with
  | nil=>simp at hq
  | cons t q=>rfl
def sP:∀l:List Int,dv (et l)=dv l
 | []=>rfl
 | a::l=>by
  have ih:=sP l;simp only [et,dv]
  split
  ·rename_i h;rw [h] at ih
   split
   ·rename_i h0;subst h0;simp [dv,<-ih]
   ·simp [dv,<-ih]
  ·rename_i t q h;rw [h] at ih;simp only [dv] at ih ⊢;omega
def AT:∀{l:List Int},dg l->dg (et l)
 | [],_=>rfl
 | a::l,h=>by
  have h':dg ([a]++l):=h;obtain ⟨h1,h2⟩:=hJ.1 h';have ih:=AT h2;simp only [et]
  split
  ·grind
  ·rename_i t q hq;rw [hq] at ih
   exact (hJ (a:=[a]) (b:=t::q)).2 ⟨h1,ih⟩
def L7:∀l:List Int,(et l).length<=l.length
 | []=>yC _
 | a::l=>by
  have ih:=L7 l;simp only [et]
  grind
def snoc {α:Type} (l:List α):l=[]\/∃m a,l=m++[a]:=by
 rcases List.eq_nil_or_concat l with h | ⟨m,a,h⟩
 ·grind
 ·grind
def aiX:∀(n:Nat) (l:List Int),l.length=n->et (et l)=et l:=by
 intro n
 induction n with
 | zero=>intro l h;rw [yJ h];rfl
 | succ n ih=>
  intro l h;rcases snoc l with rfl | ⟨m,a,rfl⟩
  ·rfl
  ·by_cases h0:a=0
   ·subst h0;rw [HB]
    grind
   ·rw [LW h0,LW h0]
def ajs (l:List Int):et (et l)=et l:=aiX _ l rfl
abbrev nz (l:List Int):Prop:=et l=l
def Eo (l:List Int):nz (et l):=ajs l
def NA {l:List Int} (h:nz l) (hd:dg l) (h0:l≠[]):1000000000^(l.length-1)<=dv l:=by
 rcases snoc l with rfl | ⟨m,a,rfl⟩
 ·grind
 ·by_cases ha:a=0
  ·subst ha
   have:=L7 m
   have e:=congrArg ybb h;rw [HB] at e
   grind
  ·rw [mh]
   have:=jF.1 (hJ.1 hd).2
   simp only [dv,yQ,tf,uN,xF,yX];have h1:1<=a.toNat:=by omega
   have:=yS (1000000000^m.length) h1
   omega
def Sc {l:List Int} (h:nz l) (hd:dg l) (h0:dv l=0):l=[]:=by
 by_cases hl:l=[]
 ·grind
 ·have:=NA h hd hl
  grind
def SI {a b:List Int} (ha:dg a) (hb:nz b) (cY:dg b) (h:a.length<b.length):dv a<dv b:=by
 have h1:=jL ha;have h2:=NA hb cY (fun e=>by subst e;simp at h);have h3:1000000000^a.length<=1000000000^(b.length-1):=xP (by decide) (by omega);omega
def eb (m n:Nat):Int:=if m<n then -1 else if n<m then 1 else 0
def adj {l:List Int} {i:Nat} (h:i<l.length):dv l=dv (l.take i)+1000000000^i*(l[i].toNat+1000000000*dv (l.drop (i+1))):=by
 have e:l=l.take i++l[i]::l.drop (i+1):=by simp_all
 have:dv l=dv (l.take i++l[i]::l.drop (i+1)):=congrArg dv e
 rw [this,mh,yT,wu (by omega)];rfl
def abJ {a b:List Int} {i:Nat} (ha:dg a) (hb:dg b) (h1:i<a.length) (h2:i<b.length) (he:a.drop (i+1)=b.drop (i+1)) (h:a[i]<b[i]):dv a<dv b:=by
 rw [adj h1,adj h2,he];have hl:=jL (Cu ha i);have g1:=HY ha i h1;have h3:a[i].toNat+1000000000*dv (b.drop (i+1))+1<=b[i].toNat+1000000000*dv (b.drop (i+1)):=by omega
 have:=yS (1000000000^i) h3
 grind
def SJ:∀{l:List Int} {j:Nat} {x:Int},j<l.length->dv (l.set j x)+1000000000^j*(l.getD j 0).toNat=dv l+1000000000^j*x.toNat
 | [],j,x,h=>by simp at h
 | a::l,0,x,_=>by simp [dv];omega
 | a::l,j+1,x,h=>by
  have ih:=SJ (l:=l) (j:=j) (x:=x) (by simpa using h);simp only [tK,dv,tC,xg]
  grind
def M3 {l:List Int} (h:dg l) {j:Nat} {x:Int} (hx:0<=x/\x<1000000000):dg (l.set j x):=by
 by_cases hj:j<l.length
 ·rw [List.set_eq_take_append_cons_drop,yI hj];have e:l=l.take (j+1)++l.drop (j+1):=(xN _ _).symm;have hd:dg (l.drop (j+1)):=by rw [e] at h;exact (hJ.1 h).2
  exact hJ.2 ⟨Cu h j,(hJ (a:=[x]) (b:=l.drop (j+1))).2 ⟨jF.2 hx,hd⟩⟩
 ·rw [List.set_eq_of_length_le (by omega)];exact h
def aaz {l:List Int} {j m:Nat} {x:Int} (h:m≠j):(l.set j x).getD m 0=l.getD m 0:=by grind
def amR {V0 V V' p q A X Y o c s:Nat} (hs:s=o+A*X+c) (aW:V'+p*q*o=V+p*q*(s%1000000000)) (hv:V+p*q*c=V0+p*(A*Y)):
  V'+p*(q*1000000000)*(s/1000000000)=V0+p*(A*(Y+q*X)):=by
 have e:=Nat.mod_add_div s 1000000000;have e2:p*q*s=p*q*(s%1000000000)+p*(q*1000000000)*(s/1000000000):=by
  conv=>lhs;rw [<-e]
  rw [xt,<-xk (p*q),<-xk p q]
 have e3:p*q*s=p*q*o+p*q*(A*X)+p*q*c:=by rw [hs,xt,xt]
 have e4:p*(A*(Y+q*X))=p*(A*Y)+p*q*(A*X):=by
  rw [xt,xt,xk p q,<-xk A q X,xE A q,xk q A X]
 omega
def aaA (n:Nat):dv (yz n 0)=0:=by
 induction n with
 | zero=>rfl
 | succ n ih=>simp [xW,dv,ih]
def aaB (n:Nat):dg (yz n 0):=by
 induction n with
 | zero=>rfl
 | succ n ih=>exact (hJ (a:=[0]) (b:=yz n 0)).2 ⟨by decide,ih⟩
end
section
def bv (b:Nat):List Nat->Nat
 | []=>0
 | a::r=>a+b*bv b r
def lo (b:Nat) (l:List Nat):Prop:=∀x,x∈l->x<b
section
variable {b:Nat}
def zk (a:Nat):bv b [a]=a:=by simp [bv]
def rh:∀(l m:List Nat),bv b (l++m)=bv b l+b^l.length*bv b m
 | [],m=>by simp [bv]
 | x::l,m=>by
  simp only [y7,bv,rh l m,yr,xg,xt]
  grind
def gd {l:List Nat} {i:Nat} (h:i<l.length):l[i]=l.getD i 0:=by simp_all
def SK {l:List Nat} {i:Nat} (h:l.length<=i):l.getD i 0=0:=by simp_all
def jv {l:List Nat} (i:Nat):bv b (l.take (i+1))=bv b (l.take i)+b^i*l.getD i 0:=by
 by_cases h:i<l.length
 ·rw [vj h,rh,yT,wu (by omega),zk,gd h]
 ·rw [yM (by omega),yM (by omega),SK (by omega),xF,yX]
def M4:lo b []:=fun _ h=>by simp at h
def L8 {l m:List Nat}:lo b (l++m)↔lo b l/\lo b m:=by
 constructor
 ·intro h;exact ⟨fun x hx=>h x (by simp [hx]),fun x hx=>h x (by simp [hx])⟩
 ·rintro ⟨h1,h2⟩ x hx;rcases List.mem_append.1 hx with h | h
  ·exact h1 x h
  ·exact h2 x h
def EK {x:Nat}:lo b [x]↔x<b:=by simp [lo]
def gP (hb:0<b) {l:List Nat} (h:lo b l) (i:Nat):l.getD i 0<b:=by
 by_cases hi:i<l.length
 ·rw [<-gd hi];exact h _ (List.getElem_mem hi)
 ·grind
def A0 {l:List Nat} (h:lo b l) (i:Nat):lo b (l.take i):=fun x hx=>h x (List.mem_of_mem_take hx)
def abK {l:List Nat} (h:lo b l) (i:Nat):lo b (l.drop i):=fun x hx=>h x (List.mem_of_mem_drop hx)
def mr {l:List Nat} (h:lo b l) {i x:Nat} (hx:x<b):lo b (l.set i x):=fun y hy=>by
 rcases List.mem_or_eq_of_mem_set hy with h1 | h1
 ·exact h y h1
 ·omega
def EL (hb:0<b) (n:Nat):lo b (yz n 0):=fun x hx=>by
 grind
def EM (n:Nat):bv b (yz n 0)=0:=by
 induction n with
 | zero=>rfl
 | succ n ih=>simp [xW,bv,ih]
def Cv (n m:Nat):(yz n (0:Nat)).getD m 0=0:=by grind
def mz:∀{l:List Nat},lo b l->bv b l<b^l.length
 | [],_=>by simp [bv]
 | x::l,h=>by
  have h1:=h x (by simp);have h2:=mz (l:=l) (fun y hy=>h y (by simp [hy]));simp only [bv,yr,xg,xE _ b]
  have:=yS b (show bv b l+1<=b^l.length from h2)
  grind
def nG:∀{l:List Nat} {i x:Nat},i<l.length->bv b (l.set i x)+b^i*l.getD i 0=bv b l+b^i*x
 | [],i,x,h=>by simp at h
 | a::l,0,x,_=>by simp [bv];omega
 | a::l,i+1,x,h=>by
  have ih:=nG (l:=l) (i:=i) (x:=x) (by simpa using h)
  have:=congrArg (fun t=>b*t) ih
  simp only [xt] at this;simp only [tK,bv,tC,xg,xE _ b,xk] at this ⊢;omega
def oH {l:List Nat} {i m x:Nat} (h:i≠m):(l.set i x).getD m 0=l.getD m 0:=by simp_all
def ajt {l:List Nat} {i x:Nat} (h:i<l.length):(l.set i x).getD i 0=x:=by simp_all
def H0 (l:List Nat) (i:Nat) (h:i<=l.length):bv b l=bv b (l.take i)+b^i*bv b (l.drop i):=by
 have:=rh (b:=b) (l.take i) (l.drop i)
 simp_all
def ew:List Nat->List Nat
 | []=>[]
 | a::r=>match ew r with | []=>if a=0 then [] else [a] | t::q=>a::t::q
def LX:∀l:List Nat,ew (l++[0])=ew l
 | []=>rfl
 | a::l=>by simp only [y7,ew,LX l]
def Eb {a:Nat} (h:a≠0):∀l:List Nat,ew (l++[a])=l++[a]
 | []=>by simp [ew,h]
 | b::l=>by
  simp only [y7,ew,Eb h l]
  cases hq:l++[a] with
  | nil=>simp at hq
  | cons t q=>rfl
abbrev gL (l:List Nat):Prop:=ew l=l
def aju:∀(n:Nat) (l:List Nat),l.length=n->∃i,i<=n/\ew l=l.take i/\gL (l.take i)/\bv b (l.take i)=bv b l:=by
 intro n
 induction n with
 | zero=>intro l h;rw [yJ h];exact ⟨0,yC _,rfl,rfl,rfl⟩
 | succ n ih=>
  intro l h;rcases snoc l with rfl | ⟨m,a,rfl⟩
  ·grind
  ·have hm:m.length=n:=by simp_all
   by_cases h0:a=0
   ·subst h0;obtain ⟨i,h1,h2,h3,h4⟩:=ih m hm;have e:(m++[0]).take i=m.take i:=by grind
    refine ⟨i,by omega,by rw [LX,h2,e],by rw [e];exact h3,?_⟩
    rw [e,h4,rh];simp [bv]
   ·have e:(m++[a]).take (n+1)=m++[a]:=yM (by simp [hm]);exact ⟨n+1,yC _,by rw [e,Eb h0],by rw [e];exact Eb h0 m,by rw [e]⟩
def L9 (l:List Nat):∃i,i<=l.length/\ew l=l.take i/\gL (ew l)/\bv b (ew l)=bv b l:=by
 obtain ⟨i,h1,h2,h3,h4⟩:=aju (b:=b) l.length l rfl
 grind
def AU (l:List Nat):bv b (ew l)=bv b l:=by
 obtain ⟨_,_,_,_,h⟩:=L9 (b:=b) l;exact h
def AW (l:List Nat):gL (ew l):=by
 obtain ⟨_,_,_,h,_⟩:=L9 (b:=2) l;exact h
def AX {l:List Nat} (h:lo b l):lo b (ew l):=by
 obtain ⟨i,_,h2,_⟩:=L9 (b:=b) l;rw [h2];exact A0 h i
def akN (l:List Nat):(ew l).length<=l.length:=by
 obtain ⟨i,_,h2,_⟩:=L9 (b:=2) l
 grind
def Mr {l:List Nat} (h:gL l) (h0:l≠[]):l.getD (l.length-1) 0≠0:=by
 rcases snoc l with rfl | ⟨m,a,rfl⟩
 ·grind
 ·intro ha
  have:a=0:=by
   grind
  subst this;have e:=congrArg ybb h;rw [LX] at e
  have:=akN m
  grind
def M5 (hb:0<b) {l:List Nat} (h:gL l) (h0:l≠[]):b^(l.length-1)<=bv b l:=by
 rcases snoc l with rfl | ⟨m,a,rfl⟩
 ·grind
 ·have ha:=Mr h h0;simp [y9] at ha;rw [rh,zk];simp only [yQ,tf,uN]
  have:=yS (b^m.length) (show 1<=a by omega)
  omega
def amS (hb:0<b) {l:List Nat} (h:gL l) (h0:bv b l=0):l=[]:=by
 by_cases hl:l=[]
 ·grind
 ·have:=M5 hb h hl
  grind
def MN (hb:1<b) {l m:List Nat} (hl:lo b l) (hm:gL m) (h:l.length<m.length):bv b l<bv b m:=by
 have h1:=mz hl;have h2:=M5 (b:=b) (by omega) hm (fun e=>by subst e;simp at h);have h3:b^l.length<=b^(m.length-1):=xP (by omega) (by omega);omega
def abL {l m:List Nat} (hl:lo b l) {i:Nat} (h1:i<l.length) (h2:i<m.length) (he:l.drop (i+1)=m.drop (i+1)) (h:l.getD i 0<m.getD i 0):bv b l<bv b m:=by
 rw [H0 l (i+1) (by omega),H0 m (i+1) (by omega),he,jv,jv]
 have:=mz (A0 hl i)
 have:=yS (b^i) (show l.getD i 0+1<=m.getD i 0 from h)
 grind
def akO (hb:1<b) {l:List Nat} {k:Nat} (h:gL l) (hk:bv b l<b^k):l.length<=k:=by
 by_cases h0:l=[]
 ·grind
 ·have h1:=M5 (b:=b) (by omega) h h0;have h2:b^(l.length-1)<b^k:=wJ h1 hk
  have:=(Nat.pow_lt_pow_iff_right hb).1 h2
  omega
def YQ {V v1 v2 vr U u0 u1 u2 ur p t r:Nat} (hV:V=(v1*b+v2)*p+vr) (hU:U=((u0*b+u1)*b+u2)*p+ur) (hur:ur<p)
  (ht:t*v1+r=u0*b+u1) (h:r*b+u2<t*v2):U/V<=t-1:=by
 have h1:U<t*V:=by
  have e:t*((v1*b+v2)*p)=((t*v1)*b+t*v2)*p:=by
   grind
  have h2:((u0*b+u1)*b+u2)+1<=(t*v1)*b+t*v2:=by rw [<-ht,wj];omega
  have h3:=yW p h2;rw [hV,hU,xt,e]
  grind
 have qS:0<V:=by
  grind
 have:=(Nat.div_lt_iff_lt_mul qS).2 h1
 omega
def ZC {V v1 v2 vr U u0 u1 u2 ur p t r:Nat} (hb:0<b) (hV:V=(v1*b+v2)*p+vr) (KU:vr<p) (hU:U=((u0*b+u1)*b+u2)*p+ur) (eG:0<v1) (cX:v2<b) (kH:t<b)
  (ht:t*v1+r=u0*b+u1) (h:b<=r\/t*v2<=r*b+u2):t<=U/V+1:=by
 have h2:t*v2<=r*b+u2:=by
  rcases h with h | h
  ·have:=Nat.mul_le_mul (uU kH) (uU cX)
   have:=yW b h
   omega
  ·exact h
 have h3:t*(v1*b+v2)<=(u0*b+u1)*b+u2:=by
  rw [xt,<-xk,<-ht,wj];omega
 have hp:0<p:=by omega
 have aAW:b<=v1*b:=Nat.le_mul_of_pos_left b eG;have qS:0<V:=by
  have:=yaR (show 0<v1*b+v2 by omega) hp
  omega
 rcases xo t with h0 | h0
 ·grind
 ·obtain ⟨s,rfl⟩:∃s,t=s+1:=⟨t-1,by omega⟩;have h4:s*V<=U:=by
   have h5:V<=(v1*b+v2+1)*p:=by grind
   have h6:=yS s h5;have h7:s*(v1*b+v2+1)<=(s+1)*(v1*b+v2):=by
    grind
   have h8:=yW p (Nat.le_trans h7 h3)
   grind
  exact Nat.succ_le_succ ((tu qS).2 h4)
def QG {V v1 v2 vr U u0 u1 u2 ur p:Nat} (hV:V=(v1*b+v2)*p+vr) (hU:U=((u0*b+u1)*b+u2)*p+ur) (hur:ur<p) (Ao:u2<b) (eG:0<v1):U/V<=(u0*b+u1)/v1:=by
 by_cases qS:V=0
 ·grind
 ·refine (tu eG).2 ?_;have h1:=Nat.div_mul_le_self U V;generalize U/V=q at h1 ⊢;have h2:q*v1*(b*p)<=q*V:=by
   rw [hV,xk]
   grind
  have h3:U<(u0*b+u1+1)*(b*p):=by
   have:(u0*b+u1)*b+u2+1<=(u0*b+u1+1)*b:=by grind
   have:=yW p this
   grind
  have h4:q*v1*(b*p)<(u0*b+u1+1)*(b*p):=by omega
  have:=uP h4
  omega
def ZD {V v1 v2 vr U u0 u1 u2 ur p:Nat} (hV:V=(v1*b+v2)*p+vr) (hU:U=((u0*b+u1)*b+u2)*p+ur) (KU:vr<p) (cX:v2<b) (h:U<b*V):u0<=v1:=by
 refine Nat.le_of_lt_succ ?_;have h1:V<(v1+1)*(b*p):=by
  have:v1*b+v2+1<=(v1+1)*b:=by grind
  have:=yW p this
  grind
 have h2:u0*(b*(b*p))<=U:=by
  grind
 have h3:=yS b (uU h1);have e:b*((v1+1)*(b*p))=(v1+1)*(b*(b*p)):=by grind
 rw [e] at h3;have h4:u0*(b*(b*p))<(v1+1)*(b*(b*p)):=wJ h2 (Nat.lt_of_lt_of_le h h3);exact uP h4
end
end
section
section
variable {P:aG} {L:Lib} {f:cK} {F:Nat->cK}
def BW (f:cK) (F:Nat->cK):Prop:=∀c s r,f c s=some r->∃n,F n c s=some r
def Mon (F:Nat->cK):Prop:=∀n m,n<=m->Le (F n) (F m)
def Ly (h:BW f F) (n:Nat) (vals:List AV) (r:AV) (hr:bO P L f n vals=some r):∃k,bO P L (F k) n vals=some r:=by
 unfold bO at hr ⊢
 cases hL:L.pure n with
 | some sp=>exact ⟨0,by simpa only [hL] using hr⟩
 | none=>
  simp only [hL] at hr ⊢
  cases hP:P n with
  | none=>simp [hP] at hr
  | some G=>
   simp only [hP] at hr ⊢
   cases hf:f G.body ⟨fG 0 vals,[],0,0⟩ with
   | none=>simp [hf] at hr
   | some q=>
    obtain ⟨k,hk⟩:=h _ _ _ hf
    grind
def QU (h:BW f F) (hp:Hp) (ct:Nat) (n:Nat) (vals:List AV) (r:AV×Hp×Nat) (hr:iH P L f hp ct n vals=some r):∃k,iH P L (F k) hp ct n vals=some r:=by
 unfold iH at hr ⊢
 cases hL:L.heap n with
 | some sp=>exact ⟨0,by simpa only [hL] using hr⟩
 | none=>
  simp only [hL] at hr ⊢
  cases hP:P n with
  | none=>simp [hP] at hr
  | some G=>
   simp only [hP] at hr ⊢
   cases hf:f G.body ⟨fG 0 vals,hp,ct,ct⟩ with
   | none=>simp [hf] at hr
   | some q=>
    obtain ⟨k,hk⟩:=h _ _ _ hf
    grind
def Yh (h:BW f F) (hm:Mon F) (hp:Hp) (ct:Nat) (l:Nat) (xs:List AV) (r:AV×Hp×Nat) (hr:jt f hp ct l xs=some r):∃k,jt (F k) hp ct l xs=some r:=by
 have key:∃k,∀g,Le (F k) g->jt g hp ct l xs=some r:=by
  unfold jt at hr
  cases hl:ak hp l with
  | none=>simp [hl] at hr
  | some o=>
   split at hr
   ·rename_i tm ps as_ body pe fZ
    cases hb:qj tm ps xs with
    | none=>simp [hb] at hr
    | some tm'=>
     simp only [hb] at hr
     cases h1:f as_ ⟨tm',hp,ct,ct⟩ with
     | none=>simp [h1] at hr
     | some q=>
      obtain ⟨k1,nk⟩:=h _ _ _ h1
      split at hr
      ·rename_i s1 TN
       split at hr
       ·rename_i iQ rW Dq CQ px afC
        cases h2:f body ⟨s1.tm,aW s1.hp l (.lp iQ rW Dq CQ 1 px),s1.ct,s1.ct⟩ with
        | none=>simp [h2] at hr
        | some q2=>
         obtain ⟨k2,Ae⟩:=h _ _ _ h2;refine ⟨max k1 k2,fun g hg=>?_⟩;have e1:=hg _ _ _ (hm k1 _ (vv k1 k2) _ _ _ nk);have e2:=hg _ _ _ (hm k2 _ (ve k1 k2) _ _ _ Ae);unfold jt
         grind
       ·simp at hr
      ·simp at hr
   ·simp at hr
 obtain ⟨k,hk⟩:=key;exact ⟨k,hk _ (fun _ _ _ h=>h)⟩
def YR (h:BW f F) (hm:Mon F) (hp:Hp) (ct:Nat) (m:Md) (fv:AV) (xs:List AV) (r:AV×Hp×Nat) (hr:dF P L f hp ct m fv xs=some r):∃k,dF P L (F k) hp ct m fv xs=some r:=by
 unfold dF at hr ⊢
 split at hr
 ·rename_i n first cap
  cases m with
  | pure=>
   cases hz:cO deep hp (first++(xs++cap)) with
   | none=>simp [hz] at hr
   | some q=>
    simp only [hz] at hr ⊢
    cases hc:bO P L f n q.1 with
    | none=>simp [hc] at hr
    | some u=>
     obtain ⟨k,hk⟩:=Ly h n q.1 u hc
     grind
  | own=>
   cases hz:cO deep hp (first++(xs++cap)) with
   | none=>simp [hz] at hr
   | some q=>
    simp only [hz] at hr ⊢
    cases hc:bO P L f n q.1 with
    | none=>simp [hc] at hr
    | some u=>
     obtain ⟨k,hk⟩:=Ly h n q.1 u hc
     grind
  | heap=>exact QU h _ _ _ _ _ hr
  | dyn=>
   cases hz:aH (first++(xs++cap)) with
   | true=>
    simp only [hz,ym] at hr ⊢
    cases hc:bO P L f n (first++(xs++cap)) with
    | none=>simp [hc] at hr
    | some u=>
     obtain ⟨k,hk⟩:=Ly h n _ u hc
     grind
   | false=>
    simp only [hz,yA] at hr ⊢;exact QU h _ _ _ _ _ hr
 ·split at hr
  ·exact Yh h hm _ _ _ _ _ hr
  ·exact Yh h hm _ _ _ _ _ hr
  ·simp at hr
 ·simp at hr
def amT (h:BW f F) (hm:Mon F) (tm:Env) (hp:Hp) (ct:Nat) (o:Op) (r:AV×Hp×Nat) (hr:bw P L f tm hp ct o=some r):∃k,bw P L (F k) tm hp ct o=some r:=by
 unfold bw at hr ⊢
 split at hr
 ·exact YR h hm _ _ _ _ _ _ hr
 ·rename_i rs fv xs
  cases hc:dF P L f hp ct .dyn (aA tm fv) (dG tm xs) with
  | none=>simp [hc] at hr
  | some q=>
   obtain ⟨k,hk⟩:=YR h hm _ _ _ _ _ _ hc
   grind
 all_goals exact ⟨0,by simpa only using hr⟩
def Ru (h:BW f F) (hm:Mon F):∀(ops:List bn) (s s':St),dR P L f ops s=some s'->∃k,dR P L (F k) ops s=some s'
 | [],s,s',hr=>⟨0,by simpa only [dR] using hr⟩
 | ⟨d,gd,o⟩::r,s,s',hr=>by
  simp only [dR] at hr ⊢
  split at hr
  ·rename_i hw
   cases ho:bw P L f s.tm s.hp s.ct o with
   | none=>simp [ho] at hr
   | some q=>
    obtain ⟨k1,nk⟩:=amT h hm _ _ _ _ _ ho;simp only [ho] at hr;obtain ⟨k2,Ae⟩:=Ru h hm r _ _ hr;refine ⟨max k1 k2,?_⟩;rw [Zu (hm k1 _ (vv k1 k2)) _ _ _ _ _ nk];exact LQ (hm k2 _ (ve k1 k2)) r _ _ Ae
  ·rename_i hw;exact Ru h hm r _ _ hr
  ·simp at hr
def Cl (h:BW f F) (hm:Mon F):∀(c:VC) (s:St) (r:Ex×St),bI P L f c s=some r->∃k,bI P L (F k) c s=some r
 | .skip,s,r,hr=>⟨0,by simpa only [bI] using hr⟩
 | .aP ops,s,r,hr=>by
  simp only [bI] at hr ⊢
  cases ho:dR P L f ops s with
  | none=>simp [ho] at hr
  | some s'=>
   obtain ⟨k,hk⟩:=Ru h hm _ _ _ ho
   grind
 | .seq a b,s,r,hr=>by
  simp only [bI] at hr ⊢
  cases ha:bI P L f a s with
  | none=>simp [ha] at hr
  | some q=>
   obtain ⟨k1,nk⟩:=Cl h hm a s q ha;obtain ⟨ex,s1⟩:=q
   cases ex with
   | normal=>
    simp only [ha] at hr;obtain ⟨k2,Ae⟩:=Cl h hm b s1 r hr;refine ⟨max k1 k2,?_⟩;rw [pT (hm k1 _ (vv k1 k2)) a s _ nk];exact pT (hm k2 _ (ve k1 k2)) b s1 r Ae
   | ret=>exact ⟨k1,by rw [nk];simpa only [ha] using hr⟩
   | exit id=>exact ⟨k1,by rw [nk];simpa only [ha] using hr⟩
 | .cond x a b,s,r,hr=>by
  simp only [bI] at hr ⊢
  split at hr
  ·rename_i t ht
   cases t with
   | true=>simp only [ym] at hr ⊢;exact Cl h hm a s r hr
   | false=>simp only [yA] at hr ⊢;exact Cl h hm b s r hr
  ·simp at hr
 | .aK id a,s,r,hr=>by
  simp only [bI] at hr ⊢
  cases ha:bI P L f a s with
  | none=>simp [ha] at hr
  | some q=>
   obtain ⟨k,hk⟩:=Cl h hm a s q ha
   grind
 | .kp live,s,r,hr=>⟨0,by simpa only [bI] using hr⟩
 | .fz ts,s,r,hr=>⟨0,by simpa only [bI] using hr⟩
 | .loop live a,s,r,hr=>by
  simp only [bI] at hr ⊢
  cases ha:bI P L f a (bD live s) with
  | none=>simp [ha] at hr
  | some q=>
   obtain ⟨k1,nk⟩:=Cl h hm a _ q ha;obtain ⟨ex,s1⟩:=q
   cases ex with
   | normal=>
    simp only [ha] at hr;obtain ⟨k2,Ae⟩:=h _ _ _ hr;refine ⟨max k1 k2,?_⟩;rw [pT (hm k1 _ (vv k1 k2)) a _ _ nk];exact hm k2 _ (ve k1 k2) _ _ _ Ae
   | ret=>exact ⟨k1,by rw [nk];simpa only [ha] using hr⟩
   | exit id=>exact ⟨k1,by rw [nk];simpa only [ha] using hr⟩
 | .rf fv ps as_ body,s,r,hr=>by
  simp only [bI] at hr ⊢
  split at hr
  ·rename_i n first cap hx
   split at hr
   ·grind
   ·rename_i hL
    cases hc:iH P L f ((s.ct,.lp s.tm ps as_ body 0 .none)::s.hp) (s.ct+1) n (first++(.fn (.y s.ct) [] []::cap)) with
    | none=>simp [hc] at hr
    | some q=>
     obtain ⟨k,hk⟩:=QU h _ _ _ _ _ hc
     grind
  ·simp at hr
 | .exit id,s,r,hr=>⟨0,by simpa only [bI] using hr⟩
 | .ret,s,r,hr=>⟨0,by simpa only [bI] using hr⟩
end
section
variable (P:aG) (L:Lib)
noncomputable def D:cK:=fun c s=>@dite _ (∃r n,ev P L n c s=some r) (Classical.propDecidable _) (fun h=>some h.choose) (fun _=>none)
variable {P L}
def afF {c:VC} {s:St} {r:Ex×St} {n:Nat} (h:ev P L n c s=some r):D P L c s=some r:=by
 have hx:∃r n,ev P L n c s=some r:=⟨r,n,h⟩;unfold D;obtain ⟨m,hm⟩:=hx.choose_spec;have e1:=Sb P L (vv n m) _ _ _ h;have e2:=Sb P L (ve n m) _ _ _ hm
 grind
def Uo {c:VC} {s:St} {r:Ex×St} (h:D P L c s=some r):∃n,ev P L n c s=some r:=by
 unfold D at h;by_cases hx:∃r n,ev P L n c s=some r
 ·grind
 ·grind
def avi (n:Nat):Le (ev P L n) (D P L):=fun _ _ _ h=>afF h
def aeW:BW (D P L) (ev P L):=fun _ _ _ h=>Uo h
def arb:Mon (ev P L):=fun _ _ h=>Sb P L h
def lh (c:VC) (s:St):D P L c s=bI P L (D P L) c s:=by
 cases h:D P L c s with
 | some r=>
  obtain ⟨n,hn⟩:=Uo h
  cases n with
  | zero=>rw [Ig] at hn;cases hn
  | succ n=>rw [Ih] at hn;exact (pT (avi n) c s r hn).symm
 | none=>
  cases hs:bI P L (D P L) c s with
  | none=>rfl
  | some r=>
   obtain ⟨n,hn⟩:=Cl aeW arb c s r hs;rw [<-Ih] at hn;rw [afF hn] at h;cases h
def adk {f:Nat} {vals:List AV} {r:AV} (h:bO P L (D P L) f vals=some r):∃n,Vt P L n f vals=some r:=Ly aeW f vals r h
end
end
end VE
